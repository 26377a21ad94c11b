/- Go's library's sort by a comparison, over records: the kit's contracts as rules of this logic. -/
import Derived.Shelf.SlSortCmp.WholeK
import Derived.Shelf.SlSortCmp.NoneTotal
import Derived.Test.YtfhjhaogmdaepaaStab
import Derived.Test.YtfhjhaogmdaepaaCell
set_option linter.unusedVariables false
set_option linter.unusedSimpArgs false
set_option linter.unusedSectionVars false
namespace Go.Proofs.Ytfhjhaogmdaepaa
open Go Go.RowKit Go.Sort Go.Shelf
section
variable {α : Type} [Rec α] [Inhabited α]
theorem flatK_rc (d : Array α) : flatK Rec.cells (Rec.n α) d = (rc d.toList).toArray := by
  refine ext_get! (by simp [rc_length]) fun t ht => ?_
  have ht' : t < d.size * Rec.n α := by simpa using ht
  have hn : 0 < Rec.n α := by
    rcases Nat.eq_zero_or_pos (Rec.n α) with h | h
    · rw [h, Nat.mul_zero] at ht'; omega
    · exact h
  rw [get_flatK _ _ _ t ht']
  have hi : t / Rec.n α < d.size := (Nat.div_lt_iff_lt_mul hn).2 ht'
  have hx : d.toList[t / Rec.n α]? = some d[t / Rec.n α]! := by
    rw [Array.getElem?_toList, Array.getElem?_eq_getElem hi, getElem!_pos d _ hi]
  have hj : t % Rec.n α < (Rec.cells d[t / Rec.n α]!).length := by rw [Rec.len]; exact Nat.mod_lt _ hn
  have := rc_at hx (List.getElem?_eq_getElem hj)
  rw [Nat.div_add_mod'] at this
  have ht2 : t < (rc d.toList).toArray.size := by simp [rc_length]; exact ht'
  rw [getElem!_pos (Rec.cells d[t / Rec.n α]!) (t % Rec.n α) hj, getElem!_pos (rc d.toList).toArray t ht2]
  have h3 := (List.getElem?_eq_some_iff.1 this).2
  simp only [List.getElem_toArray]
  exact h3.symm
theorem rc_size (d : Array α) : (rc d.toList).length = d.size * Rec.n α := by rw [rc_length]; simp
end
section
variable {α : Type} [Rec α] [Inhabited α] {C : Cx}
theorem onCells_of {f : Array Value → Array Value} {c : Array Value} {T : TypeId} {fr : Nat × Nat} : onCells f (.cells c T fr) = .cells (f c) T fr := rfl
theorem putCells_left (F c : Array Value) (junk : List Value) (h : F.size = c.size) : putCells id 0 F (c.toList ++ junk).toArray = (F.toList ++ junk).toArray := by
  refine Array.ext (by simp [putCells]; omega) fun i h1 h2 => ?_
  simp only [putCells, List.size_toArray, List.length_append, Array.length_toList, Array.size_mapIdx] at h1 h2
  simp only [putCells, Array.getElem_mapIdx, List.getElem_toArray]
  by_cases hi : i < F.size
  · rw [if_pos ⟨Nat.zero_le _, by omega⟩, List.getElem_append_left (by simpa using hi)]
    simp only [Nat.sub_zero, id, Array.getElem_toList]
    exact getElem!_pos F i hi
  · rw [if_neg (by omega), List.getElem_append_right (by simp; omega), List.getElem_append_right (by simp; omega)]
    simp only [Array.length_toList, h]
theorem heap_sorted {w : World} {b T m : Nat} {d d' : Array α} {junk : List Value} {fr : Nat × Nat} {os : Array Obj} (hg : w.heap[b]? = some (.cells (rc d.toList ++ junk).toArray T fr)) (hs : d'.size = d.size) (i : Nat) (hi : i < w.heap.size) :
    (sortWorldK Rec.cells (Rec.n α) w b 0 m d' os).heap[i]? = if b = i then some (.cells (rc d'.toList ++ junk).toArray T fr) else w.heap[i]? := by
  show ((w.heap.modify b (onCells (putCells id 0 (flatK Rec.cells (Rec.n α) d')))) ++ os)[i]? = _
  rw [Array.getElem?_append_left (by simpa using hi), Array.getElem?_modify]
  split
  · rename_i e
    subst e
    rw [hg]
    show some (onCells _ _) = _
    rw [onCells_of]
    have := putCells_left (flatK Rec.cells (Rec.n α) d') (rc d.toList).toArray junk (by rw [flatK_rc]; simp [rc_length, hs])
    simp only [List.toList_toArray] at this
    rw [this, flatK_rc]
  · rfl
/-- A slice of the call's own, whose cells are d, in the words of the kit. -/
theorem own_sorted {w : World} {h : Heap} {T cap b : Nat} {d : Array α} (hs : ownS T (Rec.n α) (.slice (some ⟨b, 0, none⟩) d.size cap) d.size (rc d.toList) h) (hn : 0 < d.size) (sub : Sub C w h) :
    b < w.heap.size ∧ C.ng ≤ b ∧ HoldsK Rec.cells (Rec.n α) w b 0 d ∧ (∀ m (d' : Array α) os, d'.size = d.size → C.ok (sortWorldK Rec.cells (Rec.n α) w b 0 m d' os)) ∧
    ∀ m (d' : Array α) os, d'.size = d.size → ∃ h', ownS T (Rec.n α) (.slice (some ⟨b, 0, none⟩) d.size cap) d.size (rc d'.toList) h' ∧ Move C w h (sortWorldK Rec.cells (Rec.n α) w b 0 m d' os) h' := by
  have hl := hs.1
  rcases hs.2 with ⟨_, h0, _⟩ | ⟨b', cap', junk, e, hc, hm, hl2, fr, hf, rfl⟩
  · omega
  · simp only [Value.slice.injEq, Option.some.injEq, Addr.mk.injEq] at e
    obtain ⟨⟨rfl, _⟩, _, rfl⟩ := e
    have hg := sub.sub b _ (Heap.one_same _ _)
    have hlt := lt_of_some hg
    have hng := sub.low b _ (Heap.one_same _ _)
    have hok : ∀ m (d' : Array α) os, d'.size = d.size → C.ok (sortWorldK Rec.cells (Rec.n α) w b 0 m d' os) := fun m d' os hd i hi => by
      rw [heap_sorted hg hd i (by omega), if_neg (by omega)]; exact sub.ok i hi
    refine ⟨hlt, hng, ?_, hok, fun m d' os hd => ?_⟩
    · intro j hj
      rw [flatK_rc] at hj ⊢
      simp only [List.size_toArray] at hj
      constructor
      · simp only [World.cell?, hg, Nat.zero_add]
        simp only [getElem!_def, List.getElem?_toArray]
        rw [List.getElem?_append_left hj, List.getElem?_eq_getElem hj]; rfl
      · simp only [World.frozen?, hg, Nat.zero_add]
        simp only [Bool.and_eq_false_iff, decide_eq_false_iff_not]
        rw [List.length_append] at hf
        omega
    · have hlen : (rc d'.toList).length = (rc d.toList).length := by rw [rc_size, rc_size, hd]
      refine ⟨Heap.one b (.cells (rc d'.toList ++ junk).toArray T fr), ⟨by rw [hlen]; exact hl, .inr ⟨b, cap, junk, rfl, hc, hm, by rw [List.length_append, hlen, ← List.length_append]; exact hl2, fr, by rw [List.length_append, hlen, ← List.length_append]; exact hf, rfl⟩⟩, ⟨rfl, rfl, rfl, Nat.le_add_right _ _, ?_, ?_, ?_, ?_, ?_, hok m d' os hd⟩⟩
      · show w.heap.size ≤ (w.heap.modify b _ ++ os).size
        simp
      · intro i hi h0
        rw [heap_sorted hg hd i hi, if_neg (fun e => by subst e; rw [Heap.one_same] at h0; cases h0)]
      · intro i o ho
        obtain ⟨rfl, rfl⟩ := Heap.one_some ho
        rw [heap_sorted hg hd i hlt, if_pos rfl]
      · intro i o ho
        obtain ⟨rfl, rfl⟩ := Heap.one_some ho
        exact hng
      · intro i o ho hi
        obtain ⟨rfl, rfl⟩ := Heap.one_some ho
        rw [Heap.one_same]; simp
/-- What has grown by a call that keeps all there was. -/
theorem grown_of_move {W W' : World} {h : Heap} (m : Move C W Heap.none W' h) : ∃ q os, W' = grow (W.drewN q) os := by
  refine ⟨W'.drawn - W.drawn, W'.heap.extract W.heap.size W'.heap.size, ?_⟩
  have hh : W'.heap = W.heap ++ W'.heap.extract W.heap.size W'.heap.size := by
    refine Array.ext_getElem? fun i => ?_
    rcases Nat.lt_or_ge i W.heap.size with hi | hi
    · rw [Array.getElem?_append_left hi]; exact m.keep i hi rfl
    · rw [Array.getElem?_append_right hi, Array.getElem?_extract]
      split
      · congr 1; omega
      · rw [Array.getElem?_eq_none (by omega)]
  have hd := m.drawn
  obtain ⟨heap, tape, drawn, os, output⟩ := W'
  obtain ⟨heap0, tape0, drawn0, os0, output0⟩ := W
  have h1 : tape = tape0 := m.tape
  have h2 : os = os0 := m.os
  have h3 : output = output0 := m.output
  simp only at hd hh
  subst h1 h2 h3
  simp only [grow, World.drewN, World.mk.injEq, and_true, true_and]
  exact ⟨hh, by omega⟩
theorem cmpLays_of {g : Nat} {cf : α → α → Int} (hs : ∀ x y : α, SpecV C g [.agg (Rec.cells x).toArray, .agg (Rec.cells y).toArray] noPre (.int .i64 (cf x y))) {w : World} {b n : Nat}
    (hok : ∀ m (d' : Array α) os, d'.size = n → C.ok (sortWorldK Rec.cells (Rec.n α) w b 0 m d' os)) : CmpLays C.P g #[] Rec.cells (Rec.n α) cf b 0 n w := fun m os dk hdk x y => by
  have h1 := hs x y (sortWorldK Rec.cells (Rec.n α) w b 0 m dk os) Heap.none rfl ⟨(fun i o h => by cases h), (fun i o h => by cases h), hok m dk os hdk⟩ trivial
  refine h1.mono ?_
  rintro e w' ⟨v, rs, h', rfl, ⟨rfl, rfl⟩, _, mv⟩
  exact ⟨rfl, grown_of_move mv⟩
end
section
variable {α : Type} [Rec α] [Inhabited α] {C : Cx} {ρ : Ren} {g : Nat} {cf : α → α → Int}
/-- slices.SortFunc. -/
theorem sortFunc_of (L : SlLaysF0.n6 C.P ρ) (aE : ∀ w, (isAgg (ρ.t 24)).run C.P w = .ok true w) (zE : ∀ w, (Go.sizeOf (ρ.t 24)).run C.P w = .ok (Rec.n α) w) (hg : callable C.P g = true) (hO : SWO (ltOf cf))
    (hs : ∀ x y : α, SpecV C g [.agg (Rec.cells x).toArray, .agg (Rec.cells y).toArray] noPre (.int .i64 (cf x y))) (T : Nat) (base : Option Addr) (cap : Nat) (d : Array α) (hsz : d.size < 4611686018427387904) :
    Spec C (ρ.f 6) [.slice base d.size cap, .func (.func g) #[] #[]] (fun _ _ => True) [ownS T (Rec.n α) (.slice base d.size cap) d.size (rc d.toList)]
      (fun u rs => u = .tuple #[] ∧ ∃ d' : Array α, PermIn 0 d.size d d' ∧ SortedIn (ltOf cf) 0 d.size d' ∧ rs = [ownS T (Rec.n α) (.slice base d.size cap) d.size (rc d'.toList)]) := by
  intro w h hsep sub _
  rcases Nat.eq_zero_or_pos d.size with h0 | hpos
  · have hc := AnyF.slices_SortFunc_none L base cap (.func (.func g) #[] #[]) w
    rw [h0] at hsep ⊢
    refine hc.mono ?_
    rintro e w' ⟨rfl, rfl⟩
    exact ⟨_, _, h, rfl, ⟨rfl, d, permIn_refl _ _ _, sorted_one (by omega), rfl⟩, hsep, Move.start sub⟩
  · obtain hown := Sep.single.1 hsep
    obtain ⟨b, rfl⟩ : ∃ b, base = some ⟨b, 0, none⟩ := by
      rcases hown.2 with ⟨_, h0, _⟩ | ⟨b', cap', junk, e, _⟩
      · omega
      · simp only [Value.slice.injEq] at e; exact ⟨b', e.1⟩
    obtain ⟨hlt, hng, hH, hok, hmv⟩ := own_sorted hown hpos sub
    have hc := AnyQ.slices_SortFunc L (Rec.n α) aE zE Rec.cells Rec.len Rec.one cf hO g #[] b 0 cap d w (fun args w => run_call hg args w) (cmpLays_of hs hok) hH hlt hsz
    refine hc.mono ?_
    rintro e w' ⟨rfl, d', n, os, hp, hsd, rfl⟩
    obtain ⟨h', ho', hm'⟩ := hmv n d' os hp.1
    exact ⟨_, _, h', rfl, ⟨rfl, d', hp, hsd, rfl⟩, Sep.single.2 ho', hm'⟩
/-- slices.insertionSortCmpFunc. -/
theorem insertion_of (L : SlLaysF0.n20 C.P ρ) (aE : ∀ w, (isAgg (ρ.t 24)).run C.P w = .ok true w) (zE : ∀ w, (Go.sizeOf (ρ.t 24)).run C.P w = .ok (Rec.n α) w) (hg : callable C.P g = true) (hO : SWO (ltOf cf))
    (hs : ∀ x y : α, SpecV C g [.agg (Rec.cells x).toArray, .agg (Rec.cells y).toArray] noPre (.int .i64 (cf x y))) (T : Nat) (base : Option Addr) (cap : Nat) (d : Array α) (a b : Nat) (hab : a ≤ b) (hb : b ≤ d.size) (hsz : d.size < 4611686018427387904) :
    Spec C (ρ.f 20) [.slice base d.size cap, .int .i64 a, .int .i64 b, .func (.func g) #[] #[]] (fun _ _ => True) [ownS T (Rec.n α) (.slice base d.size cap) d.size (rc d.toList)]
      (fun u rs => u = .tuple #[] ∧ ∃ d' : Array α, PermIn a b d d' ∧ SortedIn (ltOf cf) a b d' ∧ rs = [ownS T (Rec.n α) (.slice base d.size cap) d.size (rc d'.toList)]) := by
  intro w h hsep sub _
  rcases Nat.eq_zero_or_pos d.size with h0 | hpos
  · obtain rfl : b = 0 := by omega
    obtain rfl : a = 0 := by omega
    have hc := AnyF.insertionSortCmpFunc_none L base cap (.func (.func g) #[] #[]) w
    rw [h0] at hsep ⊢
    refine hc.mono ?_
    rintro e w' ⟨rfl, rfl⟩
    exact ⟨_, _, h, rfl, ⟨rfl, d, permIn_refl _ _ _, sorted_one (by omega), rfl⟩, hsep, Move.start sub⟩
  · obtain hown := Sep.single.1 hsep
    obtain ⟨b', rfl⟩ : ∃ b, base = some ⟨b, 0, none⟩ := by
      rcases hown.2 with ⟨_, h0, _⟩ | ⟨b', cap', junk, e, _⟩
      · omega
      · simp only [Value.slice.injEq] at e; exact ⟨b', e.1⟩
    obtain ⟨hlt, hng, hH, hok, hmv⟩ := own_sorted hown hpos sub
    have hc := AnyQ.insertionSortCmpFunc L (Rec.n α) aE zE Rec.cells Rec.len Rec.one cf g #[] b' 0 cap a b d w (fun args w => run_call hg args w) (cmpLays_of hs hok) hH hlt hab hb hsz
    refine hc.mono ?_
    rintro e w' ⟨rfl, n, os, rfl⟩
    have hi := insertionSort_holds (lt := ltOf cf) hO d a b hab hb
    obtain ⟨h', ho', hm'⟩ := hmv n _ os hi.1.1
    exact ⟨_, _, h', rfl, ⟨rfl, _, hi.1, hi.2, rfl⟩, Sep.single.2 ho', hm'⟩
end
end Go.Proofs.Ytfhjhaogmdaepaa
