/- Texts that ledgerProves_holds leans on, part 6: each says at its head what it holds; no condition beyond its theorems' own. -/
import Derived.Test.YtfhjhaogmdaepaaGreatDoorMp5
/- The twenty-second part of the program logic: many allocs of which each may come first. -/
set_option linter.unusedVariables false
set_option linter.unusedSimpArgs false
namespace Go.Proofs.YtfhjhaogmdaepaaGreatDoor
open Go Go.RowKit
inductive SchP where
 | pre (i k : Nat) (rest : SchP)
 | perm (is : List Nat) (rest : Sch)
def SchP.all : SchP → List (Nat × Nat)
 | .pre i k r => (i, k) :: r.all
 | .perm is r => is.map (fun i => (i, 2)) ++ r.all
def SchP.len : SchP → Nat
 | .pre _ _ r => r.len + 1
 | .perm is r => is.length + r.len
def goPm (ops : Array Oper) (all : List (Nat × Nat)) (r : Sch) : Nat → List Nat → Array Bool → Bool
 | 0, is, listed => goT ops all r listed
 | n + 1, is, listed => !(Region.ready .any ops listed).isEmpty && (Region.ready .any ops listed).all fun m => is.contains m && goPm ops all r n (is.erase m) (listed.setIfInBounds m true)
def goP (ops : Array Oper) (all : List (Nat × Nat)) : SchP → Array Bool → Bool
 | .pre i k rest, listed => (Region.ready .any ops listed).contains i && (Region.free .any ops listed i && (Nat.beq k 0 || all.all fun jk => !(Nat.beq jk.2 3) || waits ops jk.1 i)) && goP ops all rest (listed.setIfInBounds i true)
 | .perm is r, listed => goPm ops all r is.length is listed
def wpPm (P : Program) (ops : Array Oper) (Q : Exit → Act → World → Prop) (r : Sch) : Nat → List Nat → (World → Prop) → Act → World → Prop
 | 0, _, S, a, w => wpT P ops Q r S a w
 | n + 1, is, S, a, w => ∀ m ∈ is, wpOp P ops Q m (fun a' w' => ∃ S' : World → Prop, (∀ z, S' z → S z) ∧ S' w' ∧ wpPm P ops Q r n (is.erase m) S' a' w') a w
def wpP (P : Program) (ops : Array Oper) (Q : Exit → Act → World → Prop) : SchP → (World → Prop) → Act → World → Prop
 | .pre i 0 rest, S, a, w => ∃ o v, ops[i]? = some o ∧ (∀ S', Holds P ops S' o v a) ∧ wpP P ops Q rest S (a.put o.dst v) w
 | .pre i 1 rest, S, a, w => ∃ o v, ops[i]? = some o ∧ Holds P ops S o v a ∧ wpP P ops Q rest S (a.put o.dst v) w
 | .pre _ _ _, _, _, _ => False
 | .perm is r, S, a, w => wpPm P ops Q r is.length is S a w
theorem wpPm_sound {P : Program} {ops : Array Oper} {Q : Exit → Act → World → Prop} (hs : Region.noSelect ops = true) (hQ : ∀ d v c a w, Q (.panic c) (a.put d v) w → Q (.panic c) a w) (all : List (Nat × Nat)) (r : Sch) (hall : ∀ x, x ∈ r.all → x ∈ all) :
  ∀ (n : Nat) (is : List Nat) (S : World → Prop) (listed : Array Bool) (a : Act) (w : World), goPm ops all r n is listed = true → Closed ops listed → S w → wpPm P ops Q r n is S a w → wpAnyG P ops Q (newOf all) S (n + r.len) listed a w
 | 0, is, S, listed, a, w, hB, hcl, hS, h => by rw [Nat.zero_add]; exact wpT_sound hs hQ all r S listed a w hall hB hcl hS h
 | n + 1, is, S, listed, a, w, hB, hcl, hS, h => by
  rw [Nat.add_right_comm]
  unfold goPm at hB
  rw [Bool.and_eq_true] at hB
  obtain ⟨h1, h2⟩ := hB
  refine ⟨fun h0 => (by rw [h0] at h1; cases h1), fun m hm => ?_⟩
  have h3 := List.all_eq_true.1 h2 m hm
  rw [Bool.and_eq_true] at h3
  exact wpOp_mono (fun a' w' ⟨S', hs', hS', hn⟩ => ⟨S', fun _ => hs', hS', wpPm_sound hs hQ all r hall n _ S' _ _ _ h3.2 (hcl.list hm) hS' hn⟩) (h m (by simpa using h3.1))
theorem wpP_sound {P : Program} {ops : Array Oper} {Q : Exit → Act → World → Prop} (hs : Region.noSelect ops = true) (hQ : ∀ d v c a w, Q (.panic c) (a.put d v) w → Q (.panic c) a w) (all : List (Nat × Nat)) :
  ∀ (t : SchP) (S : World → Prop) (listed : Array Bool) (a : Act) (w : World), (∀ x, x ∈ t.all → x ∈ all) → goP ops all t listed = true → Closed ops listed → S w → wpP P ops Q t S a w → wpAnyG P ops Q (newOf all) S t.len listed a w
 | .perm is r, S, listed, a, w, hall, hB, hcl, hS, h => wpPm_sound hs hQ all r (fun x hx => hall x (by unfold SchP.all; simp [hx])) is.length is S listed a w hB hcl hS h
 | .pre i k rest, S, listed, a, w, hall, hB, hcl, hS, h => by
  unfold goP at hB
  simp only [Bool.and_eq_true] at hB
  obtain ⟨⟨hr, hf, hk⟩, hB'⟩ := hB
  have hrest : ∀ z, z ∈ rest.all → z ∈ all := fun z hz => hall z (by unfold SchP.all; exact List.mem_cons_of_mem _ hz)
  have hcl' := hcl.list (j := i) (by simpa using hr)
  match k, hk, h with
  | 0, hk, h =>
   obtain ⟨o, v, ho, hy, hn⟩ := h
   exact wpAnyG_first ho (Region.noSelect_spec hs) (hQ _ _) (G := fun _ a => ∀ S', Holds P ops S' o v a) (fun S a g => g S) (fun S a a' g e1 e2 S' => (g S').of_same e1 e2) (fun _ _ _ g _ => g) (.inr fun _ _ _ g => g)
    rest.len S listed a w (Region.free_spec ho hf) hcl (by simpa using hr) hy hS (wpP_sound hs hQ all rest S _ _ _ hrest hB' hcl' hS hn)
  | 1, hk, h =>
   obtain ⟨o, v, ho, hy, hn⟩ := h
   have hw : ∀ j, newOf all j = true → waits ops j i = true := fun j hj => by
    unfold newOf at hj
    obtain ⟨jk, hm, he⟩ := List.any_eq_true.1 hj
    simp only [Bool.and_eq_true] at he
    simp only [Bool.or_eq_true] at hk
    rcases hk with h2 | h2
    ·cases h2
    ·have h3 := List.all_eq_true.1 h2 jk hm
     simp only [he.2, Bool.not_true, Bool.false_or] at h3
     rwa [Nat.eq_of_beq_eq_true he.1] at h3
   exact wpAnyG_first ho (Region.noSelect_spec hs) (hQ _ _) (G := fun S a => Holds P ops S o v a) (fun S a g => g) (fun S a a' g e1 e2 => g.of_same e1 e2) (fun _ _ _ g l => g.weak l) (.inl hw)
    rest.len S listed a w (Region.free_spec ho hf) hcl (by simpa using hr) hy hS (wpP_sound hs hQ all rest S _ _ _ hrest hB' hcl' hS hn)
  | k + 2, hk, h => exact h.elim
/-! ### Allocs in whatever order -/
structure AJ where
 i : Nat
 d : Nat
 T : Nat
 z : List Value
structure AllocAt (C : Cx) (F : Fx) (ops : Array Oper) (j : AJ) : Prop where
 ex : ∃ o, ops[j.i]? = some o ∧ o.guard = none ∧ o.op = .alloc j.T ∧ o.dst = some j.d
 lt : Nat.blt j.d F.n = true
 ze : zeB C.P j.T j.z
def envD (done : List (AJ × Nat)) : Env := done.map fun x => (x.1.d, .pointer (some ⟨x.2, 0, none⟩))
def rsD (done : List (AJ × Nat)) : List HP := done.map fun x => blk x.2 x.1.z x.1.T
theorem Weak.perm {a b : List HP} (h : a.Perm b) : Weak a b := by
 induction h with
 | nil => exact Weak.refl _
 | cons x _ ih => exact Weak.keep ih
 | swap x y l => exact Weak.swap
 | trans _ _ ih1 ih2 => exact ih1.trans ih2
def schP (ops : Array Oper) (t : SchP) : Bool := Region.noSelect ops && Nat.beq t.len ops.size && goP ops t.all t (Array.replicate ops.size false)
section
variable {C : Cx} {F : Fx} {l : Env} {rs rs' rq : List HP} {o : Oper} {Q : Exit → Act → World → Prop} {ops : Array Oper} {d i : Nat} {v : Value} {tt : SchP}
def StPQ (C : Cx) (F : Fx) (ops : Array Oper) (Q : Exit → Act → World → Prop) (t : SchP) (l : Env) (rq rs : List HP) : Prop := St C F l rs (wpP C.P ops Q t (Now C F rq))
theorem PQ_open {id : Nat} {os : List Oper} (t : SchP) (rq : List HP) (hwk : Weak rs rq) (hm : C.P.follows .mixedOrders = true) (hB : schP os.toArray t = true) (hQ : QOk Q) (h : StPQ C F os.toArray Q t l rq rs) : St C F l rs ((Code.region id os.toArray true).wp C.P Q) := fun a w r n => by
 unfold schP at hB
 simp only [Bool.and_eq_true] at hB
 obtain ⟨⟨h1, h2⟩, h3⟩ := hB
 have h2 := Nat.eq_of_beq_eq_true h2
 refine wp_region_any hm ?_
 have key := wpP_sound h1 hQ t.all t (Now C F rq) (Array.replicate os.toArray.size false) a { w with drawn := w.drawn + 1 } (fun _ h => h) h3 (fun k o _ hk => by rw [getD_none] at hk; cases hk) ((n.drew _ (Nat.le_succ _)).weak hwk) (h a _ r (n.drew _ (Nat.le_succ _)))
 rw [h2] at key
 exact wpAny_of_G (new := newOf t.all) _ _ _ _ _ key
theorem PPQ_pure (ho : ops[i]? = some o) (hw : wantedE ops l o = true) (hd : o.dst = some d) (hn : Nat.blt d F.n = true) (hv : OpP C F l o v) (k : StPQ C F ops Q tt ((d, v) :: l) rq rs) : StPQ C F ops Q (.pre i 0 tt) l rq rs := fun a w r n =>
 ⟨o, v, ho, fun S' => .inl ⟨wanted_of r hw, fun w' _ => hv a w' r⟩, by rw [hd]; exact k _ _ (r.put hn v) n⟩
theorem PPQ_val (ho : ops[i]? = some o) (hw : wantedE ops l o = true) (hd : o.dst = some d) (hn : Nat.blt d F.n = true) (hv : OpV C F l rq o v) (k : StPQ C F ops Q tt ((d, v) :: l) rq rs) : StPQ C F ops Q (.pre i 1 tt) l rq rs := fun a w r n =>
 ⟨o, v, ho, .inl ⟨wanted_of r hw, fun w' hw' => hv a w' r hw'⟩, by rw [hd]; exact k _ _ (r.put hn v) n⟩
end
section
variable {C : Cx} {F : Fx} {l : Env} {rs : List HP} {Q : Exit → Act → World → Prop} {ops : Array Oper} {r : Sch} {js : List AJ}
theorem get_map (g : Nat → Value) (t : Nat) : ∀ L : List AJ, Env.get? (L.map (fun j => (j.d, g j.d)) ++ l) t = if t ∈ L.map AJ.d then some (g t) else l.get? t
 | [] => by simp
 | j :: L => by
  have ih := get_map g t L
  by_cases h : j.d = t
  ·subst h; simp [Env.get?]
  ·have h1 : Env.get? ((j :: L).map (fun j => (j.d, g j.d)) ++ l) t = Env.get? (L.map (fun j => (j.d, g j.d)) ++ l) t := by
    show (bif Nat.beq j.d t then some (g j.d) else _) = _
    rw [show Nat.beq j.d t = false from Bool.eq_false_iff.2 fun h2 => h (Nat.eq_of_beq_eq_true h2)]; rfl
   rw [h1, ih]
   by_cases h2 : t ∈ L.map AJ.d
   ·rw [if_pos h2, if_pos (by rw [List.map_cons]; exact List.mem_cons_of_mem _ h2)]
   ·rw [if_neg h2, if_neg (by rw [List.map_cons, List.mem_cons]; exact fun h3 => h3.elim (fun e => h e.symm) h2)]
theorem dropAll {rs : List HP} : ∀ done : List (AJ × Nat), Weak (rsD done ++ rs) rs
 | [] => Weak.refl _
 | _ :: ds => Weak.drop (dropAll ds)
theorem allocs_goQ {rq : List HP} (hq : Weak rs rq) (hA : ∀ j ∈ js, AllocAt C F ops j) (hi : (js.map AJ.i).Nodup)
  (k : ∀ done : List (AJ × Nat), (done.map Prod.fst).Perm js → St C F (envD done ++ l) (rsD done ++ rs) (wpT C.P ops Q r (Now C F rq))) :
  ∀ (n : Nat) (todo : List AJ) (done : List (AJ × Nat)), todo.length = n + 1 → (done.map Prod.fst ++ todo).Perm js → St C F (envD done ++ l) (rsD done ++ rs) (wpPm C.P ops Q r (n + 1) (todo.map AJ.i) (Now C F rq))
 | n, todo, done, hlen, hp => fun a w rep now => by
  intro m hm
  obtain ⟨j, hj, rfl⟩ := List.mem_map.1 hm
  obtain ⟨t1, t2, rfl⟩ := List.append_of_mem hj
  obtain ⟨⟨o, ho, hg, hop, hd⟩, hlt, hze⟩ := hA j (hp.subset (by simp))
  have hnd : ((t1 ++ j :: t2).map AJ.i).Nodup := by
   have h1 := (hp.map AJ.i).symm.nodup hi
   rw [List.map_append] at h1
   exact (List.nodup_append.1 h1).2.1
  have hnot : j.i ∉ t1.map AJ.i := fun h => by
   rw [List.map_append, List.nodup_append] at hnd
   exact hnd.2.2 _ h _ (by simp) rfl
  have he : ((t1 ++ j :: t2).map AJ.i).erase j.i = (t1 ++ t2).map AJ.i := by
   rw [List.map_append, List.map_cons, List.erase_append_right _ hnot, List.erase_cons_head, List.map_append]
  have hp2 : ∀ b : Nat, ((((j, b) :: done) : List (AJ × Nat)).map Prod.fst ++ (t1 ++ t2)).Perm js := fun b => by
   refine List.Perm.trans ?_ hp
   show (j :: (done.map Prod.fst ++ (t1 ++ t2))).Perm _
   have h2 : (done.map Prod.fst ++ (t1 ++ j :: t2)).Perm (done.map Prod.fst ++ (j :: (t1 ++ t2))) := List.Perm.append_left _ List.perm_middle
   exact (List.perm_middle.symm.trans h2.symm)
  have hW : wantedE ops (envD done ++ l) o = true := by unfold wantedE; rw [hg]
  rw [he]
  unfold wpOp
  simp only [ho, wanted_of rep hW, if_true]
  refine .inl ((W_alloc hop hd hlt hze fun b => ?_ : OpW C F (envD done ++ l) (rsD done ++ rs) o _ Q) a w rep now)
  have hl2 : (t1 ++ t2).length = n := by rw [List.length_append] at hlen ⊢; rw [List.length_cons] at hlen; omega
  match n, hl2 with
  | 0, hl2 =>
   have st := k ((j, b) :: done) (by have h3 := hp2 b; rw [List.eq_nil_of_length_eq_zero hl2, List.append_nil] at h3; exact h3)
   exact fun a' w' r' n' => ⟨Now C F rq, fun z nz => nz, Now.weak n' (Weak.drop ((dropAll done).trans hq)), st a' w' r' n'⟩
  | n + 1, hl2 => exact fun a' w' r' n' => ⟨Now C F rq, fun z nz => nz, Now.weak n' (Weak.drop ((dropAll done).trans hq)), allocs_goQ hq hA hi k n (t1 ++ t2) ((j, b) :: done) hl2 (hp2 b) a' w' r' n'⟩
theorem PPQ_perm {rq : List HP} (hq : Weak rs rq) (hA : ∀ j ∈ js, AllocAt C F ops j) (hne : 0 < js.length) (hi : (js.map AJ.i).Nodup) (hdn : (js.map AJ.d).Nodup)
  (k : ∀ f : Nat → Nat, StTQ C F ops Q r (js.map (fun j => (j.d, .pointer (some ⟨f j.d, 0, none⟩))) ++ l) rq (js.map (fun j => blk (f j.d) j.z j.T) ++ rs)) : StPQ C F ops Q (.perm (js.map AJ.i) r) l rq rs := by
 have key := allocs_goQ (l := l) (rs := rs) (Q := Q) (r := r) hq hA hi (fun done hp => ?_) (js.length - 1) js [] (by omega) (List.Perm.refl _)
 ·show St C F l rs (wpPm C.P ops Q r (js.map AJ.i).length (js.map AJ.i) (Now C F rq))
  rw [List.length_map, show js.length = js.length - 1 + 1 by omega]
  exact key
 ·have hnd : ((done.map Prod.fst).map AJ.d).Nodup := (hp.map AJ.d).symm.nodup hdn
  have hf : ∃ f : Nat → Nat, ∀ x ∈ done, f x.1.d = x.2 := by
   clear hp k hA hdn hi hne
   induction done with
   | nil => exact ⟨fun _ => 0, fun x hx => by cases hx⟩
   | cons y ys ih =>
    rw [List.map_cons, List.map_cons, List.nodup_cons] at hnd
    obtain ⟨f, hf⟩ := ih hnd.2
    refine ⟨fun d => if d = y.1.d then y.2 else f d, fun x hx => ?_⟩
    rcases List.mem_cons.1 hx with rfl | hx
    ·simp
    ·have hne : x.1.d ≠ y.1.d := fun e => hnd.1 (by rw [← e]; exact List.mem_map.2 ⟨x.1, List.mem_map.2 ⟨x, hx, rfl⟩, rfl⟩)
     show (if x.1.d = y.1.d then y.2 else f x.1.d) = x.2
     rw [if_neg hne]; exact hf x hx
  obtain ⟨f, hf⟩ := hf
  have e1 : envD done = (done.map Prod.fst).map fun j => (j.d, .pointer (some ⟨f j.d, 0, none⟩)) := by
   unfold envD; rw [List.map_map]; exact List.map_congr_left fun x hx => by show _ = (x.1.d, Value.pointer (some ⟨f x.1.d, 0, none⟩)); rw [hf x hx]
  have e2 : rsD done = (done.map Prod.fst).map fun j => blk (f j.d) j.z j.T := by
   unfold rsD; rw [List.map_map]; exact List.map_congr_left fun x hx => by show _ = blk (f x.1.d) x.1.z x.1.T; rw [hf x hx]
  have hpr : (rsD done ++ rs).Perm (js.map (fun j => blk (f j.d) j.z j.T) ++ rs) := by rw [e2]; exact (hp.map _).append_right rs
  refine St.prune (k f) (fun t v ht => ?_) (Weak.perm hpr)
  rw [e1, get_map (l := l) (fun d => .pointer (some ⟨f d, 0, none⟩)) t]
  rw [get_map (l := l) (fun d => .pointer (some ⟨f d, 0, none⟩)) t] at ht
  have hm : t ∈ (done.map Prod.fst).map AJ.d ↔ t ∈ js.map AJ.d := (hp.map AJ.d).mem_iff
  by_cases h2 : t ∈ js.map AJ.d
  ·rw [if_pos h2] at ht; rw [if_pos (hm.2 h2)]; exact ht
  ·rw [if_neg h2] at ht; rw [if_neg (fun h3 => h2 (hm.1 h3))]; exact ht
end
end Go.Proofs.YtfhjhaogmdaepaaGreatDoor

/- Walks: between. Printed by gen.py. -/
set_option linter.unusedVariables false
set_option linter.unusedSimpArgs false
set_option maxRecDepth 100000
namespace Go.Proofs.YtfhjhaogmdaepaaGreatDoor
open Go Go.RowKit Go.Proofs
def btwB (a : Int) (x y : Acc) (p q : Pf) : Prop := a ≤ x.a ∨ y.a ≤ a ∨ q.t ≠ p.t ∨ IntKind.i64.wrap (q.i - 1) ≠ p.i
instance (a : Int) (x y : Acc) (p q : Pf) : Decidable (btwB a x y p q) := inferInstanceAs (Decidable (_ ∨ _ ∨ _ ∨ _))
def btwE (root R : List Int) (a : Int) (x y : Acc) (p q : Pf) : Int := if btwB a x y p q then 20 else if leadE root R x p ≠ 0 then leadE root R x p else verE (pD x p) q.t q.i q.hs (formB y)
theorem between_ok {gl : Nat → Obj} (hG : Globs gl) (root R : List Int) (hroot : root.length = 32) (hR : R.length = 32) (ub pb : Option Addr) (uc pc : Nat) (ac : List Acc) (ps : List Pf) (hc : ac.length ≤ uc) (hpc : ps.length ≤ pc) (hps : ∀ p ∈ ps, PfIn p) (a : Int) (x y : Acc) (p q : Pf) (hx : ac[0]? = some x) (hy : ac[1]? = some y) (hp : ps[0]? = some p) (hq : ps[1]? = some q) (h2 : ac.length = 2) (h2' : ps.length = 2) : SpecV (cx gl) 58 [.agg (ints .u8 (root)).toArray, .int .u64 a, .agg (wiC R (.slice ub ac.length uc) (.slice pb ps.length pc)).toArray] (fun w => WitRow w ub ac pb ps) (.int .i64 (btwE root R a x y p q)) := by
 refine Spec.enter (C := cx gl) Tryz.func58 rfl 68 rfl rfl fun w0 h0 hsep hsub hpre => ?_
 obtain rfl : h0 = Heap.none := hsep
 show St (cx gl) _ [(0, .agg (ints .u8 (root)).toArray), (1, .int .u64 a), (2, .agg (wiC R (.slice ub ac.length uc) (.slice pb ps.length pc)).toArray)] _ _
 obtain ⟨p1, p2, p3⟩ := hpre
 have hpre : WitRow w0 ub ac pb ps := ⟨p1, p2, p3⟩
 obtain ⟨ab, aj, rfl, har⟩ := p1.some_ (by rw [rc_length]; show 0 < _ * 5; omega)
 obtain ⟨qb, qj, rfl, hqr⟩ := p2.some_ (by rw [rc_length]; show 0 < _ * 3; omega)
 have hqm := List.mem_of_getElem? hq
 obtain ⟨g1, g2, g3⟩ := hps q hqm
 have hfl := formB_length y
 refine R_seq ?_
 refine R_region ?_
 refine L_op rfl (W_box (ints .u8 root) rfl rfl rfl rfl rfl fun b3 => ?_)
 refine L_op rfl (W_box (wiC R (.slice (some ⟨ab, aj, none⟩) ac.length uc) (.slice (some ⟨qb, qj, none⟩) ps.length pc)) rfl rfl rfl rfl rfl fun b5 => ?_)
 refine L_val rfl rfl rfl (OpP.v (P_assign rfl rfl)) ?_
 refine L_nil ?_
 refine St.env (.cons (t := 1) rfl (.cons (t := 3) rfl (.cons (t := 5) rfl (.cons (t := 6) rfl .nil)))) ?_
 refine Q_then ?_
 refine R_seq ?_
 refine PQ_open (.pre 0 0 (.pre 1 1 (.pre 2 0 (.pre 3 1 (.pre 4 0 (.pre 5 1 (.pre 6 0 (.pre 7 1 (.pre 8 0 (.pre 9 1 (.pre 10 0 (.pre 11 1 (.pre 12 0 (.pre 13 1 (.pre 14 0 (.pre 15 1 (.perm [16, 17, 18, 19] (.op 20 2 (.op 21 2 (.op 22 2 (.op 23 2 .nil))))))))))))))))))))) [blk b5 (wiC R (.slice (some ⟨ab, aj, none⟩) ac.length uc) (.slice (some ⟨qb, qj, none⟩) ps.length pc)) 32] (Weak.keep (Weak.nil _)) mixed (by kernel_rfl) (QOk.then QOk.body) ?_
 refine PPQ_pure rfl rfl rfl rfl (P_fld0 rfl ty_fl_32_1 rfl) ?_
 refine PPQ_val rfl rfl rfl rfl (V_load rfl rfl ty_sc_22 (Rd.blk .h0 (wi_1 hR _ _))) ?_
 refine PPQ_pure rfl rfl rfl rfl (P_ixs (0) rfl ty_sl_22 rfl rfl (by first | rfl | omega) (by omega)) ?_
 refine PPQ_val rfl rfl rfl rfl (V_loadAgg rfl rfl ty_ag_38 (rds_rc (Rds.row har rfl) hx) (rfl)) ?_
 refine PPQ_pure rfl rfl rfl rfl (P_fld0 rfl ty_fl_32_1 rfl) ?_
 refine PPQ_val rfl rfl rfl rfl (V_load rfl rfl ty_sc_22 (Rd.blk .h0 (wi_1 hR _ _))) ?_
 refine PPQ_pure rfl rfl rfl rfl (P_ixs (1) rfl ty_sl_22 rfl rfl (by first | rfl | omega) (by omega)) ?_
 refine PPQ_val rfl rfl rfl rfl (V_loadAgg rfl rfl ty_ag_38 (rds_rc (Rds.row har rfl) hy) (rfl)) ?_
 refine PPQ_pure rfl rfl rfl rfl (P_fld0 rfl ty_fl_32_2 rfl) ?_
 refine PPQ_val rfl rfl rfl rfl (V_load rfl rfl ty_sc_30 (Rd.blk .h0 (wi_2 hR _ _))) ?_
 refine PPQ_pure rfl rfl rfl rfl (P_ixs (0) rfl ty_sl_30 rfl rfl (by first | rfl | omega) (by omega)) ?_
 refine PPQ_val rfl rfl rfl rfl (V_loadAgg rfl rfl ty_ag_47 (rds_rc (Rds.row hqr rfl) hp) (rfl)) ?_
 refine PPQ_pure rfl rfl rfl rfl (P_fld0 rfl ty_fl_32_2 rfl) ?_
 refine PPQ_val rfl rfl rfl rfl (V_load rfl rfl ty_sc_30 (Rd.blk .h0 (wi_2 hR _ _))) ?_
 refine PPQ_pure rfl rfl rfl rfl (P_ixs (1) rfl ty_sl_30 rfl rfl (by first | rfl | omega) (by omega)) ?_
 refine PPQ_val rfl rfl rfl rfl (V_loadAgg rfl rfl ty_ag_47 (rds_rc (Rds.row hqr rfl) hq) (rfl)) ?_
 refine PPQ_perm (Weak.keep (Weak.nil _)) (js := [⟨16, 7, 38, [.int .u64 0, .int .u64 0, .int .u64 0, .int .u64 0, .bool false]⟩, ⟨17, 8, 38, [.int .u64 0, .int .u64 0, .int .u64 0, .int .u64 0, .bool false]⟩, ⟨18, 9, 47, [.int .i64 0, .int .i64 0, .slice none 0 0]⟩, ⟨19, 10, 47, [.int .i64 0, .int .i64 0, .slice none 0 0]⟩]) (by intro j hj; simp only [List.mem_cons, List.not_mem_nil, or_false] at hj; rcases hj with rfl | rfl | rfl | rfl; exact ⟨⟨_, rfl, rfl, rfl, rfl⟩, rfl, ty_ze_38⟩; exact ⟨⟨_, rfl, rfl, rfl, rfl⟩, rfl, ty_ze_38⟩; exact ⟨⟨_, rfl, rfl, rfl, rfl⟩, rfl, ty_ze_47⟩; exact ⟨⟨_, rfl, rfl, rfl, rfl⟩, rfl, ty_ze_47⟩) (by decide) (by decide) (by decide) fun f => ?_
 show StTQ (cx gl) _ _ _ _ ((7, .pointer (some ⟨f 7, 0, none⟩)) :: (8, .pointer (some ⟨f 8, 0, none⟩)) :: (9, .pointer (some ⟨f 9, 0, none⟩)) :: (10, .pointer (some ⟨f 10, 0, none⟩)) :: _) _ (blk (f 7) ([.int .u64 0, .int .u64 0, .int .u64 0, .int .u64 0, .bool false]) 38 :: blk (f 8) ([.int .u64 0, .int .u64 0, .int .u64 0, .int .u64 0, .bool false]) 38 :: blk (f 9) ([.int .i64 0, .int .i64 0, .slice none 0 0]) 47 :: blk (f 10) ([.int .i64 0, .int .i64 0, .slice none 0 0]) 47 :: _)
 generalize f 7 = b7
 generalize f 8 = b8
 generalize f 9 = b9
 generalize f 10 = b10
 refine TQ_keep rfl rfl (W_storeAll rfl rfl rfl rfl ty_ag_38 (rfl) (Rec.one x) .h0 (rfl) (K_keepTQ (Weak.pick (p := [_, _, _, _]) (Weak.nil _)) ?_))
 refine TQ_keep rfl rfl (W_storeAll rfl rfl rfl rfl ty_ag_38 (rfl) (Rec.one y) .h1 (rfl) (K_keepTQ (Weak.pick (p := [_, _, _, _]) (Weak.nil _)) ?_))
 refine TQ_keep rfl rfl (W_storeAll rfl rfl rfl rfl ty_ag_47 (rfl) (Pf.one p) .h2 (rfl) (K_keepTQ (Weak.pick (p := [_, _, _, _]) (Weak.nil _)) ?_))
 refine TQ_keep rfl rfl (W_storeAll rfl rfl rfl rfl ty_ag_47 (rfl) (Pf.one q) .h3 (rfl) (K_keepTQ (Weak.pick (p := [_, _, _, _]) (Weak.nil _)) ?_))
 refine TQ_nil ?_
 refine St.env (.cons (t := 1) rfl (.cons (t := 3) rfl (.cons (t := 5) rfl (.cons (t := 6) rfl (.cons (t := 7) rfl (.cons (t := 8) rfl (.cons (t := 9) rfl (.cons (t := 10) rfl .nil)))))))) ?_
 refine Q_then ?_
 refine R_seq ?_
 refine R_seq ?_
 refine R_region ?_
 refine L_val rfl rfl rfl (OpP.v (P_fld0 rfl ty_fl_38_0 rfl)) ?_
 refine L_val rfl rfl rfl (V_load rfl rfl ty_sc_27 (Rd.blk .h0 rfl)) ?_
 refine L_val rfl rfl rfl (OpP.v (P_move rfl rfl)) ?_
 refine L_val rfl rfl rfl (OpP.v (P_geq rfl rfl rfl)) ?_
 refine E_bool (t := 32) rfl (fun e1 => ?_) (fun e1 => ?_)
 ·skip
  have e1 := of_decide_eq_true e1
  refine L_val rfl rfl rfl (OpP.v (P_move rfl rfl)) ?_
  refine L_no rfl rfl rfl ?_
  refine L_no rfl rfl rfl ?_
  refine L_no rfl rfl rfl ?_
  refine L_no rfl rfl rfl ?_
  refine L_val rfl rfl rfl (OpP.v (P_pick rfl rfl rfl)) ?_
  refine L_val rfl rfl rfl (OpP.v (P_move rfl rfl)) ?_
  refine L_no rfl rfl rfl ?_
  refine L_no rfl rfl rfl ?_
  refine L_no rfl rfl rfl ?_
  refine L_no rfl rfl rfl ?_
  refine L_no rfl rfl rfl ?_
  refine L_val rfl rfl rfl (OpP.v (P_pick rfl rfl rfl)) ?_
  refine L_val rfl rfl rfl (OpP.v (P_move rfl rfl)) ?_
  refine L_no rfl rfl rfl ?_
  refine L_no rfl rfl rfl ?_
  refine L_no rfl rfl rfl ?_
  refine L_no rfl rfl rfl ?_
  refine L_no rfl rfl rfl ?_
  refine L_no rfl rfl rfl ?_
  refine L_val rfl rfl rfl (OpP.v (P_pick rfl rfl rfl)) ?_
  refine L_nil ?_
  refine St.env (.cons (t := 3) rfl (.cons (t := 5) rfl (.cons (t := 6) rfl (.cons (t := 8) rfl (.cons (t := 10) rfl (.cons (t := 53) rfl .nil)))))) ?_
  refine Q_then ?_
  refine R_condT rfl ?_
  refine R_seq ?_
  refine R_region ?_
  refine L_val rfl rfl rfl (OpP.v (P_assign rfl rfl)) ?_
  refine L_nil ?_
  refine St.env (.cons (t := 3) rfl (.cons (t := 5) rfl (.cons (t := 6) rfl (.cons (t := 8) rfl (.cons (t := 10) rfl .nil))))) ?_
  refine Q_then ?_
  refine R_ret ?_
  refine Q_then_ret ?_
  exact R_endV rfl rfl (.tmp rfl .nil) (by unfold btwE; rw [if_pos (by unfold btwB; first | exact .inl e1 | exact .inr (.inl e2) | exact .inr (.inr (.inl e3)) | exact .inr (.inr (.inr e4)))]; rfl)
 ·skip
  have e1 := of_decide_eq_false e1
  refine L_val rfl rfl rfl (OpP.v (P_move rfl rfl)) ?_
  refine L_val rfl rfl rfl (OpP.v (P_fld0 rfl ty_fl_38_0 rfl)) ?_
  refine L_val rfl rfl rfl (V_load rfl rfl ty_sc_27 (Rd.blk .h1 rfl)) ?_
  refine L_val rfl rfl rfl (OpP.v (P_move rfl rfl)) ?_
  refine L_val rfl rfl rfl (OpP.v (P_leq rfl rfl rfl)) ?_
  refine E_bool (t := 37) rfl (fun e2 => ?_) (fun e2 => ?_)
  ·skip
   have e2 := of_decide_eq_true e2
   refine L_val rfl rfl rfl (OpP.v (P_pick rfl rfl rfl)) ?_
   refine L_val rfl rfl rfl (OpP.v (P_move rfl rfl)) ?_
   refine L_no rfl rfl rfl ?_
   refine L_no rfl rfl rfl ?_
   refine L_no rfl rfl rfl ?_
   refine L_no rfl rfl rfl ?_
   refine L_no rfl rfl rfl ?_
   refine L_val rfl rfl rfl (OpP.v (P_pick rfl rfl rfl)) ?_
   refine L_val rfl rfl rfl (OpP.v (P_move rfl rfl)) ?_
   refine L_no rfl rfl rfl ?_
   refine L_no rfl rfl rfl ?_
   refine L_no rfl rfl rfl ?_
   refine L_no rfl rfl rfl ?_
   refine L_no rfl rfl rfl ?_
   refine L_no rfl rfl rfl ?_
   refine L_val rfl rfl rfl (OpP.v (P_pick rfl rfl rfl)) ?_
   refine L_nil ?_
   refine St.env (.cons (t := 3) rfl (.cons (t := 5) rfl (.cons (t := 6) rfl (.cons (t := 8) rfl (.cons (t := 10) rfl (.cons (t := 53) rfl .nil)))))) ?_
   refine Q_then ?_
   refine R_condT rfl ?_
   refine R_seq ?_
   refine R_region ?_
   refine L_val rfl rfl rfl (OpP.v (P_assign rfl rfl)) ?_
   refine L_nil ?_
   refine St.env (.cons (t := 3) rfl (.cons (t := 5) rfl (.cons (t := 6) rfl (.cons (t := 8) rfl (.cons (t := 10) rfl .nil))))) ?_
   refine Q_then ?_
   refine R_ret ?_
   refine Q_then_ret ?_
   exact R_endV rfl rfl (.tmp rfl .nil) (by unfold btwE; rw [if_pos (by unfold btwB; first | exact .inl e1 | exact .inr (.inl e2) | exact .inr (.inr (.inl e3)) | exact .inr (.inr (.inr e4)))]; rfl)
  ·skip
   have e2 := of_decide_eq_false e2
   refine L_val rfl rfl rfl (OpP.v (P_pick rfl rfl rfl)) ?_
   refine L_val rfl rfl rfl (OpP.v (P_move rfl rfl)) ?_
   refine L_val rfl rfl rfl (OpP.v (P_fld0 rfl ty_fl_47_0 rfl)) ?_
   refine L_val rfl rfl rfl (V_load rfl rfl ty_sc_3 (Rd.blk .h3 rfl)) ?_
   refine L_val rfl rfl rfl (OpP.v (P_fld0 rfl ty_fl_47_0 rfl)) ?_
   refine L_val rfl rfl rfl (V_load rfl rfl ty_sc_3 (Rd.blk .h2 rfl)) ?_
   refine L_val rfl rfl rfl (OpP.v (P_neq rfl rfl rfl)) ?_
   refine E_bool (t := 44) rfl (fun e3 => ?_) (fun e3 => ?_)
   ·skip
    have e3 := of_decide_eq_true e3
    refine L_val rfl rfl rfl (OpP.v (P_pick rfl rfl rfl)) ?_
    refine L_val rfl rfl rfl (OpP.v (P_move rfl rfl)) ?_
    refine L_no rfl rfl rfl ?_
    refine L_no rfl rfl rfl ?_
    refine L_no rfl rfl rfl ?_
    refine L_no rfl rfl rfl ?_
    refine L_no rfl rfl rfl ?_
    refine L_no rfl rfl rfl ?_
    refine L_val rfl rfl rfl (OpP.v (P_pick rfl rfl rfl)) ?_
    refine L_nil ?_
    refine St.env (.cons (t := 3) rfl (.cons (t := 5) rfl (.cons (t := 6) rfl (.cons (t := 8) rfl (.cons (t := 10) rfl (.cons (t := 53) rfl .nil)))))) ?_
    refine Q_then ?_
    refine R_condT rfl ?_
    refine R_seq ?_
    refine R_region ?_
    refine L_val rfl rfl rfl (OpP.v (P_assign rfl rfl)) ?_
    refine L_nil ?_
    refine St.env (.cons (t := 3) rfl (.cons (t := 5) rfl (.cons (t := 6) rfl (.cons (t := 8) rfl (.cons (t := 10) rfl .nil))))) ?_
    refine Q_then ?_
    refine R_ret ?_
    refine Q_then_ret ?_
    exact R_endV rfl rfl (.tmp rfl .nil) (by unfold btwE; rw [if_pos (by unfold btwB; first | exact .inl e1 | exact .inr (.inl e2) | exact .inr (.inr (.inl e3)) | exact .inr (.inr (.inr e4)))]; rfl)
   ·skip
    have e3 := of_decide_eq_false e3
    refine L_val rfl rfl rfl (OpP.v (P_pick rfl rfl rfl)) ?_
    refine L_val rfl rfl rfl (OpP.v (P_move rfl rfl)) ?_
    refine L_val rfl rfl rfl (OpP.v (P_fld0 rfl ty_fl_47_1 rfl)) ?_
    refine L_val rfl rfl rfl (V_load rfl rfl ty_sc_3 (Rd.blk .h3 rfl)) ?_
    refine L_val rfl rfl rfl (OpP.v (P_sub rfl rfl rfl)) ?_
    refine L_val rfl rfl rfl (OpP.v (P_fld0 rfl ty_fl_47_1 rfl)) ?_
    refine L_val rfl rfl rfl (V_load rfl rfl ty_sc_3 (Rd.blk .h2 rfl)) ?_
    refine L_val rfl rfl rfl (OpP.v (P_neq rfl rfl rfl)) ?_
    refine L_val rfl rfl rfl (OpP.v (P_pick rfl rfl rfl)) ?_
    refine L_nil ?_
    refine St.env (.cons (t := 3) rfl (.cons (t := 5) rfl (.cons (t := 6) rfl (.cons (t := 8) rfl (.cons (t := 10) rfl (.cons (t := 53) rfl .nil)))))) ?_
    refine Q_then ?_
    refine R_condP rfl (fun e4 => ?_) (fun e4 => ?_)
    ·skip
     refine R_seq ?_
     refine R_region ?_
     refine L_val rfl rfl rfl (OpP.v (P_assign rfl rfl)) ?_
     refine L_nil ?_
     refine St.env (.cons (t := 3) rfl (.cons (t := 5) rfl (.cons (t := 6) rfl (.cons (t := 8) rfl (.cons (t := 10) rfl .nil))))) ?_
     refine Q_then ?_
     refine R_ret ?_
     refine Q_then_ret ?_
     exact R_endV rfl rfl (.tmp rfl .nil) (by unfold btwE; rw [if_pos (by unfold btwB; first | exact .inl e1 | exact .inr (.inl e2) | exact .inr (.inr (.inl e3)) | exact .inr (.inr (.inr e4)))]; rfl)
    ·skip
     have hno : ¬ btwB a x y p q := by unfold btwB; intro h9; rcases h9 with h9 | h9 | h9 | h9; exact e1 h9; exact e2 h9; exact e3 h9; exact e4 h9
     refine R_skip ?_
     refine Q_then ?_
     refine R_seq ?_
     refine R_region ?_
     refine L_val rfl rfl rfl (V_loadAgg rfl rfl ty_ag_29 (Rds.blk .h5) (by rw [ints_length, hroot])) ?_
     refine L_val rfl rfl rfl (V_loadAgg rfl rfl ty_ag_32 (Rds.blk .h4) (by rw [wi_len hR])) ?_
     refine L_op rfl (W_callV rfl rfl rfl rfl fn_ca_57 (leads_ok hG root R hroot hR (some ⟨ab, aj, none⟩) (some ⟨qb, qj, none⟩) uc pc ac ps hc hpc hps 0 x p hx hp (by omega) (by omega)) (WitRow.now hpre rfl) ?_)
     refine L_val rfl rfl rfl (OpP.v (P_move rfl rfl)) ?_
     refine L_val rfl rfl rfl (OpP.v (P_extract rfl rfl rfl)) ?_
     refine L_val rfl rfl rfl (OpP.v (P_extract rfl rfl rfl)) ?_
     refine L_op rfl (W_alloc rfl rfl rfl ty_ze_29 fun b11 => ?_)
     refine L_op rfl (W_storeAll rfl rfl rfl rfl ty_ag_29 (by rw [ints_length, pD_length]) (ints_one) .h0 (by first | (rw [ints_length, pD_length]; done) | (rw [ints_length, pD_length]; rfl)) ?_)
     refine L_val rfl rfl rfl (OpP.v (P_assign rfl rfl)) ?_
     refine L_nil ?_
     refine St.env (.cons (t := 6) rfl (.cons (t := 8) rfl (.cons (t := 10) rfl (.cons (t := 11) rfl (.cons (t := 12) rfl .nil))))) ?_
     refine Q_then ?_
     refine R_seq ?_
     refine R_seq ?_
     refine R_region ?_
     refine L_val rfl rfl rfl (OpP.v (P_move rfl rfl)) ?_
     refine L_val rfl rfl rfl (OpP.v (P_neq rfl rfl rfl)) ?_
     refine L_nil ?_
     refine St.env (.cons (t := 6) rfl (.cons (t := 8) rfl (.cons (t := 10) rfl (.cons (t := 11) rfl (.cons (t := 12) rfl (.cons (t := 61) rfl .nil)))))) ?_
     refine Q_then ?_
     refine R_condP rfl (fun he => ?_) (fun he => ?_)
     ·skip
      refine R_seq ?_
      refine R_region ?_
      refine L_val rfl rfl rfl (OpP.v (P_move rfl rfl)) ?_
      refine L_val rfl rfl rfl (OpP.v (P_assign rfl rfl)) ?_
      refine L_nil ?_
      refine St.env (.cons (t := 6) rfl (.cons (t := 8) rfl (.cons (t := 10) rfl (.cons (t := 11) rfl .nil)))) ?_
      refine Q_then ?_
      refine R_ret ?_
      refine Q_then_ret ?_
      exact R_endV rfl rfl (.tmp rfl .nil) (by unfold btwE; rw [if_neg hno, if_pos he]; rfl)
     ·skip
      have he : leadE root R x p = 0 := Classical.not_not.1 he
      refine R_skip ?_
      refine Q_then ?_
      refine R_seq ?_
      refine R_open [(0, 1), (1, 1), (2, 1), (3, 2), (4, 2), (5, 0)] mixed (by kernel_rfl) (QOk.then QOk.body) ?_
      refine O_val rfl rfl rfl rfl (V_loadAgg rfl rfl ty_ag_29 (Rds.blk .h0) (by rw [ints_length, pD_length])) ?_
      refine O_val rfl rfl rfl rfl (V_loadAgg rfl rfl ty_ag_47 (Rds.blk .h4) (rfl)) ?_
      refine O_val rfl rfl rfl rfl (V_loadAgg rfl rfl ty_ag_38 (Rds.blk .h2) (rfl)) ?_
      refine O_keep rfl rfl (W_call rfl rfl rfl rfl fn_ca_118 (form_ok y) (Split.nil _) (fun _ _ _ _ _ _ _ => trivial) fun v1 rs1 (e1 : rs1 = _) => ?_)
      subst e1
      refine St.ownForm (p := []) fun ib ic hiv hic => ?_
      subst hiv
      have hic : (formB y).length ≤ ic := by omega
      rw [← hfl]
      refine K_keep (Weak.drop (Weak.refl _)) ?_
      refine O_keep rfl rfl (W_callV rfl rfl rfl rfl fn_ca_126 (verify_ok hG (pD x p) (pD_length _ _) q.t q.i q.b q.c q.hs ib ic (formB y) g1 g3 g2 hic) (fun w nw => ⟨(Sn.row (p3 q hqm) rfl).rw_ w nw, (Sn.own .h0 rfl).rw_ w nw⟩) (K_keep (Weak.refl _) ?_))
      refine O_pure rfl rfl rfl rfl (P_assign rfl rfl) ?_
      refine O_nil ?_
      refine St.env (.cons (t := 6) rfl .nil) ?_
      refine Q_then ?_
      refine R_ret ?_
      exact R_endV rfl rfl (.tmp rfl .nil) (by unfold btwE; rw [if_neg hno, if_neg (by rw [he]; simp)]; rfl)
end Go.Proofs.YtfhjhaogmdaepaaGreatDoor

/- Walks: Verify. Printed by gen.py. -/
set_option linter.unusedVariables false
set_option linter.unusedSimpArgs false
set_option maxRecDepth 100000
namespace Go.Proofs.YtfhjhaogmdaepaaGreatDoor
open Go Go.RowKit Go.Proofs
def oneB (a : Int) (x : Acc) (p : Pf) : Prop := (a < x.a ∧ p.i ≠ 0) ∨ (x.a < a ∧ p.i ≠ IntKind.i64.wrap (p.t - 1))
instance (a : Int) (x : Acc) (p : Pf) : Decidable (oneB a x p) := inferInstanceAs (Decidable (_ ∨ _))
theorem oneB_no {a : Int} {x : Acc} {p : Pf} (h1 : ¬ a < x.a ∨ ¬ p.i ≠ 0) (h2 : ¬ x.a < a ∨ ¬ p.i ≠ IntKind.i64.wrap (p.t - 1)) : ¬ oneB a x p := fun h => by
 rcases h with ⟨h3, h4⟩ | ⟨h3, h4⟩
 ·exact h1.elim (fun h => h h3) (fun h => h h4)
 ·exact h2.elim (fun h => h h3) (fun h => h h4)
def verN (e : Int) : Value := .tuple #[.agg acc0.cells.toArray, .bool false, .int .i64 e]
/-- What Verify answers. -/
def verV (root R : List Int) (a : Int) : List Acc → List Pf → Value
 | [], [] => verN (if sha (1 :: (rootD [] ++ R)) ≠ root then 21 else 0)
 | [x], [p] => if oneB a x p then verN 20 else if leadE root R x p = 0 ∧ x.a = a then .tuple #[.agg x.cells.toArray, .bool true, .int .i64 0] else verN (leadE root R x p)
 | [x, y], [p, q] => verN (btwE root R a x y p q)
 | _, _ => verN 20
theorem verV_one (root R : List Int) (a : Int) (x : Acc) (p : Pf) : verV root R a [x] [p] = if oneB a x p then verN 20 else if leadE root R x p = 0 ∧ x.a = a then .tuple #[.agg x.cells.toArray, .bool true, .int .i64 0] else verN (leadE root R x p) := rfl
theorem ver_bad {gl : Nat → Obj} (root R : List Int) (hroot : root.length = 32) (hR : R.length = 32) (ub pb : Option Addr) (uc pc : Nat) (ac : List Acc) (ps : List Pf) (hc : ac.length ≤ uc) (hpc : ps.length ≤ pc) (hps : ∀ p ∈ ps, PfIn p) (a : Int) (hb : 2 < ac.length ∨ ac.length ≠ ps.length) : SpecV (cx gl) 12 [.agg (ints .u8 (root)).toArray, .int .u64 a, .agg (wiC R (.slice ub ac.length uc) (.slice pb ps.length pc)).toArray] (fun w => WitRow w ub ac pb ps) (verN 20) := by
 refine Spec.enter (C := cx gl) Tryz.func12 rfl 100 rfl rfl fun w0 h0 hsep hsub hpre => ?_
 obtain rfl : h0 = Heap.none := hsep
 show St (cx gl) _ [(0, .agg (ints .u8 (root)).toArray), (1, .int .u64 a), (2, .agg (wiC R (.slice ub ac.length uc) (.slice pb ps.length pc)).toArray)] _ _
 refine R_seq ?_
 refine R_region ?_
 refine L_op rfl (W_box (ints .u8 root) rfl rfl rfl rfl rfl fun b3 => ?_)
 refine L_op rfl (W_box (wiC R (.slice ub ac.length uc) (.slice pb ps.length pc)) rfl rfl rfl rfl rfl fun b5 => ?_)
 refine L_op rfl (W_alloc rfl rfl rfl ty_ze_38 fun b6 => ?_)
 refine L_val rfl rfl rfl (OpP.v (P_assign rfl rfl)) ?_
 refine L_val rfl rfl rfl (OpP.v (P_assign rfl rfl)) ?_
 refine L_nil ?_
 refine St.env (.cons (t := 1) rfl (.cons (t := 3) rfl (.cons (t := 5) rfl (.cons (t := 6) rfl (.cons (t := 7) rfl (.cons (t := 8) rfl .nil)))))) ?_
 refine Q_then ?_
 refine R_seq ?_
 refine R_region ?_
 refine L_val rfl rfl rfl (OpP.v (P_assign rfl rfl)) ?_
 refine L_nil ?_
 refine Q_then ?_
 refine R_seq ?_
 refine R_block ?_
 refine R_seq ?_
 refine R_region ?_
 refine L_val rfl rfl rfl (OpP.v (P_fld0 rfl ty_fl_32_1 rfl)) ?_
 refine L_val rfl rfl rfl (V_load rfl rfl ty_sc_22 (Rd.blk .h1 (wi_1 hR _ _))) ?_
 refine L_val rfl rfl rfl (OpP.v (P_len rfl ty_sl_22 rfl)) ?_
 refine L_val rfl rfl rfl (OpP.v (P_gtr rfl rfl rfl)) ?_
 refine E_bool (t := 22) rfl (fun c1 => ?_) (fun c1 => ?_)
 ·skip
  refine L_val rfl rfl rfl (OpP.v (P_move rfl rfl)) ?_
  refine L_no rfl rfl rfl ?_
  refine L_no rfl rfl rfl ?_
  refine L_no rfl rfl rfl ?_
  refine L_no rfl rfl rfl ?_
  refine L_no rfl rfl rfl ?_
  refine L_no rfl rfl rfl ?_
  refine L_no rfl rfl rfl ?_
  refine L_val rfl rfl rfl (OpP.v (P_pick rfl rfl rfl)) ?_
  refine L_val rfl rfl rfl (OpP.v (P_assign rfl rfl)) ?_
  refine L_nil ?_
  refine St.env (.cons (t := 1) rfl (.cons (t := 3) rfl (.cons (t := 5) rfl (.cons (t := 6) rfl (.cons (t := 7) rfl (.cons (t := 8) rfl (.cons (t := 9) rfl (.cons (t := 18) rfl .nil)))))))) ?_
  refine Q_then ?_
  refine R_condT rfl ?_
  refine R_region ?_
  refine L_val rfl rfl rfl (OpP.v (P_assign rfl rfl)) ?_
  refine L_nil ?_
  refine St.env (.cons (t := 6) rfl (.cons (t := 7) rfl (.cons (t := 8) rfl (.cons (t := 9) rfl .nil)))) ?_
  refine Q_block ?_
  refine Q_then ?_
  refine R_seq ?_
  refine R_region ?_
  refine L_val rfl rfl rfl (OpP.v (P_buildStruct rfl ty_pl_38 ty_ze_38 rfl rfl (rfl))) ?_
  refine L_val rfl rfl rfl (OpP.v (P_move rfl rfl)) ?_
  refine L_op rfl (W_storeAll rfl rfl rfl rfl ty_ag_38 (rfl) (Rec.one acc0) .h0 (rfl) ?_)
  refine L_val rfl rfl rfl (OpP.v (P_assign rfl rfl)) ?_
  refine L_val rfl rfl rfl (OpP.v (P_assign rfl rfl)) ?_
  refine L_nil ?_
  refine St.env (.cons (t := 6) rfl (.cons (t := 7) rfl (.cons (t := 8) rfl .nil))) ?_
  refine Q_then ?_
  refine R_ret ?_
  exact R_endV rfl rfl (.cell rfl (Rds.loadVar ty_ag_38 (Rds.blk .h0) rfl) (.tmp rfl (.tmp rfl .nil))) (rfl)
 ·skip
  have c1 := of_decide_eq_false c1
  refine L_val rfl rfl rfl (OpP.v (P_move rfl rfl)) ?_
  refine L_val rfl rfl rfl (OpP.v (P_fld0 rfl ty_fl_32_1 rfl)) ?_
  refine L_val rfl rfl rfl (V_load rfl rfl ty_sc_22 (Rd.blk .h1 (wi_1 hR _ _))) ?_
  refine L_val rfl rfl rfl (OpP.v (P_len rfl ty_sl_22 rfl)) ?_
  refine L_val rfl rfl rfl (OpP.v (P_fld0 rfl ty_fl_32_2 rfl)) ?_
  refine L_val rfl rfl rfl (V_load rfl rfl ty_sc_30 (Rd.blk .h1 (wi_2 hR _ _))) ?_
  refine L_val rfl rfl rfl (OpP.v (P_len rfl ty_sl_30 rfl)) ?_
  refine L_val rfl rfl rfl (OpP.v (P_neq rfl rfl rfl)) ?_
  refine L_val rfl rfl rfl (OpP.v (P_pick rfl rfl rfl)) ?_
  refine L_val rfl rfl rfl (OpP.v (P_assign rfl rfl)) ?_
  refine L_nil ?_
  refine St.env (.cons (t := 1) rfl (.cons (t := 3) rfl (.cons (t := 5) rfl (.cons (t := 6) rfl (.cons (t := 7) rfl (.cons (t := 8) rfl (.cons (t := 9) rfl (.cons (t := 18) rfl .nil)))))))) ?_
  refine Q_then ?_
  refine R_condP rfl (fun c2 => ?_) (fun c2 => ?_)
  ·skip
   refine R_region ?_
   refine L_val rfl rfl rfl (OpP.v (P_assign rfl rfl)) ?_
   refine L_nil ?_
   refine St.env (.cons (t := 6) rfl (.cons (t := 7) rfl (.cons (t := 8) rfl (.cons (t := 9) rfl .nil)))) ?_
   refine Q_block ?_
   refine Q_then ?_
   refine R_seq ?_
   refine R_region ?_
   refine L_val rfl rfl rfl (OpP.v (P_buildStruct rfl ty_pl_38 ty_ze_38 rfl rfl (rfl))) ?_
   refine L_val rfl rfl rfl (OpP.v (P_move rfl rfl)) ?_
   refine L_op rfl (W_storeAll rfl rfl rfl rfl ty_ag_38 (rfl) (Rec.one acc0) .h0 (rfl) ?_)
   refine L_val rfl rfl rfl (OpP.v (P_assign rfl rfl)) ?_
   refine L_val rfl rfl rfl (OpP.v (P_assign rfl rfl)) ?_
   refine L_nil ?_
   refine St.env (.cons (t := 6) rfl (.cons (t := 7) rfl (.cons (t := 8) rfl .nil))) ?_
   refine Q_then ?_
   refine R_ret ?_
   exact R_endV rfl rfl (.cell rfl (Rds.loadVar ty_ag_38 (Rds.blk .h0) rfl) (.tmp rfl (.tmp rfl .nil))) (rfl)
  ·skip
   exfalso; omega
theorem ver_none {gl : Nat → Obj} (hG : Globs gl) (root R : List Int) (hroot : root.length = 32) (hR : R.length = 32) (ub pb : Option Addr) (uc pc : Nat) (a : Int) : SpecV (cx gl) 12 [.agg (ints .u8 (root)).toArray, .int .u64 a, .agg (wiC R (.slice ub 0 uc) (.slice pb 0 pc)).toArray] noPre (verV root R a [] []) := by
 refine Spec.enter (C := cx gl) Tryz.func12 rfl 100 rfl rfl fun w0 h0 hsep hsub hpre => ?_
 obtain rfl : h0 = Heap.none := hsep
 show St (cx gl) _ [(0, .agg (ints .u8 (root)).toArray), (1, .int .u64 a), (2, .agg (wiC R (.slice ub 0 uc) (.slice pb 0 pc)).toArray)] _ _
 refine R_seq ?_
 refine R_region ?_
 refine L_op rfl (W_box (ints .u8 root) rfl rfl rfl rfl rfl fun b3 => ?_)
 refine L_op rfl (W_box (wiC R (.slice ub 0 uc) (.slice pb 0 pc)) rfl rfl rfl rfl rfl fun b5 => ?_)
 refine L_op rfl (W_alloc rfl rfl rfl ty_ze_38 fun b6 => ?_)
 refine L_val rfl rfl rfl (OpP.v (P_assign rfl rfl)) ?_
 refine L_val rfl rfl rfl (OpP.v (P_assign rfl rfl)) ?_
 refine L_nil ?_
 refine St.env (.cons (t := 1) rfl (.cons (t := 3) rfl (.cons (t := 5) rfl (.cons (t := 6) rfl (.cons (t := 7) rfl (.cons (t := 8) rfl .nil)))))) ?_
 refine Q_then ?_
 refine R_seq ?_
 refine R_region ?_
 refine L_val rfl rfl rfl (OpP.v (P_assign rfl rfl)) ?_
 refine L_nil ?_
 refine Q_then ?_
 refine R_seq ?_
 refine R_block ?_
 refine R_seq ?_
 refine R_region ?_
 refine L_val rfl rfl rfl (OpP.v (P_fld0 rfl ty_fl_32_1 rfl)) ?_
 refine L_val rfl rfl rfl (V_load rfl rfl ty_sc_22 (Rd.blk .h1 (wi_1 hR _ _))) ?_
 refine L_val rfl rfl rfl (OpP.v (P_len rfl ty_sl_22 rfl)) ?_
 refine L_val rfl rfl rfl (OpP.v (P_gtr rfl rfl rfl)) ?_
 refine E_false (t := 22) rfl (rfl) ?_
 refine L_val rfl rfl rfl (OpP.v (P_move rfl rfl)) ?_
 refine L_val rfl rfl rfl (OpP.v (P_fld0 rfl ty_fl_32_1 rfl)) ?_
 refine L_val rfl rfl rfl (V_load rfl rfl ty_sc_22 (Rd.blk .h1 (wi_1 hR _ _))) ?_
 refine L_val rfl rfl rfl (OpP.v (P_len rfl ty_sl_22 rfl)) ?_
 refine L_val rfl rfl rfl (OpP.v (P_fld0 rfl ty_fl_32_2 rfl)) ?_
 refine L_val rfl rfl rfl (V_load rfl rfl ty_sc_30 (Rd.blk .h1 (wi_2 hR _ _))) ?_
 refine L_val rfl rfl rfl (OpP.v (P_len rfl ty_sl_30 rfl)) ?_
 refine L_val rfl rfl rfl (OpP.v (P_neq rfl rfl rfl)) ?_
 refine E_false (t := 30) rfl (rfl) ?_
 refine L_val rfl rfl rfl (OpP.v (P_pick rfl rfl rfl)) ?_
 refine L_val rfl rfl rfl (OpP.v (P_assign rfl rfl)) ?_
 refine L_nil ?_
 refine St.env (.cons (t := 1) rfl (.cons (t := 3) rfl (.cons (t := 5) rfl (.cons (t := 6) rfl (.cons (t := 7) rfl (.cons (t := 8) rfl (.cons (t := 9) rfl (.cons (t := 18) rfl .nil)))))))) ?_
 refine Q_then ?_
 refine R_condF rfl ?_
 refine R_seq ?_
 refine R_region ?_
 refine L_val rfl rfl rfl (OpP.v (P_fld0 rfl ty_fl_32_1 rfl)) ?_
 refine L_val rfl rfl rfl (V_load rfl rfl ty_sc_22 (Rd.blk .h1 (wi_1 hR _ _))) ?_
 refine L_val rfl rfl rfl (OpP.v (P_len rfl ty_sl_22 rfl)) ?_
 refine L_val rfl rfl rfl (OpP.v (P_eql rfl rfl rfl)) ?_
 refine E_true (t := 36) rfl (rfl) ?_
 refine L_val rfl rfl rfl (OpP.v (P_assign rfl rfl)) ?_
 refine L_nil ?_
 refine St.env (.cons (t := 1) rfl (.cons (t := 3) rfl (.cons (t := 5) rfl (.cons (t := 6) rfl (.cons (t := 7) rfl (.cons (t := 8) rfl (.cons (t := 9) rfl (.cons (t := 32) rfl .nil)))))))) ?_
 refine Q_then ?_
 refine R_condT rfl ?_
 refine R_seq ?_
 refine R_region ?_
 refine L_op rfl (W_callV rfl rfl rfl rfl fn_ca_51 (root_ok hG none 0 [] [] rfl (Nat.le_refl _) (by decide)) (fun w nw => ⟨Row.nil, rfl, fun i v xs hv hx => by cases hv⟩) ?_)
 refine L_val rfl rfl rfl (OpP.v (P_move rfl rfl)) ?_
 refine L_val rfl rfl rfl (OpP.v (P_extract rfl rfl rfl)) ?_
 refine L_val rfl rfl rfl (OpP.v (P_extract rfl rfl rfl)) ?_
 refine L_op rfl (W_alloc rfl rfl rfl ty_ze_29 fun b10 => ?_)
 refine L_op rfl (W_storeAll rfl rfl rfl rfl ty_ag_29 (by rw [ints_length, rootD_length]) (ints_one) .h0 (by first | (rw [ints_length, rootD_length]; done) | (rw [ints_length, rootD_length]; rfl)) ?_)
 refine L_val rfl rfl rfl (OpP.v (P_assign rfl rfl)) ?_
 refine L_nil ?_
 refine St.env (.cons (t := 3) rfl (.cons (t := 5) rfl (.cons (t := 6) rfl (.cons (t := 7) rfl (.cons (t := 8) rfl (.cons (t := 9) rfl (.cons (t := 10) rfl .nil))))))) ?_
 refine Q_then ?_
 refine R_seq ?_
 refine R_open [(0, 1), (1, 0), (2, 1), (4, 1), (3, 2), (5, 0)] mixed (by kernel_rfl) (QOk.then (QOk.block (QOk.then QOk.body))) ?_
 refine O_val rfl rfl rfl rfl (V_loadAgg rfl rfl ty_ag_29 (Rds.blk .h0) (by rw [ints_length, rootD_length])) ?_
 refine O_pure rfl rfl rfl rfl (P_fld0 rfl ty_fl_32_0 rfl) ?_
 refine O_val rfl rfl rfl rfl (V_loadAgg rfl rfl ty_ag_29 ((Rds.blk .h2).part 0 (wi_sub hR _ _)) (by rw [ints_length, hR])) ?_
 refine O_val rfl rfl rfl rfl (V_loadAgg rfl rfl ty_ag_29 (Rds.blk .h3) (by rw [ints_length, hroot])) ?_
 refine O_keep rfl rfl (W_callV rfl rfl rfl rfl fn_ca_53 (inner_ok hG (rootD []) R (rootD_length _) hR) (fun _ _ => trivial) (K_keep (Weak.refl _) ?_))
 refine O_pure rfl rfl rfl rfl (P_neArr rfl rfl rfl ty_un_29 ty_int_5 ty_sc_5 ty_eg_29 (sha_length _) (hroot)) ?_
 refine O_nil ?_
 refine St.env (.cons (t := 6) rfl (.cons (t := 7) rfl (.cons (t := 8) rfl (.cons (t := 9) rfl (.cons (t := 46) rfl .nil))))) ?_
 refine Q_then ?_
 refine R_condP rfl (fun hn => ?_) (fun hn => ?_)
 ·skip
  refine R_region ?_
  refine L_val rfl rfl rfl (OpP.v (P_assign rfl rfl)) ?_
  refine L_nil ?_
  refine St.env (.cons (t := 6) rfl (.cons (t := 7) rfl (.cons (t := 8) rfl (.cons (t := 9) rfl .nil)))) ?_
  refine Q_block ?_
  refine Q_then ?_
  refine R_seq ?_
  refine R_region ?_
  refine L_val rfl rfl rfl (OpP.v (P_buildStruct rfl ty_pl_38 ty_ze_38 rfl rfl (rfl))) ?_
  refine L_val rfl rfl rfl (OpP.v (P_move rfl rfl)) ?_
  refine L_op rfl (W_storeAll rfl rfl rfl rfl ty_ag_38 (rfl) (Rec.one acc0) .h1 (rfl) ?_)
  refine L_val rfl rfl rfl (OpP.v (P_assign rfl rfl)) ?_
  refine L_val rfl rfl rfl (OpP.v (P_assign rfl rfl)) ?_
  refine L_nil ?_
  refine St.env (.cons (t := 6) rfl (.cons (t := 7) rfl (.cons (t := 8) rfl .nil))) ?_
  refine Q_then ?_
  refine R_ret ?_
  exact R_endV rfl rfl (.cell rfl (Rds.loadVar ty_ag_38 (Rds.blk .h1) rfl) (.tmp rfl (.tmp rfl .nil))) (by unfold verV; first | (rw [if_pos hn]; rfl) | (rw [if_neg hn]; rfl))
 ·skip
  refine R_skip ?_
  refine Q_block ?_
  refine Q_then ?_
  refine R_seq ?_
  refine R_region ?_
  refine L_val rfl rfl rfl (OpP.v (P_buildStruct rfl ty_pl_38 ty_ze_38 rfl rfl (rfl))) ?_
  refine L_val rfl rfl rfl (OpP.v (P_move rfl rfl)) ?_
  refine L_op rfl (W_storeAll rfl rfl rfl rfl ty_ag_38 (rfl) (Rec.one acc0) .h1 (rfl) ?_)
  refine L_val rfl rfl rfl (OpP.v (P_assign rfl rfl)) ?_
  refine L_val rfl rfl rfl (OpP.v (P_assign rfl rfl)) ?_
  refine L_nil ?_
  refine St.env (.cons (t := 6) rfl (.cons (t := 7) rfl (.cons (t := 8) rfl .nil))) ?_
  refine Q_then ?_
  refine R_ret ?_
  exact R_endV rfl rfl (.cell rfl (Rds.loadVar ty_ag_38 (Rds.blk .h1) rfl) (.tmp rfl (.tmp rfl .nil))) (by unfold verV; first | (rw [if_pos hn]; rfl) | (rw [if_neg hn]; rfl))
theorem ver_two {gl : Nat → Obj} (hG : Globs gl) (root R : List Int) (hroot : root.length = 32) (hR : R.length = 32) (ub pb : Option Addr) (uc pc : Nat) (ac : List Acc) (ps : List Pf) (hc : ac.length ≤ uc) (hpc : ps.length ≤ pc) (hps : ∀ p ∈ ps, PfIn p) (a : Int) (x y : Acc) (p q : Pf) (hx : ac[0]? = some x) (hy : ac[1]? = some y) (hp : ps[0]? = some p) (hq : ps[1]? = some q) (h2 : ac.length = 2) (h2' : ps.length = 2) : SpecV (cx gl) 12 [.agg (ints .u8 (root)).toArray, .int .u64 a, .agg (wiC R (.slice ub ac.length uc) (.slice pb ps.length pc)).toArray] (fun w => WitRow w ub ac pb ps) (verN (btwE root R a x y p q)) := by
 refine Spec.enter (C := cx gl) Tryz.func12 rfl 100 rfl rfl fun w0 h0 hsep hsub hpre => ?_
 obtain rfl : h0 = Heap.none := hsep
 show St (cx gl) _ [(0, .agg (ints .u8 (root)).toArray), (1, .int .u64 a), (2, .agg (wiC R (.slice ub ac.length uc) (.slice pb ps.length pc)).toArray)] _ _
 refine R_seq ?_
 refine R_region ?_
 refine L_op rfl (W_box (ints .u8 root) rfl rfl rfl rfl rfl fun b3 => ?_)
 refine L_op rfl (W_box (wiC R (.slice ub ac.length uc) (.slice pb ps.length pc)) rfl rfl rfl rfl rfl fun b5 => ?_)
 refine L_op rfl (W_alloc rfl rfl rfl ty_ze_38 fun b6 => ?_)
 refine L_val rfl rfl rfl (OpP.v (P_assign rfl rfl)) ?_
 refine L_val rfl rfl rfl (OpP.v (P_assign rfl rfl)) ?_
 refine L_nil ?_
 refine St.env (.cons (t := 1) rfl (.cons (t := 3) rfl (.cons (t := 5) rfl (.cons (t := 6) rfl (.cons (t := 7) rfl (.cons (t := 8) rfl .nil)))))) ?_
 refine Q_then ?_
 refine R_seq ?_
 refine R_region ?_
 refine L_val rfl rfl rfl (OpP.v (P_assign rfl rfl)) ?_
 refine L_nil ?_
 refine Q_then ?_
 refine R_seq ?_
 refine R_block ?_
 refine R_seq ?_
 refine R_region ?_
 refine L_val rfl rfl rfl (OpP.v (P_fld0 rfl ty_fl_32_1 rfl)) ?_
 refine L_val rfl rfl rfl (V_load rfl rfl ty_sc_22 (Rd.blk .h1 (wi_1 hR _ _))) ?_
 refine L_val rfl rfl rfl (OpP.v (P_len rfl ty_sl_22 rfl)) ?_
 refine L_val rfl rfl rfl (OpP.v (P_gtr rfl rfl rfl)) ?_
 refine E_false (t := 22) rfl (decide_eq_false (by omega)) ?_
 refine L_val rfl rfl rfl (OpP.v (P_move rfl rfl)) ?_
 refine L_val rfl rfl rfl (OpP.v (P_fld0 rfl ty_fl_32_1 rfl)) ?_
 refine L_val rfl rfl rfl (V_load rfl rfl ty_sc_22 (Rd.blk .h1 (wi_1 hR _ _))) ?_
 refine L_val rfl rfl rfl (OpP.v (P_len rfl ty_sl_22 rfl)) ?_
 refine L_val rfl rfl rfl (OpP.v (P_fld0 rfl ty_fl_32_2 rfl)) ?_
 refine L_val rfl rfl rfl (V_load rfl rfl ty_sc_30 (Rd.blk .h1 (wi_2 hR _ _))) ?_
 refine L_val rfl rfl rfl (OpP.v (P_len rfl ty_sl_30 rfl)) ?_
 refine L_val rfl rfl rfl (OpP.v (P_neq rfl rfl rfl)) ?_
 refine E_false (t := 30) rfl (decide_eq_false (by omega)) ?_
 refine L_val rfl rfl rfl (OpP.v (P_pick rfl rfl rfl)) ?_
 refine L_val rfl rfl rfl (OpP.v (P_assign rfl rfl)) ?_
 refine L_nil ?_
 refine St.env (.cons (t := 1) rfl (.cons (t := 3) rfl (.cons (t := 5) rfl (.cons (t := 6) rfl (.cons (t := 7) rfl (.cons (t := 8) rfl (.cons (t := 9) rfl (.cons (t := 18) rfl .nil)))))))) ?_
 refine Q_then ?_
 refine R_condF rfl ?_
 refine R_seq ?_
 refine R_region ?_
 refine L_val rfl rfl rfl (OpP.v (P_fld0 rfl ty_fl_32_1 rfl)) ?_
 refine L_val rfl rfl rfl (V_load rfl rfl ty_sc_22 (Rd.blk .h1 (wi_1 hR _ _))) ?_
 refine L_val rfl rfl rfl (OpP.v (P_len rfl ty_sl_22 rfl)) ?_
 refine L_val rfl rfl rfl (OpP.v (P_eql rfl rfl rfl)) ?_
 refine E_false (t := 36) rfl (decide_eq_false (by omega)) ?_
 refine L_val rfl rfl rfl (OpP.v (P_assign rfl rfl)) ?_
 refine L_nil ?_
 refine St.env (.cons (t := 1) rfl (.cons (t := 3) rfl (.cons (t := 5) rfl (.cons (t := 6) rfl (.cons (t := 7) rfl (.cons (t := 8) rfl (.cons (t := 9) rfl (.cons (t := 32) rfl .nil)))))))) ?_
 refine Q_then ?_
 refine R_condF rfl ?_
 refine R_seq ?_
 refine R_region ?_
 refine L_val rfl rfl rfl (OpP.v (P_fld0 rfl ty_fl_32_1 rfl)) ?_
 refine L_val rfl rfl rfl (V_load rfl rfl ty_sc_22 (Rd.blk .h1 (wi_1 hR _ _))) ?_
 refine L_val rfl rfl rfl (OpP.v (P_len rfl ty_sl_22 rfl)) ?_
 refine L_val rfl rfl rfl (OpP.v (P_eql rfl rfl rfl)) ?_
 refine E_false (t := 51) rfl (decide_eq_false (by omega)) ?_
 refine L_val rfl rfl rfl (OpP.v (P_assign rfl rfl)) ?_
 refine L_nil ?_
 refine St.env (.cons (t := 1) rfl (.cons (t := 3) rfl (.cons (t := 5) rfl (.cons (t := 6) rfl (.cons (t := 7) rfl (.cons (t := 8) rfl (.cons (t := 9) rfl (.cons (t := 47) rfl .nil)))))))) ?_
 refine Q_then ?_
 refine R_condF rfl ?_
 refine R_region ?_
 refine L_val rfl rfl rfl (V_loadAgg rfl rfl ty_ag_29 (Rds.blk .h2) (by rw [ints_length, hroot])) ?_
 refine L_val rfl rfl rfl (OpP.v (P_move rfl rfl)) ?_
 refine L_val rfl rfl rfl (V_loadAgg rfl rfl ty_ag_32 (Rds.blk .h1) (by rw [wi_len hR])) ?_
 refine L_op rfl (W_callV rfl rfl rfl rfl fn_ca_58 (between_ok hG root R hroot hR ub pb uc pc ac ps hc hpc hps a x y p q hx hy hp hq h2 h2') (WitRow.now hpre rfl) ?_)
 refine L_val rfl rfl rfl (OpP.v (P_assign rfl rfl)) ?_
 refine L_nil ?_
 refine St.env (.cons (t := 6) rfl (.cons (t := 7) rfl (.cons (t := 8) rfl (.cons (t := 9) rfl .nil)))) ?_
 refine Q_block ?_
 refine Q_then ?_
 refine R_seq ?_
 refine R_region ?_
 refine L_val rfl rfl rfl (OpP.v (P_buildStruct rfl ty_pl_38 ty_ze_38 rfl rfl (rfl))) ?_
 refine L_val rfl rfl rfl (OpP.v (P_move rfl rfl)) ?_
 refine L_op rfl (W_storeAll rfl rfl rfl rfl ty_ag_38 (rfl) (Rec.one acc0) .h0 (rfl) ?_)
 refine L_val rfl rfl rfl (OpP.v (P_assign rfl rfl)) ?_
 refine L_val rfl rfl rfl (OpP.v (P_assign rfl rfl)) ?_
 refine L_nil ?_
 refine St.env (.cons (t := 6) rfl (.cons (t := 7) rfl (.cons (t := 8) rfl .nil))) ?_
 refine Q_then ?_
 refine R_ret ?_
 exact R_endV rfl rfl (.cell rfl (Rds.loadVar ty_ag_38 (Rds.blk .h0) rfl) (.tmp rfl (.tmp rfl .nil))) (rfl)
theorem ver_one {gl : Nat → Obj} (hG : Globs gl) (root R : List Int) (hroot : root.length = 32) (hR : R.length = 32) (ub pb : Option Addr) (uc pc : Nat) (ac : List Acc) (ps : List Pf) (hc : ac.length ≤ uc) (hpc : ps.length ≤ pc) (hps : ∀ p ∈ ps, PfIn p) (a : Int) (x : Acc) (p : Pf) (hx : ac[0]? = some x) (hp : ps[0]? = some p) (h2 : ac.length = 1) (h2' : ps.length = 1) : SpecV (cx gl) 12 [.agg (ints .u8 (root)).toArray, .int .u64 a, .agg (wiC R (.slice ub ac.length uc) (.slice pb ps.length pc)).toArray] (fun w => WitRow w ub ac pb ps) (verV root R a [x] [p]) := by
 refine Spec.enter (C := cx gl) Tryz.func12 rfl 100 rfl rfl fun w0 h0 hsep hsub hpre => ?_
 obtain rfl : h0 = Heap.none := hsep
 show St (cx gl) _ [(0, .agg (ints .u8 (root)).toArray), (1, .int .u64 a), (2, .agg (wiC R (.slice ub ac.length uc) (.slice pb ps.length pc)).toArray)] _ _
 obtain ⟨p1, p2, p3⟩ := hpre
 have hpre : WitRow w0 ub ac pb ps := ⟨p1, p2, p3⟩
 obtain ⟨ab, aj, rfl, har⟩ := p1.some_ (by rw [rc_length]; show 0 < _ * 5; omega)
 obtain ⟨qb, qj, rfl, hqr⟩ := p2.some_ (by rw [rc_length]; show 0 < _ * 3; omega)
 refine R_seq ?_
 refine R_region ?_
 refine L_op rfl (W_box (ints .u8 root) rfl rfl rfl rfl rfl fun b3 => ?_)
 refine L_op rfl (W_box (wiC R (.slice (some ⟨ab, aj, none⟩) ac.length uc) (.slice (some ⟨qb, qj, none⟩) ps.length pc)) rfl rfl rfl rfl rfl fun b5 => ?_)
 refine L_op rfl (W_alloc rfl rfl rfl ty_ze_38 fun b6 => ?_)
 refine L_val rfl rfl rfl (OpP.v (P_assign rfl rfl)) ?_
 refine L_val rfl rfl rfl (OpP.v (P_assign rfl rfl)) ?_
 refine L_nil ?_
 refine St.env (.cons (t := 1) rfl (.cons (t := 3) rfl (.cons (t := 5) rfl (.cons (t := 6) rfl (.cons (t := 7) rfl (.cons (t := 8) rfl .nil)))))) ?_
 refine Q_then ?_
 refine R_seq ?_
 refine R_region ?_
 refine L_val rfl rfl rfl (OpP.v (P_assign rfl rfl)) ?_
 refine L_nil ?_
 refine Q_then ?_
 refine R_seq ?_
 refine R_block ?_
 refine R_seq ?_
 refine R_region ?_
 refine L_val rfl rfl rfl (OpP.v (P_fld0 rfl ty_fl_32_1 rfl)) ?_
 refine L_val rfl rfl rfl (V_load rfl rfl ty_sc_22 (Rd.blk .h1 (wi_1 hR _ _))) ?_
 refine L_val rfl rfl rfl (OpP.v (P_len rfl ty_sl_22 rfl)) ?_
 refine L_val rfl rfl rfl (OpP.v (P_gtr rfl rfl rfl)) ?_
 refine E_false (t := 22) rfl (decide_eq_false (by omega)) ?_
 refine L_val rfl rfl rfl (OpP.v (P_move rfl rfl)) ?_
 refine L_val rfl rfl rfl (OpP.v (P_fld0 rfl ty_fl_32_1 rfl)) ?_
 refine L_val rfl rfl rfl (V_load rfl rfl ty_sc_22 (Rd.blk .h1 (wi_1 hR _ _))) ?_
 refine L_val rfl rfl rfl (OpP.v (P_len rfl ty_sl_22 rfl)) ?_
 refine L_val rfl rfl rfl (OpP.v (P_fld0 rfl ty_fl_32_2 rfl)) ?_
 refine L_val rfl rfl rfl (V_load rfl rfl ty_sc_30 (Rd.blk .h1 (wi_2 hR _ _))) ?_
 refine L_val rfl rfl rfl (OpP.v (P_len rfl ty_sl_30 rfl)) ?_
 refine L_val rfl rfl rfl (OpP.v (P_neq rfl rfl rfl)) ?_
 refine E_false (t := 30) rfl (decide_eq_false (by omega)) ?_
 refine L_val rfl rfl rfl (OpP.v (P_pick rfl rfl rfl)) ?_
 refine L_val rfl rfl rfl (OpP.v (P_assign rfl rfl)) ?_
 refine L_nil ?_
 refine St.env (.cons (t := 1) rfl (.cons (t := 3) rfl (.cons (t := 5) rfl (.cons (t := 6) rfl (.cons (t := 7) rfl (.cons (t := 8) rfl (.cons (t := 9) rfl (.cons (t := 18) rfl .nil)))))))) ?_
 refine Q_then ?_
 refine R_condF rfl ?_
 refine R_seq ?_
 refine R_region ?_
 refine L_val rfl rfl rfl (OpP.v (P_fld0 rfl ty_fl_32_1 rfl)) ?_
 refine L_val rfl rfl rfl (V_load rfl rfl ty_sc_22 (Rd.blk .h1 (wi_1 hR _ _))) ?_
 refine L_val rfl rfl rfl (OpP.v (P_len rfl ty_sl_22 rfl)) ?_
 refine L_val rfl rfl rfl (OpP.v (P_eql rfl rfl rfl)) ?_
 refine E_false (t := 36) rfl (decide_eq_false (by omega)) ?_
 refine L_val rfl rfl rfl (OpP.v (P_assign rfl rfl)) ?_
 refine L_nil ?_
 refine St.env (.cons (t := 1) rfl (.cons (t := 3) rfl (.cons (t := 5) rfl (.cons (t := 6) rfl (.cons (t := 7) rfl (.cons (t := 8) rfl (.cons (t := 9) rfl (.cons (t := 32) rfl .nil)))))))) ?_
 refine Q_then ?_
 refine R_condF rfl ?_
 refine R_seq ?_
 refine R_region ?_
 refine L_val rfl rfl rfl (OpP.v (P_fld0 rfl ty_fl_32_1 rfl)) ?_
 refine L_val rfl rfl rfl (V_load rfl rfl ty_sc_22 (Rd.blk .h1 (wi_1 hR _ _))) ?_
 refine L_val rfl rfl rfl (OpP.v (P_len rfl ty_sl_22 rfl)) ?_
 refine L_val rfl rfl rfl (OpP.v (P_eql rfl rfl rfl)) ?_
 refine E_true (t := 51) rfl (decide_eq_true (by omega)) ?_
 refine L_val rfl rfl rfl (OpP.v (P_assign rfl rfl)) ?_
 refine L_nil ?_
 refine St.env (.cons (t := 1) rfl (.cons (t := 3) rfl (.cons (t := 5) rfl (.cons (t := 6) rfl (.cons (t := 7) rfl (.cons (t := 8) rfl (.cons (t := 9) rfl (.cons (t := 47) rfl .nil)))))))) ?_
 refine Q_then ?_
 refine R_condT rfl ?_
 refine R_seq ?_
 refine PQ_open (.pre 0 0 (.pre 1 1 (.pre 2 0 (.pre 3 1 (.pre 4 0 (.pre 5 1 (.pre 6 0 (.pre 7 1 (.perm [8, 9] (.op 10 2 (.op 11 2 .nil))))))))))) [blk b5 (wiC R (.slice (some ⟨ab, aj, none⟩) ac.length uc) (.slice (some ⟨qb, qj, none⟩) ps.length pc)) 32] (Weak.pick (p := [_]) (Weak.nil _)) mixed (by kernel_rfl) (QOk.then (QOk.block (QOk.then QOk.body))) ?_
 refine PPQ_pure rfl rfl rfl rfl (P_fld0 rfl ty_fl_32_1 rfl) ?_
 refine PPQ_val rfl rfl rfl rfl (V_load rfl rfl ty_sc_22 (Rd.blk .h0 (wi_1 hR _ _))) ?_
 refine PPQ_pure rfl rfl rfl rfl (P_ixs (0) rfl ty_sl_22 rfl rfl (by first | rfl | omega) (by omega)) ?_
 refine PPQ_val rfl rfl rfl rfl (V_loadAgg rfl rfl ty_ag_38 (rds_rc (Rds.row har rfl) hx) (rfl)) ?_
 refine PPQ_pure rfl rfl rfl rfl (P_fld0 rfl ty_fl_32_2 rfl) ?_
 refine PPQ_val rfl rfl rfl rfl (V_load rfl rfl ty_sc_30 (Rd.blk .h0 (wi_2 hR _ _))) ?_
 refine PPQ_pure rfl rfl rfl rfl (P_ixs (0) rfl ty_sl_30 rfl rfl (by first | rfl | omega) (by omega)) ?_
 refine PPQ_val rfl rfl rfl rfl (V_loadAgg rfl rfl ty_ag_47 (rds_rc (Rds.row hqr rfl) hp) (rfl)) ?_
 refine PPQ_perm (Weak.pick (p := [_]) (Weak.nil _)) (js := [⟨8, 12, 38, [.int .u64 0, .int .u64 0, .int .u64 0, .int .u64 0, .bool false]⟩, ⟨9, 13, 47, [.int .i64 0, .int .i64 0, .slice none 0 0]⟩]) (by intro j hj; simp only [List.mem_cons, List.not_mem_nil, or_false] at hj; rcases hj with rfl | rfl; exact ⟨⟨_, rfl, rfl, rfl, rfl⟩, rfl, ty_ze_38⟩; exact ⟨⟨_, rfl, rfl, rfl, rfl⟩, rfl, ty_ze_47⟩) (by decide) (by decide) (by decide) fun f => ?_
 show StTQ (cx gl) _ _ _ _ ((12, .pointer (some ⟨f 12, 0, none⟩)) :: (13, .pointer (some ⟨f 13, 0, none⟩)) :: _) _ (blk (f 12) ([.int .u64 0, .int .u64 0, .int .u64 0, .int .u64 0, .bool false]) 38 :: blk (f 13) ([.int .i64 0, .int .i64 0, .slice none 0 0]) 47 :: _)
 generalize f 12 = b12
 generalize f 13 = b13
 refine TQ_keep rfl rfl (W_storeAll rfl rfl rfl rfl ty_ag_38 (rfl) (Rec.one x) .h0 (rfl) (K_keepTQ (Weak.pick (p := [_, _, _]) (Weak.nil _)) ?_))
 refine TQ_keep rfl rfl (W_storeAll rfl rfl rfl rfl ty_ag_47 (rfl) (Pf.one p) .h1 (rfl) (K_keepTQ (Weak.pick (p := [_, _, _]) (Weak.nil _)) ?_))
 refine TQ_nil ?_
 refine St.env (.cons (t := 1) rfl (.cons (t := 3) rfl (.cons (t := 5) rfl (.cons (t := 6) rfl (.cons (t := 7) rfl (.cons (t := 8) rfl (.cons (t := 9) rfl (.cons (t := 12) rfl (.cons (t := 13) rfl .nil))))))))) ?_
 refine Q_then ?_
 refine R_seq ?_
 refine R_region ?_
 refine L_val rfl rfl rfl (OpP.v (P_fld0 rfl ty_fl_38_0 rfl)) ?_
 refine L_val rfl rfl rfl (V_load rfl rfl ty_sc_27 (Rd.blk .h0 rfl)) ?_
 refine L_val rfl rfl rfl (OpP.v (P_move rfl rfl)) ?_
 refine L_val rfl rfl rfl (OpP.v (P_gtr rfl rfl rfl)) ?_
 refine E_bool (t := 63) rfl (fun e1 => ?_) (fun e1 => ?_)
 ·skip
  have e1 := of_decide_eq_true e1
  refine L_val rfl rfl rfl (OpP.v (P_move rfl rfl)) ?_
  refine L_val rfl rfl rfl (OpP.v (P_fld0 rfl ty_fl_47_1 rfl)) ?_
  refine L_val rfl rfl rfl (V_load rfl rfl ty_sc_3 (Rd.blk .h1 rfl)) ?_
  refine L_val rfl rfl rfl (OpP.v (P_neq rfl rfl rfl)) ?_
  refine E_bool (t := 67) rfl (fun e2 => ?_) (fun e2 => ?_)
  ·skip
   have e2 := of_decide_eq_true e2
   refine L_val rfl rfl rfl (OpP.v (P_pick rfl rfl rfl)) ?_
   refine L_val rfl rfl rfl (OpP.v (P_move rfl rfl)) ?_
   refine L_no rfl rfl rfl ?_
   refine L_no rfl rfl rfl ?_
   refine L_no rfl rfl rfl ?_
   refine L_no rfl rfl rfl ?_
   refine L_no rfl rfl rfl ?_
   refine L_no rfl rfl rfl ?_
   refine L_no rfl rfl rfl ?_
   refine L_no rfl rfl rfl ?_
   refine L_no rfl rfl rfl ?_
   refine L_no rfl rfl rfl ?_
   refine L_no rfl rfl rfl ?_
   refine L_no rfl rfl rfl ?_
   refine L_val rfl rfl rfl (OpP.v (P_pick rfl rfl rfl)) ?_
   refine L_nil ?_
   refine St.env (.cons (t := 1) rfl (.cons (t := 3) rfl (.cons (t := 5) rfl (.cons (t := 6) rfl (.cons (t := 7) rfl (.cons (t := 8) rfl (.cons (t := 9) rfl (.cons (t := 12) rfl (.cons (t := 82) rfl .nil))))))))) ?_
   refine Q_then ?_
   refine R_condT rfl ?_
   have hob : oneB a x p := by unfold oneB; first | exact .inl ⟨by omega, e2⟩ | exact .inr ⟨by omega, e4⟩
   refine R_region ?_
   refine L_val rfl rfl rfl (OpP.v (P_assign rfl rfl)) ?_
   refine L_nil ?_
   refine St.env (.cons (t := 6) rfl (.cons (t := 7) rfl (.cons (t := 8) rfl (.cons (t := 9) rfl .nil)))) ?_
   refine Q_block ?_
   refine Q_then ?_
   refine R_seq ?_
   refine R_region ?_
   refine L_val rfl rfl rfl (OpP.v (P_buildStruct rfl ty_pl_38 ty_ze_38 rfl rfl (rfl))) ?_
   refine L_val rfl rfl rfl (OpP.v (P_move rfl rfl)) ?_
   refine L_op rfl (W_storeAll rfl rfl rfl rfl ty_ag_38 (rfl) (Rec.one acc0) .h2 (rfl) ?_)
   refine L_val rfl rfl rfl (OpP.v (P_assign rfl rfl)) ?_
   refine L_val rfl rfl rfl (OpP.v (P_assign rfl rfl)) ?_
   refine L_nil ?_
   refine St.env (.cons (t := 6) rfl (.cons (t := 7) rfl (.cons (t := 8) rfl .nil))) ?_
   refine Q_then ?_
   refine R_ret ?_
   exact R_endV rfl rfl (.cell rfl (Rds.loadVar ty_ag_38 (Rds.blk .h2) rfl) (.tmp rfl (.tmp rfl .nil))) (by rw [verV_one]; first | (rw [if_pos hob]; rfl) | (rw [if_neg hob, if_neg (fun h9 => by first | exact f1 h9.1 | exact f2 h9.2)]; rfl))
  ·skip
   have e2 := of_decide_eq_false e2
   refine L_val rfl rfl rfl (OpP.v (P_pick rfl rfl rfl)) ?_
   refine L_val rfl rfl rfl (OpP.v (P_move rfl rfl)) ?_
   refine L_val rfl rfl rfl (OpP.v (P_fld0 rfl ty_fl_38_0 rfl)) ?_
   refine L_val rfl rfl rfl (V_load rfl rfl ty_sc_27 (Rd.blk .h0 rfl)) ?_
   refine L_val rfl rfl rfl (OpP.v (P_move rfl rfl)) ?_
   refine L_val rfl rfl rfl (OpP.v (P_lss rfl rfl rfl)) ?_
   refine E_bool (t := 73) rfl (fun e3 => ?_) (fun e3 => ?_)
   ·skip
    have e3 := of_decide_eq_true e3
    refine L_val rfl rfl rfl (OpP.v (P_move rfl rfl)) ?_
    refine L_val rfl rfl rfl (OpP.v (P_fld0 rfl ty_fl_47_1 rfl)) ?_
    refine L_val rfl rfl rfl (V_load rfl rfl ty_sc_3 (Rd.blk .h1 rfl)) ?_
    refine L_val rfl rfl rfl (OpP.v (P_fld0 rfl ty_fl_47_0 rfl)) ?_
    refine L_val rfl rfl rfl (V_load rfl rfl ty_sc_3 (Rd.blk .h1 rfl)) ?_
    refine L_val rfl rfl rfl (OpP.v (P_sub rfl rfl rfl)) ?_
    refine L_val rfl rfl rfl (OpP.v (P_neq rfl rfl rfl)) ?_
    refine E_bool (t := 80) rfl (fun e4 => ?_) (fun e4 => ?_)
    ·skip
     have e4 := of_decide_eq_true e4
     refine L_val rfl rfl rfl (OpP.v (P_pick rfl rfl rfl)) ?_
     refine L_val rfl rfl rfl (OpP.v (P_pick rfl rfl rfl)) ?_
     refine L_nil ?_
     refine St.env (.cons (t := 1) rfl (.cons (t := 3) rfl (.cons (t := 5) rfl (.cons (t := 6) rfl (.cons (t := 7) rfl (.cons (t := 8) rfl (.cons (t := 9) rfl (.cons (t := 12) rfl (.cons (t := 82) rfl .nil))))))))) ?_
     refine Q_then ?_
     refine R_condT rfl ?_
     have hob : oneB a x p := by unfold oneB; first | exact .inl ⟨by omega, e2⟩ | exact .inr ⟨by omega, e4⟩
     refine R_region ?_
     refine L_val rfl rfl rfl (OpP.v (P_assign rfl rfl)) ?_
     refine L_nil ?_
     refine St.env (.cons (t := 6) rfl (.cons (t := 7) rfl (.cons (t := 8) rfl (.cons (t := 9) rfl .nil)))) ?_
     refine Q_block ?_
     refine Q_then ?_
     refine R_seq ?_
     refine R_region ?_
     refine L_val rfl rfl rfl (OpP.v (P_buildStruct rfl ty_pl_38 ty_ze_38 rfl rfl (rfl))) ?_
     refine L_val rfl rfl rfl (OpP.v (P_move rfl rfl)) ?_
     refine L_op rfl (W_storeAll rfl rfl rfl rfl ty_ag_38 (rfl) (Rec.one acc0) .h2 (rfl) ?_)
     refine L_val rfl rfl rfl (OpP.v (P_assign rfl rfl)) ?_
     refine L_val rfl rfl rfl (OpP.v (P_assign rfl rfl)) ?_
     refine L_nil ?_
     refine St.env (.cons (t := 6) rfl (.cons (t := 7) rfl (.cons (t := 8) rfl .nil))) ?_
     refine Q_then ?_
     refine R_ret ?_
     exact R_endV rfl rfl (.cell rfl (Rds.loadVar ty_ag_38 (Rds.blk .h2) rfl) (.tmp rfl (.tmp rfl .nil))) (by rw [verV_one]; first | (rw [if_pos hob]; rfl) | (rw [if_neg hob, if_neg (fun h9 => by first | exact f1 h9.1 | exact f2 h9.2)]; rfl))
    ·skip
     have e4 := of_decide_eq_false e4
     refine L_val rfl rfl rfl (OpP.v (P_pick rfl rfl rfl)) ?_
     refine L_val rfl rfl rfl (OpP.v (P_pick rfl rfl rfl)) ?_
     refine L_nil ?_
     refine St.env (.cons (t := 1) rfl (.cons (t := 3) rfl (.cons (t := 5) rfl (.cons (t := 6) rfl (.cons (t := 7) rfl (.cons (t := 8) rfl (.cons (t := 9) rfl (.cons (t := 12) rfl (.cons (t := 82) rfl .nil))))))))) ?_
     refine Q_then ?_
     refine R_condF rfl ?_
     refine R_seq ?_
     have hob : ¬ oneB a x p := oneB_no (by first | exact .inl (by omega) | exact .inr e2) (by first | exact .inl (by omega) | exact .inr e4)
     refine R_region ?_
     refine L_val rfl rfl rfl (V_loadAgg rfl rfl ty_ag_29 (Rds.blk .h4) (by rw [ints_length, hroot])) ?_
     refine L_val rfl rfl rfl (V_loadAgg rfl rfl ty_ag_32 (Rds.blk .h3) (by rw [wi_len hR])) ?_
     refine L_op rfl (W_callV rfl rfl rfl rfl fn_ca_57 (leads_ok hG root R hroot hR (some ⟨ab, aj, none⟩) (some ⟨qb, qj, none⟩) uc pc ac ps hc hpc hps 0 x p hx hp (by omega) (by omega)) (WitRow.now hpre rfl) ?_)
     refine L_val rfl rfl rfl (OpP.v (P_move rfl rfl)) ?_
     refine L_val rfl rfl rfl (OpP.v (P_extract rfl rfl rfl)) ?_
     refine L_val rfl rfl rfl (OpP.v (P_extract rfl rfl rfl)) ?_
     refine L_val rfl rfl rfl (OpP.v (P_assign rfl rfl)) ?_
     refine L_nil ?_
     refine St.env (.cons (t := 1) rfl (.cons (t := 6) rfl (.cons (t := 7) rfl (.cons (t := 8) rfl (.cons (t := 9) rfl (.cons (t := 12) rfl .nil)))))) ?_
     refine Q_then ?_
     refine R_seq ?_
     refine R_region ?_
     refine L_val rfl rfl rfl (OpP.v (P_move rfl rfl)) ?_
     refine L_val rfl rfl rfl (OpP.v (P_eql rfl rfl rfl)) ?_
     refine E_bool (t := 90) rfl (fun f1 => ?_) (fun f1 => ?_)
     ·skip
      have f1 := of_decide_eq_true f1
      refine L_val rfl rfl rfl (OpP.v (P_move rfl rfl)) ?_
      refine L_val rfl rfl rfl (OpP.v (P_fld0 rfl ty_fl_38_0 rfl)) ?_
      refine L_val rfl rfl rfl (V_load rfl rfl ty_sc_27 (Rd.blk .h0 rfl)) ?_
      refine L_val rfl rfl rfl (OpP.v (P_move rfl rfl)) ?_
      refine L_val rfl rfl rfl (OpP.v (P_eql rfl rfl rfl)) ?_
      refine E_bool (t := 95) rfl (fun f2 => ?_) (fun f2 => ?_)
      ·skip
       have f2 := of_decide_eq_true f2
       refine L_val rfl rfl rfl (OpP.v (P_pick rfl rfl rfl)) ?_
       refine L_nil ?_
       refine St.env (.cons (t := 6) rfl (.cons (t := 7) rfl (.cons (t := 8) rfl (.cons (t := 9) rfl (.cons (t := 12) rfl (.cons (t := 96) rfl .nil)))))) ?_
       refine Q_then ?_
       refine R_condT rfl ?_
       refine R_seq ?_
       refine R_region ?_
       refine L_val rfl rfl rfl (V_loadAgg rfl rfl ty_ag_38 (Rds.blk .h0) (rfl)) ?_
       refine L_op rfl (W_storeAll rfl rfl rfl rfl ty_ag_38 (rfl) (Rec.one x) .h2 (rfl) ?_)
       refine L_val rfl rfl rfl (OpP.v (P_assign rfl rfl)) ?_
       refine L_val rfl rfl rfl (OpP.v (P_assign rfl rfl)) ?_
       refine L_nil ?_
       refine St.env (.cons (t := 6) rfl (.cons (t := 7) rfl (.cons (t := 8) rfl (.cons (t := 9) rfl .nil)))) ?_
       refine Q_then ?_
       refine R_ret ?_
       refine Q_block_ret ?_
       refine Q_then_ret ?_
       exact R_endV rfl rfl (.cell rfl (Rds.loadVar ty_ag_38 (Rds.blk .h2) rfl) (.tmp rfl (.tmp rfl .nil))) (by rw [verV_one]; rw [if_neg hob, if_pos ⟨f1, f2⟩]; rfl)
      ·skip
       have f2 := of_decide_eq_false f2
       refine L_val rfl rfl rfl (OpP.v (P_pick rfl rfl rfl)) ?_
       refine L_nil ?_
       refine St.env (.cons (t := 6) rfl (.cons (t := 7) rfl (.cons (t := 8) rfl (.cons (t := 9) rfl (.cons (t := 12) rfl (.cons (t := 96) rfl .nil)))))) ?_
       refine Q_then ?_
       refine R_condF rfl ?_
       refine R_skip ?_
       refine Q_block ?_
       refine Q_then ?_
       refine R_seq ?_
       refine R_region ?_
       refine L_val rfl rfl rfl (OpP.v (P_buildStruct rfl ty_pl_38 ty_ze_38 rfl rfl (rfl))) ?_
       refine L_val rfl rfl rfl (OpP.v (P_move rfl rfl)) ?_
       refine L_op rfl (W_storeAll rfl rfl rfl rfl ty_ag_38 (rfl) (Rec.one acc0) .h2 (rfl) ?_)
       refine L_val rfl rfl rfl (OpP.v (P_assign rfl rfl)) ?_
       refine L_val rfl rfl rfl (OpP.v (P_assign rfl rfl)) ?_
       refine L_nil ?_
       refine St.env (.cons (t := 6) rfl (.cons (t := 7) rfl (.cons (t := 8) rfl .nil))) ?_
       refine Q_then ?_
       refine R_ret ?_
       exact R_endV rfl rfl (.cell rfl (Rds.loadVar ty_ag_38 (Rds.blk .h2) rfl) (.tmp rfl (.tmp rfl .nil))) (by rw [verV_one]; first | (rw [if_pos hob]; rfl) | (rw [if_neg hob, if_neg (fun h9 => by first | exact f1 h9.1 | exact f2 h9.2)]; rfl))
     ·skip
      have f1 := of_decide_eq_false f1
      refine L_val rfl rfl rfl (OpP.v (P_move rfl rfl)) ?_
      refine L_no rfl rfl rfl ?_
      refine L_no rfl rfl rfl ?_
      refine L_no rfl rfl rfl ?_
      refine L_no rfl rfl rfl ?_
      refine L_val rfl rfl rfl (OpP.v (P_pick rfl rfl rfl)) ?_
      refine L_nil ?_
      refine St.env (.cons (t := 6) rfl (.cons (t := 7) rfl (.cons (t := 8) rfl (.cons (t := 9) rfl (.cons (t := 12) rfl (.cons (t := 96) rfl .nil)))))) ?_
      refine Q_then ?_
      refine R_condF rfl ?_
      refine R_skip ?_
      refine Q_block ?_
      refine Q_then ?_
      refine R_seq ?_
      refine R_region ?_
      refine L_val rfl rfl rfl (OpP.v (P_buildStruct rfl ty_pl_38 ty_ze_38 rfl rfl (rfl))) ?_
      refine L_val rfl rfl rfl (OpP.v (P_move rfl rfl)) ?_
      refine L_op rfl (W_storeAll rfl rfl rfl rfl ty_ag_38 (rfl) (Rec.one acc0) .h2 (rfl) ?_)
      refine L_val rfl rfl rfl (OpP.v (P_assign rfl rfl)) ?_
      refine L_val rfl rfl rfl (OpP.v (P_assign rfl rfl)) ?_
      refine L_nil ?_
      refine St.env (.cons (t := 6) rfl (.cons (t := 7) rfl (.cons (t := 8) rfl .nil))) ?_
      refine Q_then ?_
      refine R_ret ?_
      exact R_endV rfl rfl (.cell rfl (Rds.loadVar ty_ag_38 (Rds.blk .h2) rfl) (.tmp rfl (.tmp rfl .nil))) (by rw [verV_one]; first | (rw [if_pos hob]; rfl) | (rw [if_neg hob, if_neg (fun h9 => by first | exact f1 h9.1 | exact f2 h9.2)]; rfl))
   ·skip
    have e3 := of_decide_eq_false e3
    refine L_val rfl rfl rfl (OpP.v (P_move rfl rfl)) ?_
    refine L_no rfl rfl rfl ?_
    refine L_no rfl rfl rfl ?_
    refine L_no rfl rfl rfl ?_
    refine L_no rfl rfl rfl ?_
    refine L_no rfl rfl rfl ?_
    refine L_no rfl rfl rfl ?_
    refine L_val rfl rfl rfl (OpP.v (P_pick rfl rfl rfl)) ?_
    refine L_val rfl rfl rfl (OpP.v (P_pick rfl rfl rfl)) ?_
    refine L_nil ?_
    refine St.env (.cons (t := 1) rfl (.cons (t := 3) rfl (.cons (t := 5) rfl (.cons (t := 6) rfl (.cons (t := 7) rfl (.cons (t := 8) rfl (.cons (t := 9) rfl (.cons (t := 12) rfl (.cons (t := 82) rfl .nil))))))))) ?_
    refine Q_then ?_
    refine R_condF rfl ?_
    refine R_seq ?_
    have hob : ¬ oneB a x p := oneB_no (by first | exact .inl (by omega) | exact .inr e2) (by first | exact .inl (by omega) | exact .inr e4)
    refine R_region ?_
    refine L_val rfl rfl rfl (V_loadAgg rfl rfl ty_ag_29 (Rds.blk .h4) (by rw [ints_length, hroot])) ?_
    refine L_val rfl rfl rfl (V_loadAgg rfl rfl ty_ag_32 (Rds.blk .h3) (by rw [wi_len hR])) ?_
    refine L_op rfl (W_callV rfl rfl rfl rfl fn_ca_57 (leads_ok hG root R hroot hR (some ⟨ab, aj, none⟩) (some ⟨qb, qj, none⟩) uc pc ac ps hc hpc hps 0 x p hx hp (by omega) (by omega)) (WitRow.now hpre rfl) ?_)
    refine L_val rfl rfl rfl (OpP.v (P_move rfl rfl)) ?_
    refine L_val rfl rfl rfl (OpP.v (P_extract rfl rfl rfl)) ?_
    refine L_val rfl rfl rfl (OpP.v (P_extract rfl rfl rfl)) ?_
    refine L_val rfl rfl rfl (OpP.v (P_assign rfl rfl)) ?_
    refine L_nil ?_
    refine St.env (.cons (t := 1) rfl (.cons (t := 6) rfl (.cons (t := 7) rfl (.cons (t := 8) rfl (.cons (t := 9) rfl (.cons (t := 12) rfl .nil)))))) ?_
    refine Q_then ?_
    refine R_seq ?_
    refine R_region ?_
    refine L_val rfl rfl rfl (OpP.v (P_move rfl rfl)) ?_
    refine L_val rfl rfl rfl (OpP.v (P_eql rfl rfl rfl)) ?_
    refine E_bool (t := 90) rfl (fun f1 => ?_) (fun f1 => ?_)
    ·skip
     have f1 := of_decide_eq_true f1
     refine L_val rfl rfl rfl (OpP.v (P_move rfl rfl)) ?_
     refine L_val rfl rfl rfl (OpP.v (P_fld0 rfl ty_fl_38_0 rfl)) ?_
     refine L_val rfl rfl rfl (V_load rfl rfl ty_sc_27 (Rd.blk .h0 rfl)) ?_
     refine L_val rfl rfl rfl (OpP.v (P_move rfl rfl)) ?_
     refine L_val rfl rfl rfl (OpP.v (P_eql rfl rfl rfl)) ?_
     refine E_bool (t := 95) rfl (fun f2 => ?_) (fun f2 => ?_)
     ·skip
      have f2 := of_decide_eq_true f2
      refine L_val rfl rfl rfl (OpP.v (P_pick rfl rfl rfl)) ?_
      refine L_nil ?_
      refine St.env (.cons (t := 6) rfl (.cons (t := 7) rfl (.cons (t := 8) rfl (.cons (t := 9) rfl (.cons (t := 12) rfl (.cons (t := 96) rfl .nil)))))) ?_
      refine Q_then ?_
      refine R_condT rfl ?_
      refine R_seq ?_
      refine R_region ?_
      refine L_val rfl rfl rfl (V_loadAgg rfl rfl ty_ag_38 (Rds.blk .h0) (rfl)) ?_
      refine L_op rfl (W_storeAll rfl rfl rfl rfl ty_ag_38 (rfl) (Rec.one x) .h2 (rfl) ?_)
      refine L_val rfl rfl rfl (OpP.v (P_assign rfl rfl)) ?_
      refine L_val rfl rfl rfl (OpP.v (P_assign rfl rfl)) ?_
      refine L_nil ?_
      refine St.env (.cons (t := 6) rfl (.cons (t := 7) rfl (.cons (t := 8) rfl (.cons (t := 9) rfl .nil)))) ?_
      refine Q_then ?_
      refine R_ret ?_
      refine Q_block_ret ?_
      refine Q_then_ret ?_
      exact R_endV rfl rfl (.cell rfl (Rds.loadVar ty_ag_38 (Rds.blk .h2) rfl) (.tmp rfl (.tmp rfl .nil))) (by rw [verV_one]; rw [if_neg hob, if_pos ⟨f1, f2⟩]; rfl)
     ·skip
      have f2 := of_decide_eq_false f2
      refine L_val rfl rfl rfl (OpP.v (P_pick rfl rfl rfl)) ?_
      refine L_nil ?_
      refine St.env (.cons (t := 6) rfl (.cons (t := 7) rfl (.cons (t := 8) rfl (.cons (t := 9) rfl (.cons (t := 12) rfl (.cons (t := 96) rfl .nil)))))) ?_
      refine Q_then ?_
      refine R_condF rfl ?_
      refine R_skip ?_
      refine Q_block ?_
      refine Q_then ?_
      refine R_seq ?_
      refine R_region ?_
      refine L_val rfl rfl rfl (OpP.v (P_buildStruct rfl ty_pl_38 ty_ze_38 rfl rfl (rfl))) ?_
      refine L_val rfl rfl rfl (OpP.v (P_move rfl rfl)) ?_
      refine L_op rfl (W_storeAll rfl rfl rfl rfl ty_ag_38 (rfl) (Rec.one acc0) .h2 (rfl) ?_)
      refine L_val rfl rfl rfl (OpP.v (P_assign rfl rfl)) ?_
      refine L_val rfl rfl rfl (OpP.v (P_assign rfl rfl)) ?_
      refine L_nil ?_
      refine St.env (.cons (t := 6) rfl (.cons (t := 7) rfl (.cons (t := 8) rfl .nil))) ?_
      refine Q_then ?_
      refine R_ret ?_
      exact R_endV rfl rfl (.cell rfl (Rds.loadVar ty_ag_38 (Rds.blk .h2) rfl) (.tmp rfl (.tmp rfl .nil))) (by rw [verV_one]; first | (rw [if_pos hob]; rfl) | (rw [if_neg hob, if_neg (fun h9 => by first | exact f1 h9.1 | exact f2 h9.2)]; rfl))
    ·skip
     have f1 := of_decide_eq_false f1
     refine L_val rfl rfl rfl (OpP.v (P_move rfl rfl)) ?_
     refine L_no rfl rfl rfl ?_
     refine L_no rfl rfl rfl ?_
     refine L_no rfl rfl rfl ?_
     refine L_no rfl rfl rfl ?_
     refine L_val rfl rfl rfl (OpP.v (P_pick rfl rfl rfl)) ?_
     refine L_nil ?_
     refine St.env (.cons (t := 6) rfl (.cons (t := 7) rfl (.cons (t := 8) rfl (.cons (t := 9) rfl (.cons (t := 12) rfl (.cons (t := 96) rfl .nil)))))) ?_
     refine Q_then ?_
     refine R_condF rfl ?_
     refine R_skip ?_
     refine Q_block ?_
     refine Q_then ?_
     refine R_seq ?_
     refine R_region ?_
     refine L_val rfl rfl rfl (OpP.v (P_buildStruct rfl ty_pl_38 ty_ze_38 rfl rfl (rfl))) ?_
     refine L_val rfl rfl rfl (OpP.v (P_move rfl rfl)) ?_
     refine L_op rfl (W_storeAll rfl rfl rfl rfl ty_ag_38 (rfl) (Rec.one acc0) .h2 (rfl) ?_)
     refine L_val rfl rfl rfl (OpP.v (P_assign rfl rfl)) ?_
     refine L_val rfl rfl rfl (OpP.v (P_assign rfl rfl)) ?_
     refine L_nil ?_
     refine St.env (.cons (t := 6) rfl (.cons (t := 7) rfl (.cons (t := 8) rfl .nil))) ?_
     refine Q_then ?_
     refine R_ret ?_
     exact R_endV rfl rfl (.cell rfl (Rds.loadVar ty_ag_38 (Rds.blk .h2) rfl) (.tmp rfl (.tmp rfl .nil))) (by rw [verV_one]; first | (rw [if_pos hob]; rfl) | (rw [if_neg hob, if_neg (fun h9 => by first | exact f1 h9.1 | exact f2 h9.2)]; rfl))
 ·skip
  have e1 := of_decide_eq_false e1
  refine L_val rfl rfl rfl (OpP.v (P_move rfl rfl)) ?_
  refine L_no rfl rfl rfl ?_
  refine L_no rfl rfl rfl ?_
  refine L_no rfl rfl rfl ?_
  refine L_val rfl rfl rfl (OpP.v (P_pick rfl rfl rfl)) ?_
  refine L_val rfl rfl rfl (OpP.v (P_move rfl rfl)) ?_
  refine L_val rfl rfl rfl (OpP.v (P_fld0 rfl ty_fl_38_0 rfl)) ?_
  refine L_val rfl rfl rfl (V_load rfl rfl ty_sc_27 (Rd.blk .h0 rfl)) ?_
  refine L_val rfl rfl rfl (OpP.v (P_move rfl rfl)) ?_
  refine L_val rfl rfl rfl (OpP.v (P_lss rfl rfl rfl)) ?_
  refine E_bool (t := 73) rfl (fun e3 => ?_) (fun e3 => ?_)
  ·skip
   have e3 := of_decide_eq_true e3
   refine L_val rfl rfl rfl (OpP.v (P_move rfl rfl)) ?_
   refine L_val rfl rfl rfl (OpP.v (P_fld0 rfl ty_fl_47_1 rfl)) ?_
   refine L_val rfl rfl rfl (V_load rfl rfl ty_sc_3 (Rd.blk .h1 rfl)) ?_
   refine L_val rfl rfl rfl (OpP.v (P_fld0 rfl ty_fl_47_0 rfl)) ?_
   refine L_val rfl rfl rfl (V_load rfl rfl ty_sc_3 (Rd.blk .h1 rfl)) ?_
   refine L_val rfl rfl rfl (OpP.v (P_sub rfl rfl rfl)) ?_
   refine L_val rfl rfl rfl (OpP.v (P_neq rfl rfl rfl)) ?_
   refine E_bool (t := 80) rfl (fun e4 => ?_) (fun e4 => ?_)
   ·skip
    have e4 := of_decide_eq_true e4
    refine L_val rfl rfl rfl (OpP.v (P_pick rfl rfl rfl)) ?_
    refine L_val rfl rfl rfl (OpP.v (P_pick rfl rfl rfl)) ?_
    refine L_nil ?_
    refine St.env (.cons (t := 1) rfl (.cons (t := 3) rfl (.cons (t := 5) rfl (.cons (t := 6) rfl (.cons (t := 7) rfl (.cons (t := 8) rfl (.cons (t := 9) rfl (.cons (t := 12) rfl (.cons (t := 82) rfl .nil))))))))) ?_
    refine Q_then ?_
    refine R_condT rfl ?_
    have hob : oneB a x p := by unfold oneB; first | exact .inl ⟨by omega, e2⟩ | exact .inr ⟨by omega, e4⟩
    refine R_region ?_
    refine L_val rfl rfl rfl (OpP.v (P_assign rfl rfl)) ?_
    refine L_nil ?_
    refine St.env (.cons (t := 6) rfl (.cons (t := 7) rfl (.cons (t := 8) rfl (.cons (t := 9) rfl .nil)))) ?_
    refine Q_block ?_
    refine Q_then ?_
    refine R_seq ?_
    refine R_region ?_
    refine L_val rfl rfl rfl (OpP.v (P_buildStruct rfl ty_pl_38 ty_ze_38 rfl rfl (rfl))) ?_
    refine L_val rfl rfl rfl (OpP.v (P_move rfl rfl)) ?_
    refine L_op rfl (W_storeAll rfl rfl rfl rfl ty_ag_38 (rfl) (Rec.one acc0) .h2 (rfl) ?_)
    refine L_val rfl rfl rfl (OpP.v (P_assign rfl rfl)) ?_
    refine L_val rfl rfl rfl (OpP.v (P_assign rfl rfl)) ?_
    refine L_nil ?_
    refine St.env (.cons (t := 6) rfl (.cons (t := 7) rfl (.cons (t := 8) rfl .nil))) ?_
    refine Q_then ?_
    refine R_ret ?_
    exact R_endV rfl rfl (.cell rfl (Rds.loadVar ty_ag_38 (Rds.blk .h2) rfl) (.tmp rfl (.tmp rfl .nil))) (by rw [verV_one]; first | (rw [if_pos hob]; rfl) | (rw [if_neg hob, if_neg (fun h9 => by first | exact f1 h9.1 | exact f2 h9.2)]; rfl))
   ·skip
    have e4 := of_decide_eq_false e4
    refine L_val rfl rfl rfl (OpP.v (P_pick rfl rfl rfl)) ?_
    refine L_val rfl rfl rfl (OpP.v (P_pick rfl rfl rfl)) ?_
    refine L_nil ?_
    refine St.env (.cons (t := 1) rfl (.cons (t := 3) rfl (.cons (t := 5) rfl (.cons (t := 6) rfl (.cons (t := 7) rfl (.cons (t := 8) rfl (.cons (t := 9) rfl (.cons (t := 12) rfl (.cons (t := 82) rfl .nil))))))))) ?_
    refine Q_then ?_
    refine R_condF rfl ?_
    refine R_seq ?_
    have hob : ¬ oneB a x p := oneB_no (by first | exact .inl (by omega) | exact .inr e2) (by first | exact .inl (by omega) | exact .inr e4)
    refine R_region ?_
    refine L_val rfl rfl rfl (V_loadAgg rfl rfl ty_ag_29 (Rds.blk .h4) (by rw [ints_length, hroot])) ?_
    refine L_val rfl rfl rfl (V_loadAgg rfl rfl ty_ag_32 (Rds.blk .h3) (by rw [wi_len hR])) ?_
    refine L_op rfl (W_callV rfl rfl rfl rfl fn_ca_57 (leads_ok hG root R hroot hR (some ⟨ab, aj, none⟩) (some ⟨qb, qj, none⟩) uc pc ac ps hc hpc hps 0 x p hx hp (by omega) (by omega)) (WitRow.now hpre rfl) ?_)
    refine L_val rfl rfl rfl (OpP.v (P_move rfl rfl)) ?_
    refine L_val rfl rfl rfl (OpP.v (P_extract rfl rfl rfl)) ?_
    refine L_val rfl rfl rfl (OpP.v (P_extract rfl rfl rfl)) ?_
    refine L_val rfl rfl rfl (OpP.v (P_assign rfl rfl)) ?_
    refine L_nil ?_
    refine St.env (.cons (t := 1) rfl (.cons (t := 6) rfl (.cons (t := 7) rfl (.cons (t := 8) rfl (.cons (t := 9) rfl (.cons (t := 12) rfl .nil)))))) ?_
    refine Q_then ?_
    refine R_seq ?_
    refine R_region ?_
    refine L_val rfl rfl rfl (OpP.v (P_move rfl rfl)) ?_
    refine L_val rfl rfl rfl (OpP.v (P_eql rfl rfl rfl)) ?_
    refine E_bool (t := 90) rfl (fun f1 => ?_) (fun f1 => ?_)
    ·skip
     have f1 := of_decide_eq_true f1
     refine L_val rfl rfl rfl (OpP.v (P_move rfl rfl)) ?_
     refine L_val rfl rfl rfl (OpP.v (P_fld0 rfl ty_fl_38_0 rfl)) ?_
     refine L_val rfl rfl rfl (V_load rfl rfl ty_sc_27 (Rd.blk .h0 rfl)) ?_
     refine L_val rfl rfl rfl (OpP.v (P_move rfl rfl)) ?_
     refine L_val rfl rfl rfl (OpP.v (P_eql rfl rfl rfl)) ?_
     refine E_bool (t := 95) rfl (fun f2 => ?_) (fun f2 => ?_)
     ·skip
      have f2 := of_decide_eq_true f2
      refine L_val rfl rfl rfl (OpP.v (P_pick rfl rfl rfl)) ?_
      refine L_nil ?_
      refine St.env (.cons (t := 6) rfl (.cons (t := 7) rfl (.cons (t := 8) rfl (.cons (t := 9) rfl (.cons (t := 12) rfl (.cons (t := 96) rfl .nil)))))) ?_
      refine Q_then ?_
      refine R_condT rfl ?_
      refine R_seq ?_
      refine R_region ?_
      refine L_val rfl rfl rfl (V_loadAgg rfl rfl ty_ag_38 (Rds.blk .h0) (rfl)) ?_
      refine L_op rfl (W_storeAll rfl rfl rfl rfl ty_ag_38 (rfl) (Rec.one x) .h2 (rfl) ?_)
      refine L_val rfl rfl rfl (OpP.v (P_assign rfl rfl)) ?_
      refine L_val rfl rfl rfl (OpP.v (P_assign rfl rfl)) ?_
      refine L_nil ?_
      refine St.env (.cons (t := 6) rfl (.cons (t := 7) rfl (.cons (t := 8) rfl (.cons (t := 9) rfl .nil)))) ?_
      refine Q_then ?_
      refine R_ret ?_
      refine Q_block_ret ?_
      refine Q_then_ret ?_
      exact R_endV rfl rfl (.cell rfl (Rds.loadVar ty_ag_38 (Rds.blk .h2) rfl) (.tmp rfl (.tmp rfl .nil))) (by rw [verV_one]; rw [if_neg hob, if_pos ⟨f1, f2⟩]; rfl)
     ·skip
      have f2 := of_decide_eq_false f2
      refine L_val rfl rfl rfl (OpP.v (P_pick rfl rfl rfl)) ?_
      refine L_nil ?_
      refine St.env (.cons (t := 6) rfl (.cons (t := 7) rfl (.cons (t := 8) rfl (.cons (t := 9) rfl (.cons (t := 12) rfl (.cons (t := 96) rfl .nil)))))) ?_
      refine Q_then ?_
      refine R_condF rfl ?_
      refine R_skip ?_
      refine Q_block ?_
      refine Q_then ?_
      refine R_seq ?_
      refine R_region ?_
      refine L_val rfl rfl rfl (OpP.v (P_buildStruct rfl ty_pl_38 ty_ze_38 rfl rfl (rfl))) ?_
      refine L_val rfl rfl rfl (OpP.v (P_move rfl rfl)) ?_
      refine L_op rfl (W_storeAll rfl rfl rfl rfl ty_ag_38 (rfl) (Rec.one acc0) .h2 (rfl) ?_)
      refine L_val rfl rfl rfl (OpP.v (P_assign rfl rfl)) ?_
      refine L_val rfl rfl rfl (OpP.v (P_assign rfl rfl)) ?_
      refine L_nil ?_
      refine St.env (.cons (t := 6) rfl (.cons (t := 7) rfl (.cons (t := 8) rfl .nil))) ?_
      refine Q_then ?_
      refine R_ret ?_
      exact R_endV rfl rfl (.cell rfl (Rds.loadVar ty_ag_38 (Rds.blk .h2) rfl) (.tmp rfl (.tmp rfl .nil))) (by rw [verV_one]; first | (rw [if_pos hob]; rfl) | (rw [if_neg hob, if_neg (fun h9 => by first | exact f1 h9.1 | exact f2 h9.2)]; rfl))
    ·skip
     have f1 := of_decide_eq_false f1
     refine L_val rfl rfl rfl (OpP.v (P_move rfl rfl)) ?_
     refine L_no rfl rfl rfl ?_
     refine L_no rfl rfl rfl ?_
     refine L_no rfl rfl rfl ?_
     refine L_no rfl rfl rfl ?_
     refine L_val rfl rfl rfl (OpP.v (P_pick rfl rfl rfl)) ?_
     refine L_nil ?_
     refine St.env (.cons (t := 6) rfl (.cons (t := 7) rfl (.cons (t := 8) rfl (.cons (t := 9) rfl (.cons (t := 12) rfl (.cons (t := 96) rfl .nil)))))) ?_
     refine Q_then ?_
     refine R_condF rfl ?_
     refine R_skip ?_
     refine Q_block ?_
     refine Q_then ?_
     refine R_seq ?_
     refine R_region ?_
     refine L_val rfl rfl rfl (OpP.v (P_buildStruct rfl ty_pl_38 ty_ze_38 rfl rfl (rfl))) ?_
     refine L_val rfl rfl rfl (OpP.v (P_move rfl rfl)) ?_
     refine L_op rfl (W_storeAll rfl rfl rfl rfl ty_ag_38 (rfl) (Rec.one acc0) .h2 (rfl) ?_)
     refine L_val rfl rfl rfl (OpP.v (P_assign rfl rfl)) ?_
     refine L_val rfl rfl rfl (OpP.v (P_assign rfl rfl)) ?_
     refine L_nil ?_
     refine St.env (.cons (t := 6) rfl (.cons (t := 7) rfl (.cons (t := 8) rfl .nil))) ?_
     refine Q_then ?_
     refine R_ret ?_
     exact R_endV rfl rfl (.cell rfl (Rds.loadVar ty_ag_38 (Rds.blk .h2) rfl) (.tmp rfl (.tmp rfl .nil))) (by rw [verV_one]; first | (rw [if_pos hob]; rfl) | (rw [if_neg hob, if_neg (fun h9 => by first | exact f1 h9.1 | exact f2 h9.2)]; rfl))
  ·skip
   have e3 := of_decide_eq_false e3
   refine L_val rfl rfl rfl (OpP.v (P_move rfl rfl)) ?_
   refine L_no rfl rfl rfl ?_
   refine L_no rfl rfl rfl ?_
   refine L_no rfl rfl rfl ?_
   refine L_no rfl rfl rfl ?_
   refine L_no rfl rfl rfl ?_
   refine L_no rfl rfl rfl ?_
   refine L_val rfl rfl rfl (OpP.v (P_pick rfl rfl rfl)) ?_
   refine L_val rfl rfl rfl (OpP.v (P_pick rfl rfl rfl)) ?_
   refine L_nil ?_
   refine St.env (.cons (t := 1) rfl (.cons (t := 3) rfl (.cons (t := 5) rfl (.cons (t := 6) rfl (.cons (t := 7) rfl (.cons (t := 8) rfl (.cons (t := 9) rfl (.cons (t := 12) rfl (.cons (t := 82) rfl .nil))))))))) ?_
   refine Q_then ?_
   refine R_condF rfl ?_
   refine R_seq ?_
   have hob : ¬ oneB a x p := oneB_no (by first | exact .inl (by omega) | exact .inr e2) (by first | exact .inl (by omega) | exact .inr e4)
   refine R_region ?_
   refine L_val rfl rfl rfl (V_loadAgg rfl rfl ty_ag_29 (Rds.blk .h4) (by rw [ints_length, hroot])) ?_
   refine L_val rfl rfl rfl (V_loadAgg rfl rfl ty_ag_32 (Rds.blk .h3) (by rw [wi_len hR])) ?_
   refine L_op rfl (W_callV rfl rfl rfl rfl fn_ca_57 (leads_ok hG root R hroot hR (some ⟨ab, aj, none⟩) (some ⟨qb, qj, none⟩) uc pc ac ps hc hpc hps 0 x p hx hp (by omega) (by omega)) (WitRow.now hpre rfl) ?_)
   refine L_val rfl rfl rfl (OpP.v (P_move rfl rfl)) ?_
   refine L_val rfl rfl rfl (OpP.v (P_extract rfl rfl rfl)) ?_
   refine L_val rfl rfl rfl (OpP.v (P_extract rfl rfl rfl)) ?_
   refine L_val rfl rfl rfl (OpP.v (P_assign rfl rfl)) ?_
   refine L_nil ?_
   refine St.env (.cons (t := 1) rfl (.cons (t := 6) rfl (.cons (t := 7) rfl (.cons (t := 8) rfl (.cons (t := 9) rfl (.cons (t := 12) rfl .nil)))))) ?_
   refine Q_then ?_
   refine R_seq ?_
   refine R_region ?_
   refine L_val rfl rfl rfl (OpP.v (P_move rfl rfl)) ?_
   refine L_val rfl rfl rfl (OpP.v (P_eql rfl rfl rfl)) ?_
   refine E_bool (t := 90) rfl (fun f1 => ?_) (fun f1 => ?_)
   ·skip
    have f1 := of_decide_eq_true f1
    refine L_val rfl rfl rfl (OpP.v (P_move rfl rfl)) ?_
    refine L_val rfl rfl rfl (OpP.v (P_fld0 rfl ty_fl_38_0 rfl)) ?_
    refine L_val rfl rfl rfl (V_load rfl rfl ty_sc_27 (Rd.blk .h0 rfl)) ?_
    refine L_val rfl rfl rfl (OpP.v (P_move rfl rfl)) ?_
    refine L_val rfl rfl rfl (OpP.v (P_eql rfl rfl rfl)) ?_
    refine E_bool (t := 95) rfl (fun f2 => ?_) (fun f2 => ?_)
    ·skip
     have f2 := of_decide_eq_true f2
     refine L_val rfl rfl rfl (OpP.v (P_pick rfl rfl rfl)) ?_
     refine L_nil ?_
     refine St.env (.cons (t := 6) rfl (.cons (t := 7) rfl (.cons (t := 8) rfl (.cons (t := 9) rfl (.cons (t := 12) rfl (.cons (t := 96) rfl .nil)))))) ?_
     refine Q_then ?_
     refine R_condT rfl ?_
     refine R_seq ?_
     refine R_region ?_
     refine L_val rfl rfl rfl (V_loadAgg rfl rfl ty_ag_38 (Rds.blk .h0) (rfl)) ?_
     refine L_op rfl (W_storeAll rfl rfl rfl rfl ty_ag_38 (rfl) (Rec.one x) .h2 (rfl) ?_)
     refine L_val rfl rfl rfl (OpP.v (P_assign rfl rfl)) ?_
     refine L_val rfl rfl rfl (OpP.v (P_assign rfl rfl)) ?_
     refine L_nil ?_
     refine St.env (.cons (t := 6) rfl (.cons (t := 7) rfl (.cons (t := 8) rfl (.cons (t := 9) rfl .nil)))) ?_
     refine Q_then ?_
     refine R_ret ?_
     refine Q_block_ret ?_
     refine Q_then_ret ?_
     exact R_endV rfl rfl (.cell rfl (Rds.loadVar ty_ag_38 (Rds.blk .h2) rfl) (.tmp rfl (.tmp rfl .nil))) (by rw [verV_one]; rw [if_neg hob, if_pos ⟨f1, f2⟩]; rfl)
    ·skip
     have f2 := of_decide_eq_false f2
     refine L_val rfl rfl rfl (OpP.v (P_pick rfl rfl rfl)) ?_
     refine L_nil ?_
     refine St.env (.cons (t := 6) rfl (.cons (t := 7) rfl (.cons (t := 8) rfl (.cons (t := 9) rfl (.cons (t := 12) rfl (.cons (t := 96) rfl .nil)))))) ?_
     refine Q_then ?_
     refine R_condF rfl ?_
     refine R_skip ?_
     refine Q_block ?_
     refine Q_then ?_
     refine R_seq ?_
     refine R_region ?_
     refine L_val rfl rfl rfl (OpP.v (P_buildStruct rfl ty_pl_38 ty_ze_38 rfl rfl (rfl))) ?_
     refine L_val rfl rfl rfl (OpP.v (P_move rfl rfl)) ?_
     refine L_op rfl (W_storeAll rfl rfl rfl rfl ty_ag_38 (rfl) (Rec.one acc0) .h2 (rfl) ?_)
     refine L_val rfl rfl rfl (OpP.v (P_assign rfl rfl)) ?_
     refine L_val rfl rfl rfl (OpP.v (P_assign rfl rfl)) ?_
     refine L_nil ?_
     refine St.env (.cons (t := 6) rfl (.cons (t := 7) rfl (.cons (t := 8) rfl .nil))) ?_
     refine Q_then ?_
     refine R_ret ?_
     exact R_endV rfl rfl (.cell rfl (Rds.loadVar ty_ag_38 (Rds.blk .h2) rfl) (.tmp rfl (.tmp rfl .nil))) (by rw [verV_one]; first | (rw [if_pos hob]; rfl) | (rw [if_neg hob, if_neg (fun h9 => by first | exact f1 h9.1 | exact f2 h9.2)]; rfl))
   ·skip
    have f1 := of_decide_eq_false f1
    refine L_val rfl rfl rfl (OpP.v (P_move rfl rfl)) ?_
    refine L_no rfl rfl rfl ?_
    refine L_no rfl rfl rfl ?_
    refine L_no rfl rfl rfl ?_
    refine L_no rfl rfl rfl ?_
    refine L_val rfl rfl rfl (OpP.v (P_pick rfl rfl rfl)) ?_
    refine L_nil ?_
    refine St.env (.cons (t := 6) rfl (.cons (t := 7) rfl (.cons (t := 8) rfl (.cons (t := 9) rfl (.cons (t := 12) rfl (.cons (t := 96) rfl .nil)))))) ?_
    refine Q_then ?_
    refine R_condF rfl ?_
    refine R_skip ?_
    refine Q_block ?_
    refine Q_then ?_
    refine R_seq ?_
    refine R_region ?_
    refine L_val rfl rfl rfl (OpP.v (P_buildStruct rfl ty_pl_38 ty_ze_38 rfl rfl (rfl))) ?_
    refine L_val rfl rfl rfl (OpP.v (P_move rfl rfl)) ?_
    refine L_op rfl (W_storeAll rfl rfl rfl rfl ty_ag_38 (rfl) (Rec.one acc0) .h2 (rfl) ?_)
    refine L_val rfl rfl rfl (OpP.v (P_assign rfl rfl)) ?_
    refine L_val rfl rfl rfl (OpP.v (P_assign rfl rfl)) ?_
    refine L_nil ?_
    refine St.env (.cons (t := 6) rfl (.cons (t := 7) rfl (.cons (t := 8) rfl .nil))) ?_
    refine Q_then ?_
    refine R_ret ?_
    exact R_endV rfl rfl (.cell rfl (Rds.loadVar ty_ag_38 (Rds.blk .h2) rfl) (.tmp rfl (.tmp rfl .nil))) (by rw [verV_one]; first | (rw [if_pos hob]; rfl) | (rw [if_neg hob, if_neg (fun h9 => by first | exact f1 h9.1 | exact f2 h9.2)]; rfl))
end Go.Proofs.YtfhjhaogmdaepaaGreatDoor

/- Plain: what Verify answers to Prove's own witness. Printed by gen.py. -/
set_option linter.unusedVariables false
set_option linter.unusedSimpArgs false
set_option maxRecDepth 100000
namespace Go.Proofs.YtfhjhaogmdaepaaGreatDoor
open Go Go.RowKit Go.Proofs
theorem idx_hit {l : List Acc} (h : AccFine l) {a : Int} (hb : spotB l a = true) : idxG (isAc a) l = (spotI l a : Int) ∧ spotI l a < l.length ∧ (accAt l (spotI l a)).a = a := by
 have hb' := hb
 unfold spotB at hb
 rw [Bool.and_eq_true, decide_eq_true_eq, decide_eq_true_eq] at hb
 obtain ⟨h1, h2⟩ := hb
 refine ⟨idxG_hit (fun j m' hj hm => ?_) (accAt_get h1) (decide_eq_true h2), h1, h2⟩
 refine decide_eq_false fun e => ?_
 have h3 := (spot_fine h a).1 j hj
 rw [accAt_of hm] at h3; omega
theorem idx_miss {l : List Acc} (h : AccFine l) {a : Int} (hb : spotB l a = false) : idxG (isAc a) l = -1 := by
 refine idxG_none fun j m' hj hm => decide_eq_false fun e => ?_
 have := (spotB_iff h a).2 ⟨j, hj, by rw [accAt_of hm]; exact e⟩
 rw [hb] at this; cases this
theorem find_hit {l : List Acc} (h : AccFine l) {a : Int} (hb : spotB l a = true) : findE l a = 0 ∧ findX l a = accAt l (spotI l a) := by
 obtain ⟨h1, h2, h3⟩ := idx_hit h hb
 have h4 : ¬ (idxG (isAc a) l < 0 ∨ a = 0) := by
  rw [h1]; have := h.no0 _ h2; rw [h3] at this; omega
 unfold findE findX
 rw [if_neg h4, if_neg h4, h1]; exact ⟨rfl, rfl⟩
theorem find_miss {l : List Acc} (h : AccFine l) {a : Int} (hb : spotB l a = false) : findE l a = 85 ∧ findX l a = acc0 := by
 have h4 : idxG (isAc a) l < 0 ∨ a = 0 := by rw [idx_miss h hb]; exact .inl (by decide)
 unfold findE findX
 rw [if_pos h4, if_pos h4]; exact ⟨rfl, rfl⟩
theorem pf_core {p : Pf} {l : List Acc} {k : Nat} (h : p.core = pfAt l k) (hf : l.length ≤ 65536) (hk : k < l.length) : p.t = (l.length : Int) ∧ p.i = (k : Int) ∧ p.hs = proveA (l.map formB) (k : Int) ∧ verE (rootD (l.map formB)) p.t p.i p.hs (formB (accAt l k)) = 0 := by
 obtain ⟨t, i, b, c, hs⟩ := p
 unfold Pf.core pfAt at h
 simp only [Prod.mk.injEq] at h
 obtain ⟨rfl, rfl, rfl⟩ := h
 have he := forms_prove hf hk
 refine ⟨by show proveT _ _ = _; unfold proveT; rw [if_pos he, List.length_map], by show proveI _ _ = _; unfold proveI; rw [if_pos he], rfl, ?_⟩
 exact prove_verifies he (by rw [List.getElem?_map, accAt_get hk]; rfl)
theorem ver_path {r : List Int} {t i : Int} {hs : List (List Int)} {x : List Int} (h : verE r t i hs x = 0) : pathE t i hs x = 0 ∧ pathD t i hs x = r := by
 unfold verE at h
 split at h
 ·rename_i h1; split at h
  ·rename_i h2; exact ⟨h1, h2⟩
  ·omega
 ·rename_i h1; exact absurd h h1
theorem lead_own {l : List Acc} {k : Nat} {p : Pf} (h : p.core = pfAt l k) (hf : l.length ≤ 65536) (hk : k < l.length) (R : List Int) : leadE (sha (1 :: (rootD (l.map formB) ++ R))) R (accAt l k) p = 0 := by
 obtain ⟨_, _, _, h1⟩ := pf_core h hf hk
 obtain ⟨h2, h3⟩ := ver_path h1
 have h4 : pE (accAt l k) p = 0 := h2
 have h5 : pD (accAt l k) p = rootD (l.map formB) := h3
 unfold leadE; rw [h4, h5, if_neg (fun h => h.2 rfl)]
def findW (l : List Acc) (a : Int) : Value := .tuple #[.agg (findX l a).cells.toArray, .bool (decide (findE l a = 0)), .int .i64 0]
theorem findW_hit {l : List Acc} (h : AccFine l) {a : Int} (hb : spotB l a = true) : findW l a = .tuple #[.agg (accAt l (spotI l a)).cells.toArray, .bool true, .int .i64 0] := by
 obtain ⟨h1, h2⟩ := find_hit h hb
 unfold findW; rw [h1, h2]; rfl
theorem findW_miss {l : List Acc} (h : AccFine l) {a : Int} (hb : spotB l a = false) : findW l a = verN 0 := by
 obtain ⟨h1, h2⟩ := find_miss h hb
 unfold findW; rw [h1, h2]; rfl
theorem map_one {α β : Type} {f : α → β} {ps : List α} {y : β} (h : ps.map f = [y]) : ∃ p, ps = [p] ∧ f p = y := by
 match ps, h with
 | [p], h => exact ⟨p, rfl, by simpa using h⟩
theorem map_two {α β : Type} {f : α → β} {ps : List α} {y z : β} (h : ps.map f = [y, z]) : ∃ p q, ps = [p, q] ∧ f p = y ∧ f q = z := by
 match ps, h with
 | [p, q], h => exact ⟨p, q, rfl, by simpa using h⟩
/-- Verify of Prove's own witness says what Find says. -/
theorem verV_prove {l : List Acc} (hf : AccFine l) (hfew : l.length ≤ 65536) (R : List Int) (a : Int) {ps : List Pf} (hq : PfsOk l (ksL l a) ps) : verV (sha (1 :: (rootD (l.map formB) ++ R))) R a (accsOf l (ksL l a)) ps = findW l a := by
 have hc := hq.core
 have hsf := spot_fine hf a
 cases hb : spotB l a with
 | true =>
  rw [findW_hit hf hb]
  obtain ⟨_, h2, h3⟩ := idx_hit hf hb
  rw [ks_hit hb] at hc ⊢
  obtain ⟨p, rfl, hp⟩ := map_one hc
  show verV _ R a [accAt l (spotI l a)] [p] = _
  rw [verV_one, if_neg (oneB_no (.inl (by omega)) (.inl (by omega))), if_pos ⟨lead_own hp hfew h2 R, h3⟩]
 | false =>
  rw [findW_miss hf hb]
  rw [ks_miss hb] at hc ⊢
  have hle := spotI_le l a
  have hne : spotI l a < l.length → a < (accAt l (spotI l a)).a := fun h => by
   have h1 := hsf.2 _ (Nat.le_refl _) h
   rcases Int.lt_or_eq_of_le h1 with h2 | h2
   ·exact h2
   ·unfold spotB at hb; rw [decide_eq_true h, decide_eq_true h2.symm] at hb; cases hb
  by_cases h1 : 0 < spotI l a
  ·have hlow := hsf.1 (spotI l a - 1) (by omega)
   have hk1 : spotI l a - 1 < l.length := by omega
   by_cases h2 : spotI l a < l.length
   ·rw [if_pos h1, if_pos h2] at hc ⊢
    obtain ⟨p, q, rfl, hp, hq'⟩ := map_two hc
    show verN (btwE _ R a (accAt l (spotI l a - 1)) (accAt l (spotI l a)) p q) = _
    obtain ⟨p1, p2, _, p4⟩ := pf_core hp hfew hk1
    obtain ⟨q1, q2, _, q4⟩ := pf_core hq' hfew h2
    have hup := hne h2
    have hnb : ¬ btwB a (accAt l (spotI l a - 1)) (accAt l (spotI l a)) p q := by
     unfold btwB
     rw [p1, p2, q1, q2, wrap_fits (by simp only [fits]; omega)]
     omega
    unfold btwE
    rw [if_neg hnb, lead_own hp hfew hk1 R, if_neg (by simp)]
    rw [show pD (accAt l (spotI l a - 1)) p = rootD (l.map formB) from (ver_path p4).2, q4]
   ·rw [if_pos h1, if_neg h2, List.append_nil] at hc ⊢
    obtain ⟨p, rfl, hp⟩ := map_one hc
    obtain ⟨p1, p2, _, p4⟩ := pf_core hp hfew hk1
    show verV _ R a [accAt l (spotI l a - 1)] [p] = _
    rw [verV_one, if_neg (oneB_no (.inl (by omega)) (.inr (by rw [p1, p2, wrap_fits (by simp only [fits]; omega)]; omega))), lead_own hp hfew hk1 R, if_neg (by omega)]
  ·by_cases h2 : spotI l a < l.length
   ·rw [if_neg h1, if_pos h2, List.nil_append] at hc ⊢
    obtain ⟨p, rfl, hp⟩ := map_one hc
    obtain ⟨p1, p2, _, p4⟩ := pf_core hp hfew h2
    have hup := hne h2
    show verV _ R a [accAt l (spotI l a)] [p] = _
    rw [verV_one, if_neg (oneB_no (.inr (by rw [p2]; omega)) (.inl (by omega))), lead_own hp hfew h2 R, if_neg (by omega)]
   ·rw [if_neg h1, if_neg h2, List.append_nil] at hc ⊢
    obtain rfl : ps = [] := by simpa using hc
    have hl : l = [] := List.eq_nil_of_length_eq_zero (by omega)
    subst hl
    show verN (if sha (1 :: (rootD [] ++ R)) ≠ sha (1 :: (rootD [] ++ R)) then 21 else 0) = _
    rw [if_neg (fun h => h rfl)]
/-- Prove's proofs can be read. -/
theorem PfsOk.ins {l : List Acc} {ks : List Nat} {ps : List Pf} (h : PfsOk l ks ps) (hf : l.length ≤ 65536) : ∀ p ∈ ps, PfIn p := fun p hp => by
 have hm : p.core ∈ ks.map (pfAt l) := by rw [← h.core]; exact List.mem_map.2 ⟨p, hp, rfl⟩
 obtain ⟨k, _, hk⟩ := List.mem_map.1 hm
 have hh : p.hs = proveA (l.map formB) (k : Int) := by
  have := congrArg (fun x => x.2.2) hk
  exact this.symm
 refine ⟨fun x hx => ?_, ?_, h.cap p hp⟩
 ·rw [hh] at hx; exact proveA_len _ _ x hx
 ·rw [hh]; have := proveA_le (l.map formB) (k : Int) (by rw [List.length_map]; omega); omega
theorem ver_ok {gl : Nat → Obj} (hG : Globs gl) (root R : List Int) (hroot : root.length = 32) (hR : R.length = 32) (ub pb : Option Addr) (uc pc : Nat) (ac : List Acc) (ps : List Pf) (hc : ac.length ≤ uc) (hpc : ps.length ≤ pc) (hps : ∀ p ∈ ps, PfIn p) (a : Int) : SpecV (cx gl) 12 [.agg (ints .u8 (root)).toArray, .int .u64 a, .agg (wiC R (.slice ub ac.length uc) (.slice pb ps.length pc)).toArray] (fun w => WitRow w ub ac pb ps) (verV root R a ac ps) := by
 match ac, ps, hc, hpc, hps with
 | [], [], _, _, _ => exact (ver_none hG root R hroot hR ub pb uc pc a).mono (fun _ _ => trivial) rfl
 | [x], [p], hc, hpc, hps => exact ver_one hG root R hroot hR ub pb uc pc [x] [p] hc hpc hps a x p rfl rfl rfl rfl
 | [x, y], [p, q], hc, hpc, hps => exact ver_two hG root R hroot hR ub pb uc pc [x, y] [p, q] hc hpc hps a x y p q rfl rfl rfl rfl rfl rfl
 | [], _ :: _, hc, hpc, hps => exact (ver_bad root R hroot hR ub pb uc pc [] _ hc hpc hps a (.inr (by simp))).mono (fun _ h => h) rfl
 | [_], [], hc, hpc, hps => exact (ver_bad root R hroot hR ub pb uc pc [_] [] hc hpc hps a (.inr (by simp))).mono (fun _ h => h) rfl
 | [_], _ :: _ :: _, hc, hpc, hps => exact (ver_bad root R hroot hR ub pb uc pc [_] _ hc hpc hps a (.inr (by simp))).mono (fun _ h => h) rfl
 | [_, _], [], hc, hpc, hps => exact (ver_bad root R hroot hR ub pb uc pc [_, _] [] hc hpc hps a (.inr (by simp))).mono (fun _ h => h) rfl
 | [_, _], [_], hc, hpc, hps => exact (ver_bad root R hroot hR ub pb uc pc [_, _] [_] hc hpc hps a (.inr (by simp))).mono (fun _ h => h) rfl
 | [_, _], _ :: _ :: _ :: _, hc, hpc, hps => exact (ver_bad root R hroot hR ub pb uc pc [_, _] _ hc hpc hps a (.inr (by simp))).mono (fun _ h => h) rfl
 | _ :: _ :: _ :: _, _, hc, hpc, hps => exact (ver_bad root R hroot hR ub pb uc pc (_ :: _ :: _ :: _) _ hc hpc hps a (.inl (by simp))).mono (fun _ h => h) rfl
end Go.Proofs.YtfhjhaogmdaepaaGreatDoor

/- roomy, cut, kept. Printed by gen.py. -/
set_option linter.unusedVariables false
set_option linter.unusedSimpArgs false
set_option maxRecDepth 100000
namespace Go.Proofs.YtfhjhaogmdaepaaGreatDoor
open Go Go.RowKit Go.Proofs
def amk : List Acc := [⟨777, 0, 0, 0, false⟩, ⟨778, 0, 0, 0, false⟩]
def rmk : List Rel := [⟨0, 777, 0, 0⟩, ⟨0, 778, 0, 0⟩]
theorem mk_at0 {α : Type} (l k : List α) {x : α} (h : k[0]? = some x) : (l ++ k)[l.length]? = some x := by rw [List.getElem?_append_right (Nat.le_refl _), Nat.sub_self]; exact h
theorem mk_at1 {α : Type} (l k : List α) {x : α} (h : k[1]? = some x) : (l ++ k)[l.length + 1]? = some x := by rw [List.getElem?_append_right (by omega), Nat.add_sub_cancel_left]; exact h
theorem row_left {α : Type} [Rec α] {w : World} {b : Option Addr} {l k : List α} (h : Row w b (rc (l ++ k))) : Row w b (rc l) := fun j v hv => h j v (by rw [rc_append, List.getElem?_append_left (List.getElem?_eq_some_iff.1 hv).1]; exact hv)
theorem row_at {w : World} {b : Nat} {cs : List Value} (h : Row w (some ⟨b, 0, none⟩) cs) : RowAt w ⟨b, 0, none⟩ cs := fun j v hv => by
 obtain ⟨ad, e, h2⟩ := h j v hv
 rw [Option.some.injEq] at e; subst e; exact h2
theorem sn_lft {α : Type} [Rec α] {C : Cx} {F : Fx} {rs : List HP} {T sz n c : Nat} {base : Option Addr} {l k : List α} (m : Has rs (ownS T sz (.slice base n c) n (rc (l ++ k))) (ownS T sz (.slice base n c) n (rc (l ++ k))) rs) : Sn C F rs base (rc l) := by
 have h : Sn C F rs base (rc (l ++ k)) := Sn.own m rfl
 rw [rc_append] at h; exact h.left
theorem roomy_ok {gl : Nat → Obj} (base : Option Addr) (c : Nat) (l : List Acc) (hc : l.length ≤ c)(base' : Option Addr) (c' : Nat) (r : List Rel) (hc' : r.length ≤ c')(bu su : Int) (hm : l.length ≤ 3518437208800) (hm' : r.length ≤ 4398046511000) : Spec (cx gl) 47 [.agg (ledV (.slice base l.length c) (.slice base' r.length c') bu su).toArray] (fun w _ => Row w base (rc l) ∧ Row w base' (rc r)) [] (fun v rs => ∃ fb fc gb gc, v = .agg (ledV (.slice (some ⟨fb, 0, none⟩) (l.length + 2) fc) (.slice (some ⟨gb, 0, none⟩) (r.length + 2) gc) bu su).toArray ∧ l.length + 2 ≤ fc ∧ r.length + 2 ≤ gc ∧ rs = [ownS 38 5 (.slice (some ⟨fb, 0, none⟩) (l.length + 2) fc) (l.length + 2) (rc (l ++ amk)), ownS 135 4 (.slice (some ⟨gb, 0, none⟩) (r.length + 2) gc) (r.length + 2) (rc (r ++ rmk))]) := by
 refine Spec.enter (C := cx gl) Tryz.func47 rfl 28 rfl rfl fun w0 h0 hsep hsub hpre => ?_
 obtain rfl : h0 = Heap.none := hsep
 show St (cx gl) _ [(0, .agg (ledV (.slice base l.length c) (.slice base' r.length c') bu su).toArray)] _ _
 refine R_seq ?_
 refine R_region ?_
 refine L_op rfl (W_box (ledV (.slice base l.length c) (.slice base' r.length c') bu su) rfl rfl rfl rfl rfl fun b1 => ?_)
 refine L_op rfl (W_alloc rfl rfl rfl ty_ze_26 fun b2 => ?_)
 refine L_nil ?_
 refine St.env (.cons (t := 1) rfl (.cons (t := 2) rfl .nil)) ?_
 refine Q_then ?_
 refine R_seq ?_
 refine R_region ?_
 refine L_val rfl rfl rfl (V_loadAgg rfl rfl ty_ag_26 (Rds.blk .h1) (rfl)) ?_
 refine L_op rfl (W_alloc rfl rfl rfl ty_ze_26 fun b3 => ?_)
 refine L_op rfl (W_storeAll rfl rfl rfl rfl ty_ag_26 (rfl) (ledV_one _ _ _ _ rfl rfl) .h0 (rfl) ?_)
 refine L_nil ?_
 refine St.env (.cons (t := 1) rfl (.cons (t := 2) rfl (.cons (t := 3) rfl .nil))) ?_
 refine Q_then ?_
 refine R_seq ?_
 refine St.res (Weak.newNil (T := 38) (sz := 5)) ?_
 refine R_region ?_
 refine L_val rfl rfl rfl (OpP.v (P_fld0 rfl ty_fl_26_0 rfl)) ?_
 refine L_val rfl rfl rfl (V_load rfl rfl ty_sc_22 (Rd.blk .h3 rfl)) ?_
 refine L_op rfl (W_append (p := []) rfl rfl rfl ty_sl_22 ty_ap_22 ty_src_22 rfl rfl rfl (Src.row (sz := 5) (Sn.row hpre.1 rfl).rw_ (rc_length l) (rc_one l)) (by omega) (by simp only [maxLen]; omega) fun v7 => ?_)
 refine St.res (rs' := [ownS 38 5 (v7) (l.length) (rc (l)), blk b3 (ledV (.slice base l.length c) (.slice base' r.length c') bu su) 26, blk b2 (ledV (.slice none 0 0) (.slice none 0 0) 0 0) 26, blk b1 (ledV (.slice base l.length c) (.slice base' r.length c') bu su) 26]) (ownS.to1 (by omega) rfl) ?_
 refine St.ownForm (p := []) fun ub uc huv huc => ?_
 subst huv
 refine L_val rfl rfl rfl (OpP.v (P_fld0 rfl ty_fl_26_0 rfl)) ?_
 refine L_op rfl (W_store rfl rfl rfl rfl ty_sc_22 rfl .h1 (by simp [ledV]) ?_)
 refine St.res (rs' := [ownS 38 5 (.slice ub l.length uc) (l.length) (rc (l)), blk b3 (ledV (.slice ub l.length uc) (.slice base' r.length c') bu su) 26, blk b2 (ledV (.slice none 0 0) (.slice none 0 0) 0 0) 26, blk b1 (ledV (.slice base l.length c) (.slice base' r.length c') bu su) 26]) (Weak.refl _) ?_
 refine L_nil ?_
 refine St.env (.cons (t := 1) rfl (.cons (t := 2) rfl (.cons (t := 3) rfl .nil))) ?_
 refine Q_then ?_
 refine R_seq ?_
 refine R_region ?_
 refine L_val rfl rfl rfl (OpP.v (P_fld0 rfl ty_fl_26_0 rfl)) ?_
 refine L_val rfl rfl rfl (V_load rfl rfl ty_sc_22 (Rd.blk .h1 rfl)) ?_
 refine L_val rfl rfl rfl (OpP.v (P_buildStruct rfl ty_pl_38 ty_ze_38 rfl rfl (rfl))) ?_
 refine L_val rfl rfl rfl (OpP.v (P_buildStruct rfl ty_pl_38 ty_ze_38 rfl rfl (rfl))) ?_
 refine L_op rfl (W_lit (z := .nilIface) (rc amk) rfl rfl rfl ty_sl_22 ty_lz_22 rfl rfl rfl (by decide) (by decide) (by intro v hv; simp only [List.mem_cons, List.not_mem_nil, or_false] at hv; rcases hv with rfl | rfl <;> rfl) (rfl) fun b13 => ?_)
 refine L_op rfl (W_append (p := [_]) rfl rfl rfl ty_sl_22 ty_ap_22 ty_src_22 rfl rfl rfl (Src.slice (sz := 5) (m := 2) (news := rc amk) (Rds.blk .h0) rfl (rc_one amk)) (by omega) (by simp only [maxLen]; omega) fun v14 => ?_)
 refine St.res (rs' := [ownS 38 5 (v14) (l.length + 2) (rc (l ++ amk)), blk b3 (ledV (.slice ub l.length uc) (.slice base' r.length c') bu su) 26, blk b2 (ledV (.slice none 0 0) (.slice none 0 0) 0 0) 26, blk b1 (ledV (.slice base l.length c) (.slice base' r.length c') bu su) 26]) (Weak.drop (ownS.to1 rfl (by rw [rc_append]))) ?_
 refine St.ownSome (p := []) (by omega) fun fb fc hfv hfc => ?_
 subst hfv
 refine L_val rfl rfl rfl (OpP.v (P_fld0 rfl ty_fl_26_0 rfl)) ?_
 refine L_op rfl (W_store rfl rfl rfl rfl ty_sc_22 rfl .h1 (by simp [ledV]) ?_)
 refine St.res (rs' := [ownS 38 5 (.slice (some ⟨fb, 0, none⟩) (l.length + 2) fc) (l.length + 2) (rc (l ++ amk)), blk b3 (ledV (.slice (some ⟨fb, 0, none⟩) (l.length + 2) fc) (.slice base' r.length c') bu su) 26, blk b2 (ledV (.slice none 0 0) (.slice none 0 0) 0 0) 26, blk b1 (ledV (.slice base l.length c) (.slice base' r.length c') bu su) 26]) (Weak.refl _) ?_
 refine L_nil ?_
 refine St.env (.cons (t := 1) rfl (.cons (t := 2) rfl (.cons (t := 3) rfl .nil))) ?_
 refine Q_then ?_
 refine R_seq ?_
 refine St.res (Weak.newNil (T := 135) (sz := 4)) ?_
 refine R_region ?_
 refine L_val rfl rfl rfl (OpP.v (P_fld0 rfl ty_fl_26_1 rfl)) ?_
 refine L_val rfl rfl rfl (V_load rfl rfl ty_sc_23 (Rd.blk .h4 rfl)) ?_
 refine L_op rfl (W_append (p := []) rfl rfl rfl ty_sl_23 ty_ap_23 ty_src_23 rfl rfl rfl (Src.row (sz := 4) (Sn.row hpre.2 rfl).rw_ (rc_length r) (rc_one r)) (by omega) (by simp only [maxLen]; omega) fun v18 => ?_)
 refine St.res (rs' := [ownS 135 4 (v18) (r.length) (rc (r)), ownS 38 5 (.slice (some ⟨fb, 0, none⟩) (l.length + 2) fc) (l.length + 2) (rc (l ++ amk)), blk b3 (ledV (.slice (some ⟨fb, 0, none⟩) (l.length + 2) fc) (.slice base' r.length c') bu su) 26, blk b2 (ledV (.slice none 0 0) (.slice none 0 0) 0 0) 26, blk b1 (ledV (.slice base l.length c) (.slice base' r.length c') bu su) 26]) (ownS.to1 (by omega) rfl) ?_
 refine St.ownForm (p := []) fun vb vc hvv hvc => ?_
 subst hvv
 refine L_val rfl rfl rfl (OpP.v (P_fld0 rfl ty_fl_26_1 rfl)) ?_
 refine L_op rfl (W_store rfl rfl rfl rfl ty_sc_23 rfl .h2 (by simp [ledV]) ?_)
 refine St.res (rs' := [ownS 135 4 (.slice vb r.length vc) (r.length) (rc (r)), ownS 38 5 (.slice (some ⟨fb, 0, none⟩) (l.length + 2) fc) (l.length + 2) (rc (l ++ amk)), blk b3 (ledV (.slice (some ⟨fb, 0, none⟩) (l.length + 2) fc) (.slice vb r.length vc) bu su) 26, blk b2 (ledV (.slice none 0 0) (.slice none 0 0) 0 0) 26, blk b1 (ledV (.slice base l.length c) (.slice base' r.length c') bu su) 26]) (Weak.refl _) ?_
 refine L_nil ?_
 refine St.env (.cons (t := 2) rfl (.cons (t := 3) rfl .nil)) ?_
 refine Q_then ?_
 refine R_seq ?_
 refine R_region ?_
 refine L_val rfl rfl rfl (OpP.v (P_fld0 rfl ty_fl_26_1 rfl)) ?_
 refine L_val rfl rfl rfl (V_load rfl rfl ty_sc_23 (Rd.blk .h2 rfl)) ?_
 refine L_val rfl rfl rfl (OpP.v (P_buildStruct rfl ty_pl_135 ty_ze_135 rfl rfl (rfl))) ?_
 refine L_val rfl rfl rfl (OpP.v (P_buildStruct rfl ty_pl_135 ty_ze_135 rfl rfl (rfl))) ?_
 refine L_op rfl (W_lit (z := .nilIface) (rc rmk) rfl rfl rfl ty_sl_23 ty_lz_23 rfl rfl rfl (by decide) (by decide) (by intro v hv; simp only [List.mem_cons, List.not_mem_nil, or_false] at hv; rcases hv with rfl | rfl <;> rfl) (rfl) fun b24 => ?_)
 refine L_op rfl (W_append (p := [_]) rfl rfl rfl ty_sl_23 ty_ap_23 ty_src_23 rfl rfl rfl (Src.slice (sz := 4) (m := 2) (news := rc rmk) (Rds.blk .h0) rfl (rc_one rmk)) (by omega) (by simp only [maxLen]; omega) fun v25 => ?_)
 refine St.res (rs' := [ownS 135 4 (v25) (r.length + 2) (rc (r ++ rmk)), ownS 38 5 (.slice (some ⟨fb, 0, none⟩) (l.length + 2) fc) (l.length + 2) (rc (l ++ amk)), blk b3 (ledV (.slice (some ⟨fb, 0, none⟩) (l.length + 2) fc) (.slice vb r.length vc) bu su) 26, blk b2 (ledV (.slice none 0 0) (.slice none 0 0) 0 0) 26, blk b1 (ledV (.slice base l.length c) (.slice base' r.length c') bu su) 26]) (Weak.drop (ownS.to1 rfl (by rw [rc_append]))) ?_
 refine St.ownSome (p := []) (by omega) fun gb gc hgv hgc => ?_
 subst hgv
 refine L_val rfl rfl rfl (OpP.v (P_fld0 rfl ty_fl_26_1 rfl)) ?_
 refine L_op rfl (W_store rfl rfl rfl rfl ty_sc_23 rfl .h2 (by simp [ledV]) ?_)
 refine St.res (rs' := [ownS 135 4 (.slice (some ⟨gb, 0, none⟩) (r.length + 2) gc) (r.length + 2) (rc (r ++ rmk)), ownS 38 5 (.slice (some ⟨fb, 0, none⟩) (l.length + 2) fc) (l.length + 2) (rc (l ++ amk)), blk b3 (ledV (.slice (some ⟨fb, 0, none⟩) (l.length + 2) fc) (.slice (some ⟨gb, 0, none⟩) (r.length + 2) gc) bu su) 26, blk b2 (ledV (.slice none 0 0) (.slice none 0 0) 0 0) 26, blk b1 (ledV (.slice base l.length c) (.slice base' r.length c') bu su) 26]) (Weak.refl _) ?_
 refine L_nil ?_
 refine St.env (.cons (t := 2) rfl (.cons (t := 3) rfl .nil)) ?_
 refine Q_then ?_
 refine R_seq ?_
 refine R_region ?_
 refine L_val rfl rfl rfl (V_loadAgg rfl rfl ty_ag_26 (Rds.blk .h2) (rfl)) ?_
 refine L_op rfl (W_storeAll rfl rfl rfl rfl ty_ag_26 (rfl) (ledV_one _ _ _ _ rfl rfl) .h3 (rfl) ?_)
 refine L_nil ?_
 refine St.env (.cons (t := 2) rfl .nil) ?_
 refine Q_then ?_
 refine R_ret ?_
 exact R_end (rs2 := [ownS 38 5 (.slice (some ⟨fb, 0, none⟩) (l.length + 2) fc) (l.length + 2) (rc (l ++ amk)), ownS 135 4 (.slice (some ⟨gb, 0, none⟩) (r.length + 2) gc) (r.length + 2) (rc (r ++ rmk))]) rfl rfl (.cell rfl (Rds.loadVar ty_ag_26 (Rds.blk .h3) rfl) .nil) (⟨fb, fc, gb, gc, rfl, hfc, hgc, rfl⟩) (Weak.pick (p := [_]) (Weak.keep (Weak.nil _)))
theorem cut_ok {gl : Nat → Obj} (fb fc gb gc : Nat) (l : List Acc) (r : List Rel) (bu su : Int) (hfc : l.length + 2 ≤ fc) (hgc : r.length + 2 ≤ gc) (hm : l.length ≤ 3518437208800) (hm' : r.length ≤ 4398046511000) : SpecV (cx gl) 48 [.agg (ledV (.slice (some ⟨fb, 0, none⟩) (l.length + 2) fc) (.slice (some ⟨gb, 0, none⟩) (r.length + 2) gc) bu su).toArray] noPre (.agg (ledV (.slice (some ⟨fb, 0, none⟩) l.length fc) (.slice (some ⟨gb, 0, none⟩) r.length gc) bu su).toArray) := by
 refine Spec.enter (C := cx gl) Tryz.func48 rfl 20 rfl rfl fun w0 h0 hsep hsub hpre => ?_
 obtain rfl : h0 = Heap.none := hsep
 show St (cx gl) _ [(0, .agg (ledV (.slice (some ⟨fb, 0, none⟩) (l.length + 2) fc) (.slice (some ⟨gb, 0, none⟩) (r.length + 2) gc) bu su).toArray)] _ _
 refine R_seq ?_
 refine R_region ?_
 refine L_op rfl (W_box (ledV (.slice (some ⟨fb, 0, none⟩) (l.length + 2) fc) (.slice (some ⟨gb, 0, none⟩) (r.length + 2) gc) bu su) rfl rfl rfl rfl rfl fun b1 => ?_)
 refine L_op rfl (W_alloc rfl rfl rfl ty_ze_26 fun b2 => ?_)
 refine L_nil ?_
 refine St.env (.cons (t := 1) rfl (.cons (t := 2) rfl .nil)) ?_
 refine Q_then ?_
 refine R_seq ?_
 refine R_region ?_
 refine L_val rfl rfl rfl (OpP.v (P_fld0 rfl ty_fl_26_0 rfl)) ?_
 refine L_val rfl rfl rfl (V_load rfl rfl ty_sc_22 (Rd.blk .h1 rfl)) ?_
 refine L_val rfl rfl rfl (OpP.v (P_fld0 rfl ty_fl_26_0 rfl)) ?_
 refine L_val rfl rfl rfl (V_load rfl rfl ty_sc_22 (Rd.blk .h1 rfl)) ?_
 refine L_val rfl rfl rfl (OpP.v (P_len rfl ty_sl_22 rfl)) ?_
 first | (refine L_val rfl rfl rfl (OpP.v (P_subN rfl rfl rfl (by simp only [fits]; omega))) ?_) | (refine L_val rfl rfl rfl (OpP.v (P_sub rfl rfl rfl)) ?_)
 refine E_as (t := 8) (v' := .int .i64 (l.length : Int)) rfl (by congr 1; omega) ?_
 refine L_val rfl rfl rfl (OpP.v (P_slice 0 l.length rfl ty_sl_22 rfl rfl ⟨_, rfl⟩ (by omega) (by omega))) ?_
 refine E_as (t := 9) (v' := .slice (some ⟨fb, 0, none⟩) l.length fc) rfl (by unfold sliced; rw [if_neg (by omega)]; simp [add_zero_off]) ?_
 refine L_val rfl rfl rfl (OpP.v (P_fld0 rfl ty_fl_26_0 rfl)) ?_
 refine L_op rfl (W_store rfl rfl rfl rfl ty_sc_22 rfl .h1 (by simp [ledV]) ?_)
 refine St.res (rs' := [blk b2 (ledV (.slice none 0 0) (.slice none 0 0) 0 0) 26, blk b1 (ledV (.slice (some ⟨fb, 0, none⟩) l.length fc) (.slice (some ⟨gb, 0, none⟩) (r.length + 2) gc) bu su) 26]) (Weak.refl _) ?_
 refine L_nil ?_
 refine St.env (.cons (t := 1) rfl (.cons (t := 2) rfl .nil)) ?_
 refine Q_then ?_
 refine R_seq ?_
 refine R_region ?_
 refine L_val rfl rfl rfl (OpP.v (P_fld0 rfl ty_fl_26_1 rfl)) ?_
 refine L_val rfl rfl rfl (V_load rfl rfl ty_sc_23 (Rd.blk .h1 rfl)) ?_
 refine L_val rfl rfl rfl (OpP.v (P_fld0 rfl ty_fl_26_1 rfl)) ?_
 refine L_val rfl rfl rfl (V_load rfl rfl ty_sc_23 (Rd.blk .h1 rfl)) ?_
 refine L_val rfl rfl rfl (OpP.v (P_len rfl ty_sl_23 rfl)) ?_
 first | (refine L_val rfl rfl rfl (OpP.v (P_subN rfl rfl rfl (by simp only [fits]; omega))) ?_) | (refine L_val rfl rfl rfl (OpP.v (P_sub rfl rfl rfl)) ?_)
 refine E_as (t := 16) (v' := .int .i64 (r.length : Int)) rfl (by congr 1; omega) ?_
 refine L_val rfl rfl rfl (OpP.v (P_slice 0 r.length rfl ty_sl_23 rfl rfl ⟨_, rfl⟩ (by omega) (by omega))) ?_
 refine E_as (t := 17) (v' := .slice (some ⟨gb, 0, none⟩) r.length gc) rfl (by unfold sliced; rw [if_neg (by omega)]; simp [add_zero_off]) ?_
 refine L_val rfl rfl rfl (OpP.v (P_fld0 rfl ty_fl_26_1 rfl)) ?_
 refine L_op rfl (W_store rfl rfl rfl rfl ty_sc_23 rfl .h1 (by simp [ledV]) ?_)
 refine St.res (rs' := [blk b2 (ledV (.slice none 0 0) (.slice none 0 0) 0 0) 26, blk b1 (ledV (.slice (some ⟨fb, 0, none⟩) l.length fc) (.slice (some ⟨gb, 0, none⟩) r.length gc) bu su) 26]) (Weak.refl _) ?_
 refine L_nil ?_
 refine St.env (.cons (t := 1) rfl (.cons (t := 2) rfl .nil)) ?_
 refine Q_then ?_
 refine R_seq ?_
 refine R_region ?_
 refine L_val rfl rfl rfl (V_loadAgg rfl rfl ty_ag_26 (Rds.blk .h1) (rfl)) ?_
 refine L_op rfl (W_storeAll rfl rfl rfl rfl ty_ag_26 (rfl) (ledV_one _ _ _ _ rfl rfl) .h0 (rfl) ?_)
 refine L_nil ?_
 refine St.env (.cons (t := 2) rfl .nil) ?_
 refine Q_then ?_
 refine R_ret ?_
 exact R_endV rfl rfl (.cell rfl (Rds.loadVar ty_ag_26 (Rds.blk .h0) rfl) .nil) (rfl)
theorem kept_ok {gl : Nat → Obj} (fb fc gb gc : Nat) (l : List Acc) (r : List Rel) (bu su : Int) (hfc : l.length + 2 ≤ fc) (hgc : r.length + 2 ≤ gc) (hm : l.length ≤ 3518437208800) (hm' : r.length ≤ 4398046511000) (base : Option Addr) (c : Nat) (base' : Option Addr) (c' : Nat) (hc : l.length ≤ c) (hc' : r.length ≤ c') : SpecV (cx gl) 49 [.agg (ledV (.slice (some ⟨fb, 0, none⟩) (l.length + 2) fc) (.slice (some ⟨gb, 0, none⟩) (r.length + 2) gc) bu su).toArray, .agg (ledV (.slice base l.length c) (.slice base' r.length c') bu su).toArray] (fun w => Row w (some ⟨fb, 0, none⟩) (rc (l ++ amk)) ∧ Row w (some ⟨gb, 0, none⟩) (rc (r ++ rmk)) ∧ Row w base (rc l) ∧ Row w base' (rc r)) (.bool true) := by
 refine Spec.enter (C := cx gl) Tryz.func49 rfl 55 rfl rfl fun w0 h0 hsep hsub hpre => ?_
 obtain rfl : h0 = Heap.none := hsep
 show St (cx gl) _ [(0, .agg (ledV (.slice (some ⟨fb, 0, none⟩) (l.length + 2) fc) (.slice (some ⟨gb, 0, none⟩) (r.length + 2) gc) bu su).toArray), (1, .agg (ledV (.slice base l.length c) (.slice base' r.length c') bu su).toArray)] _ _
 refine R_seq ?_
 refine R_region ?_
 refine L_op rfl (W_box (ledV (.slice (some ⟨fb, 0, none⟩) (l.length + 2) fc) (.slice (some ⟨gb, 0, none⟩) (r.length + 2) gc) bu su) rfl rfl rfl rfl rfl fun b2 => ?_)
 refine L_op rfl (W_box (ledV (.slice base l.length c) (.slice base' r.length c') bu su) rfl rfl rfl rfl rfl fun b3 => ?_)
 refine L_val rfl rfl rfl (OpP.v (P_assign rfl rfl)) ?_
 refine L_nil ?_
 refine St.env (.cons (t := 2) rfl (.cons (t := 3) rfl (.cons (t := 4) rfl .nil))) ?_
 refine Q_then ?_
 refine R_seq ?_
 refine R_region ?_
 refine L_val rfl rfl rfl (OpP.v (P_fld0 rfl ty_fl_26_0 rfl)) ?_
 refine L_val rfl rfl rfl (V_load rfl rfl ty_sc_22 (Rd.blk .h0 rfl)) ?_
 refine L_val rfl rfl rfl (OpP.v (P_len rfl ty_sl_22 rfl)) ?_
 refine L_val rfl rfl rfl (OpP.v (P_assign rfl rfl)) ?_
 refine L_nil ?_
 refine St.env (.cons (t := 2) rfl (.cons (t := 3) rfl (.cons (t := 4) rfl (.cons (t := 5) rfl .nil)))) ?_
 refine Q_then ?_
 refine R_seq ?_
 refine R_region ?_
 refine L_val rfl rfl rfl (OpP.v (P_fld0 rfl ty_fl_26_1 rfl)) ?_
 refine L_val rfl rfl rfl (V_load rfl rfl ty_sc_23 (Rd.blk .h0 rfl)) ?_
 refine L_val rfl rfl rfl (OpP.v (P_len rfl ty_sl_23 rfl)) ?_
 refine L_val rfl rfl rfl (OpP.v (P_assign rfl rfl)) ?_
 refine L_nil ?_
 refine St.env (.cons (t := 2) rfl (.cons (t := 3) rfl (.cons (t := 4) rfl (.cons (t := 5) rfl (.cons (t := 6) rfl .nil))))) ?_
 refine Q_then ?_
 refine R_seq ?_
 refine R_open [(0, 1), (2, 1), (1, 2), (3, 2), (4, 0), (5, 0), (6, 1), (7, 0), (8, 0), (9, 0), (10, 1), (11, 0), (12, 0), (13, 0), (14, 0), (15, 1), (16, 0), (17, 0), (18, 0), (19, 0), (20, 1), (21, 0), (22, 0), (23, 0), (24, 0), (25, 1), (26, 0), (27, 0), (28, 0), (29, 1), (30, 0), (31, 0), (32, 0), (33, 0), (34, 1), (35, 0), (36, 0), (37, 0), (38, 0), (39, 1), (40, 0), (41, 0), (42, 0)] mixed (by kernel_rfl) (QOk.then QOk.body) ?_
 refine O_val rfl rfl rfl rfl (V_loadAgg rfl rfl ty_ag_26 (Rds.blk .h1) (rfl)) ?_
 refine O_val rfl rfl rfl rfl (V_loadAgg rfl rfl ty_ag_26 (Rds.blk .h0) (rfl)) ?_
 refine O_keep rfl rfl (W_callV rfl rfl rfl rfl fn_ca_48 (cut_ok fb fc gb gc l r bu su hfc hgc hm hm') (fun _ _ => trivial) (K_keep (Weak.refl _) ?_))
 refine O_keep rfl rfl (W_callV rfl rfl rfl rfl fn_ca_34 (sameL_ok (some ⟨fb, 0, none⟩) (some ⟨gb, 0, none⟩) base base' fc gc c c' l r bu su (by omega) (by omega) hc hc' (by omega) (by omega)) (fun w nw => ⟨(Sn.row (row_left hpre.1) rfl).rw_ w nw, (Sn.row (row_left hpre.2.1) rfl).rw_ w nw, (Sn.row hpre.2.2.1 rfl).rw_ w nw, (Sn.row hpre.2.2.2 rfl).rw_ w nw⟩) (K_keep (Weak.refl _) ?_))
 refine E_true (t := 16) rfl (rfl) ?_
 refine O_pure rfl rfl rfl rfl (P_move rfl rfl) ?_
 refine O_pure rfl rfl rfl rfl (P_fld0 rfl ty_fl_26_0 rfl) ?_
 refine O_val rfl rfl rfl rfl (V_load rfl rfl ty_sc_22 (Rd.blk .h1 rfl)) ?_
 refine O_pure rfl rfl rfl rfl (P_move rfl rfl) ?_
 refine O_pure rfl rfl rfl rfl (P_ixs (l.length) rfl ty_sl_22 rfl rfl (by first | rfl | omega) (by omega)) ?_
 refine O_pure rfl rfl rfl rfl (P_fld rfl ty_fl_38_0 rfl) ?_
 refine O_val rfl rfl rfl rfl (V_load rfl rfl ty_sc_27 (rd_rc (Rds.row (row_at hpre.1) (by rfl)) (mk_at0 l amk rfl) rfl)) ?_
 refine O_pure rfl rfl rfl rfl (P_eql rfl rfl rfl) ?_
 refine E_true (t := 24) rfl (rfl) ?_
 refine O_pure rfl rfl rfl rfl (P_pick rfl rfl rfl) ?_
 refine O_pure rfl rfl rfl rfl (P_move rfl rfl) ?_
 refine O_pure rfl rfl rfl rfl (P_fld0 rfl ty_fl_26_0 rfl) ?_
 refine O_val rfl rfl rfl rfl (V_load rfl rfl ty_sc_22 (Rd.blk .h1 rfl)) ?_
 refine O_pure rfl rfl rfl rfl (P_move rfl rfl) ?_
 first | (refine O_pure rfl rfl rfl rfl (P_addN rfl rfl rfl (by simp only [fits]; omega)) ?_) | (refine O_pure rfl rfl rfl rfl (P_add rfl rfl rfl) ?_)
 refine O_pure rfl rfl rfl rfl (P_ixs (l.length + 1) rfl ty_sl_22 rfl rfl (by first | rfl | omega) (by omega)) ?_
 refine O_pure rfl rfl rfl rfl (P_fld rfl ty_fl_38_0 rfl) ?_
 refine O_val rfl rfl rfl rfl (V_load rfl rfl ty_sc_27 (rd_rc (Rds.row (row_at hpre.1) (by rfl)) (mk_at1 l amk rfl) rfl)) ?_
 refine O_pure rfl rfl rfl rfl (P_eql rfl rfl rfl) ?_
 refine E_true (t := 34) rfl (rfl) ?_
 refine O_pure rfl rfl rfl rfl (P_pick rfl rfl rfl) ?_
 refine O_pure rfl rfl rfl rfl (P_move rfl rfl) ?_
 refine O_pure rfl rfl rfl rfl (P_fld0 rfl ty_fl_26_1 rfl) ?_
 refine O_val rfl rfl rfl rfl (V_load rfl rfl ty_sc_23 (Rd.blk .h1 rfl)) ?_
 refine O_pure rfl rfl rfl rfl (P_move rfl rfl) ?_
 refine O_pure rfl rfl rfl rfl (P_ixs (r.length) rfl ty_sl_23 rfl rfl (by first | rfl | omega) (by omega)) ?_
 refine O_pure rfl rfl rfl rfl (P_fld rfl ty_fl_135_1 rfl) ?_
 refine O_val rfl rfl rfl rfl (V_load rfl rfl ty_sc_27 (rd_rc (Rds.row (row_at hpre.2.1) (by rfl)) (mk_at0 r rmk rfl) rfl)) ?_
 refine O_pure rfl rfl rfl rfl (P_eql rfl rfl rfl) ?_
 refine E_true (t := 43) rfl (rfl) ?_
 refine O_pure rfl rfl rfl rfl (P_pick rfl rfl rfl) ?_
 refine O_pure rfl rfl rfl rfl (P_move rfl rfl) ?_
 refine O_pure rfl rfl rfl rfl (P_fld0 rfl ty_fl_26_1 rfl) ?_
 refine O_val rfl rfl rfl rfl (V_load rfl rfl ty_sc_23 (Rd.blk .h1 rfl)) ?_
 refine O_pure rfl rfl rfl rfl (P_move rfl rfl) ?_
 first | (refine O_pure rfl rfl rfl rfl (P_addN rfl rfl rfl (by simp only [fits]; omega)) ?_) | (refine O_pure rfl rfl rfl rfl (P_add rfl rfl rfl) ?_)
 refine O_pure rfl rfl rfl rfl (P_ixs (r.length + 1) rfl ty_sl_23 rfl rfl (by first | rfl | omega) (by omega)) ?_
 refine O_pure rfl rfl rfl rfl (P_fld rfl ty_fl_135_1 rfl) ?_
 refine O_val rfl rfl rfl rfl (V_load rfl rfl ty_sc_27 (rd_rc (Rds.row (row_at hpre.2.1) (by rfl)) (mk_at1 r rmk rfl) rfl)) ?_
 refine O_pure rfl rfl rfl rfl (P_eql rfl rfl rfl) ?_
 refine E_true (t := 53) rfl (rfl) ?_
 refine O_pure rfl rfl rfl rfl (P_pick rfl rfl rfl) ?_
 refine O_pure rfl rfl rfl rfl (P_assign rfl rfl) ?_
 refine O_nil ?_
 refine St.env (.cons (t := 4) rfl .nil) ?_
 refine Q_then ?_
 refine R_ret ?_
 exact R_endV rfl rfl (.tmp rfl .nil) (rfl)
end Go.Proofs.YtfhjhaogmdaepaaGreatDoor

/- alive. Printed by gen.py. -/
set_option linter.unusedVariables false
set_option linter.unusedSimpArgs false
set_option maxRecDepth 100000
namespace Go.Proofs.YtfhjhaogmdaepaaGreatDoor
open Go Go.RowKit Go.Proofs
def al8 : List Acc := [⟨1, 100, 0, 0, false⟩, ⟨2, 0, 50, 7, false⟩]
def par8 : Par := ⟨10, 2, 0, 0, 0, 0, 0, 0, 0, 0, 0, 0⟩
theorem al8_e : newE al8 = 0 := by decide
theorem al8_new : newL8 al8 = ⟨al8, [], 0, 150⟩ := newL8_fine al8_e
theorem al8_fine : AccFine al8 := accFine_of (by decide)
theorem al8_ok : ∀ x ∈ al8, x.ok := by
 intro x hx
 simp only [al8, List.mem_cons, List.not_mem_nil, or_false] at hx
 rcases hx with rfl | rfl <;> exact ⟨⟨by decide, by decide⟩, ⟨by decide, by decide⟩, ⟨by decide, by decide⟩, ⟨by decide, by decide⟩⟩
theorem al8_cand : candM 10 al8 = [⟨2, 50, 0⟩] := by rfl
theorem al8_seats : SeatsOf 10 2 al8 [⟨2, 50, 0⟩] := by
 refine ⟨List.pairwise_singleton _ _, fun x hx => by rw [al8_cand]; exact hx, by rw [al8_cand]; rfl, fun x _ y hy hn => ?_⟩
 rw [al8_cand] at hy; exact absurd hy hn
theorem al8_find : findV al8 2 = .tuple #[.agg (⟨2, 0, 50, 7, false⟩ : Acc).cells.toArray, .int .i64 0] := by
 have h : idxG (isAc 2) al8 = 1 := by decide
 have h2 : ¬ (idxG (isAc 2) al8 < 0 ∨ (2 : Int) = 0) := by rw [h]; decide
 unfold findV findX findE
 rw [if_neg h2, if_neg h2, h]; rfl
theorem alive8 {gl : Nat → Obj} : SpecV (cx gl) 9 [] noPre (.bool true) := by
 refine Spec.enter (C := cx gl) Tryz.func9 rfl 62 rfl rfl fun w0 h0 hsep hsub hpre => ?_
 obtain rfl : h0 = Heap.none := hsep
 show St (cx gl) _ [] _ _
 refine R_seq ?_
 refine R_region ?_
 refine L_val rfl rfl rfl (OpP.v (P_assign rfl rfl)) ?_
 refine L_nil ?_
 refine Q_then ?_
 refine R_seq ?_
 refine R_region ?_
 refine L_val rfl rfl rfl (OpP.v (P_buildStruct rfl ty_pl_38 ty_ze_38 rfl rfl (rfl))) ?_
 refine L_val rfl rfl rfl (OpP.v (P_buildStruct rfl ty_pl_38 ty_ze_38 rfl rfl (rfl))) ?_
 refine L_op rfl (W_lit (z := .nilIface) (rc al8) rfl rfl rfl ty_sl_22 ty_lz_22 rfl rfl rfl (by decide) (by decide) (by intro v hv; simp only [List.mem_cons, List.not_mem_nil, or_false] at hv; rcases hv with rfl | rfl <;> rfl) (rfl) fun b9 => ?_)
 refine L_op rfl (W_call rfl rfl rfl rfl fn_ca_26 (lnew_ok (some ⟨b9, 0, none⟩) 2 al8 (Nat.le_refl 2) (by decide) al8_ok) (Split.nil _) (fun w a b _ hb dj m => (Sn.ofBlk .h0).rw_ w ⟨_, hb, m.le (Heap.le_join_right dj)⟩) fun v10 rs1 ⟨u, z1, z2⟩ => ?_)
 rw [al8_new] at z1 z2
 subst z1; subst z2
 refine St.ownForm (p := []) fun ub uc huv huc => ?_
 subst huv
 refine St.res (rs' := [ownS 38 5 (.slice ub 2 uc) (2) (rc al8), blk b9 (rc al8) 38]) (Weak.refl _) ?_
 refine E_as (t := 10) (v' := .tuple #[.agg (ledV (.slice ub 2 uc) (.slice none 0 0) 0 150).toArray, .int .i64 0]) rfl (by rw [al8_e]; rfl) ?_
 refine L_val rfl rfl rfl (OpP.v (P_move rfl rfl)) ?_
 refine L_val rfl rfl rfl (OpP.v (P_extract rfl rfl rfl)) ?_
 refine L_val rfl rfl rfl (OpP.v (P_extract rfl rfl rfl)) ?_
 refine L_op rfl (W_alloc rfl rfl rfl ty_ze_26 fun b1 => ?_)
 refine L_op rfl (W_storeAll rfl rfl rfl rfl ty_ag_26 (rfl) (ledV_one _ _ _ _ rfl rfl) .h0 (rfl) ?_)
 refine L_val rfl rfl rfl (OpP.v (P_assign rfl rfl)) ?_
 refine L_nil ?_
 refine St.env (.cons (t := 0) rfl (.cons (t := 1) rfl (.cons (t := 2) rfl .nil))) ?_
 refine Q_then ?_
 refine R_seq ?_
 refine R_region ?_
 refine L_val rfl rfl rfl (V_loadAgg rfl rfl ty_ag_26 (Rds.blk .h0) (rfl)) ?_
 refine L_val rfl rfl rfl (OpP.v (P_buildStruct rfl ty_pl_62 ty_ze_62 rfl rfl (rfl))) ?_
 refine L_op rfl (W_call rfl rfl rfl rfl fn_ca_31 (seats_ok ub uc al8 huc (by decide) al8_fine (.slice none 0 0) rfl 0 150 par8) (Split.nil _) (fun w a b _ hb dj m => (Sn.own .h1 rfl).rw_ w ⟨_, hb, m.le (Heap.le_join_right dj)⟩) fun v15 rs1 ⟨R, sb0, sc, z1, hR, z2⟩ => ?_)
 obtain rfl := hR.uniq al8_seats
 subst z1; subst z2
 refine St.ownSome (p := []) (by decide) fun sb sc' hsv hsc => ?_
 obtain rfl : sb0 = some ⟨sb, 0, none⟩ := by simp only [Value.slice.injEq] at hsv; exact hsv.1
 refine St.res (rs' := [ownS 76 3 (.slice (some ⟨sb, 0, none⟩) 1 sc) (1) (rc [(⟨2, 50, 0⟩ : Mem)]), blk b1 (ledV (.slice ub 2 uc) (.slice none 0 0) 0 150) 26, ownS 38 5 (.slice ub 2 uc) (2) (rc al8), blk b9 (rc al8) 38]) (Weak.refl _) ?_
 refine E_as (t := 15) (v' := .slice (some ⟨sb, 0, none⟩) 1 sc) rfl (rfl) ?_
 refine L_val rfl rfl rfl (OpP.v (P_assign rfl rfl)) ?_
 refine L_nil ?_
 refine St.env (.cons (t := 0) rfl (.cons (t := 1) rfl (.cons (t := 2) rfl (.cons (t := 3) rfl .nil)))) ?_
 refine Q_then ?_
 refine R_seq ?_
 refine R_region ?_
 refine L_val rfl rfl rfl (V_loadAgg rfl rfl ty_ag_26 (Rds.blk .h1) (rfl)) ?_
 refine L_op rfl (W_callV rfl rfl rfl rfl fn_ca_50 (find_ok ub uc al8 huc (by decide) (.slice none 0 0) rfl 0 150 2) (fun w nw => (Sn.own .h2 rfl).rw_ w nw) ?_)
 rw [al8_find]
 refine L_val rfl rfl rfl (OpP.v (P_move rfl rfl)) ?_
 refine L_val rfl rfl rfl (OpP.v (P_extract rfl rfl rfl)) ?_
 refine L_val rfl rfl rfl (OpP.v (P_extract rfl rfl rfl)) ?_
 refine L_op rfl (W_alloc rfl rfl rfl ty_ze_38 fun b4 => ?_)
 refine L_op rfl (W_storeAll rfl rfl rfl rfl ty_ag_38 (rfl) (Rec.one (⟨2, 0, 50, 7, false⟩ : Acc)) .h0 (rfl) ?_)
 refine L_val rfl rfl rfl (OpP.v (P_assign rfl rfl)) ?_
 refine L_nil ?_
 refine St.env (.cons (t := 0) rfl (.cons (t := 1) rfl (.cons (t := 2) rfl (.cons (t := 3) rfl (.cons (t := 4) rfl (.cons (t := 5) rfl .nil)))))) ?_
 refine Q_then ?_
 refine R_seq ?_
 refine R_region ?_
 refine L_val rfl rfl rfl (OpP.v (P_move rfl rfl)) ?_
 refine L_val rfl rfl rfl (OpP.v (P_eql rfl rfl rfl)) ?_
 refine E_true (t := 22) rfl (rfl) ?_
 refine L_val rfl rfl rfl (OpP.v (P_move rfl rfl)) ?_
 refine L_val rfl rfl rfl (OpP.v (P_move rfl rfl)) ?_
 refine L_val rfl rfl rfl (OpP.v (P_eql rfl rfl rfl)) ?_
 refine E_true (t := 25) rfl (rfl) ?_
 refine L_val rfl rfl rfl (OpP.v (P_pick rfl rfl rfl)) ?_
 refine L_val rfl rfl rfl (OpP.v (P_move rfl rfl)) ?_
 refine L_val rfl rfl rfl (OpP.v (P_fld0 rfl ty_fl_26_3 rfl)) ?_
 refine L_val rfl rfl rfl (V_load rfl rfl ty_sc_24 (Rd.blk .h2 rfl)) ?_
 refine L_val rfl rfl rfl (OpP.v (P_eql rfl rfl rfl)) ?_
 refine E_true (t := 30) rfl (rfl) ?_
 refine L_val rfl rfl rfl (OpP.v (P_pick rfl rfl rfl)) ?_
 refine L_val rfl rfl rfl (OpP.v (P_move rfl rfl)) ?_
 refine L_val rfl rfl rfl (OpP.v (P_fld0 rfl ty_fl_26_0 rfl)) ?_
 refine L_val rfl rfl rfl (V_load rfl rfl ty_sc_22 (Rd.blk .h2 rfl)) ?_
 refine L_val rfl rfl rfl (OpP.v (P_len rfl ty_sl_22 rfl)) ?_
 refine L_val rfl rfl rfl (OpP.v (P_eql rfl rfl rfl)) ?_
 refine E_true (t := 36) rfl (rfl) ?_
 refine L_val rfl rfl rfl (OpP.v (P_pick rfl rfl rfl)) ?_
 refine L_val rfl rfl rfl (OpP.v (P_move rfl rfl)) ?_
 refine L_val rfl rfl rfl (OpP.v (P_fld0 rfl ty_fl_38_2 rfl)) ?_
 refine L_val rfl rfl rfl (V_load rfl rfl ty_sc_24 (Rd.blk .h0 rfl)) ?_
 refine L_val rfl rfl rfl (OpP.v (P_eql rfl rfl rfl)) ?_
 refine E_true (t := 41) rfl (rfl) ?_
 refine L_val rfl rfl rfl (OpP.v (P_pick rfl rfl rfl)) ?_
 refine L_val rfl rfl rfl (OpP.v (P_move rfl rfl)) ?_
 refine L_val rfl rfl rfl (OpP.v (P_move rfl rfl)) ?_
 refine L_val rfl rfl rfl (OpP.v (P_len rfl ty_sl_68 rfl)) ?_
 refine L_val rfl rfl rfl (OpP.v (P_eql rfl rfl rfl)) ?_
 refine E_true (t := 46) rfl (rfl) ?_
 refine L_val rfl rfl rfl (OpP.v (P_pick rfl rfl rfl)) ?_
 refine L_val rfl rfl rfl (OpP.v (P_move rfl rfl)) ?_
 refine L_val rfl rfl rfl (OpP.v (P_move rfl rfl)) ?_
 refine L_val rfl rfl rfl (OpP.v (P_ixs (0) rfl ty_sl_68 rfl rfl (by first | rfl | omega) (by omega))) ?_
 refine L_val rfl rfl rfl (OpP.v (P_fld rfl ty_fl_76_0 rfl)) ?_
 refine L_val rfl rfl rfl (V_load rfl rfl ty_sc_27 (Rd.own .h1 rfl)) ?_
 refine L_val rfl rfl rfl (OpP.v (P_eql rfl rfl rfl)) ?_
 refine E_true (t := 53) rfl (rfl) ?_
 refine L_val rfl rfl rfl (OpP.v (P_pick rfl rfl rfl)) ?_
 refine L_val rfl rfl rfl (OpP.v (P_move rfl rfl)) ?_
 refine L_val rfl rfl rfl (OpP.v (P_move rfl rfl)) ?_
 refine L_val rfl rfl rfl (OpP.v (P_ixs (0) rfl ty_sl_68 rfl rfl (by first | rfl | omega) (by omega))) ?_
 refine L_val rfl rfl rfl (OpP.v (P_fld rfl ty_fl_76_1 rfl)) ?_
 refine L_val rfl rfl rfl (V_load rfl rfl ty_sc_24 (Rd.own .h1 rfl)) ?_
 refine L_val rfl rfl rfl (OpP.v (P_eql rfl rfl rfl)) ?_
 refine E_true (t := 60) rfl (rfl) ?_
 refine L_val rfl rfl rfl (OpP.v (P_pick rfl rfl rfl)) ?_
 refine L_val rfl rfl rfl (OpP.v (P_assign rfl rfl)) ?_
 refine L_nil ?_
 refine St.env (.cons (t := 0) rfl .nil) ?_
 refine Q_then ?_
 refine R_ret ?_
 exact R_endV rfl rfl (.tmp rfl .nil) (rfl)
end Go.Proofs.YtfhjhaogmdaepaaGreatDoor

/- LedgerProves: the walk. Printed by gen.py. -/
set_option linter.unusedVariables false
set_option linter.unusedSimpArgs false
set_option maxRecDepth 100000
namespace Go.Proofs.YtfhjhaogmdaepaaGreatDoor
open Go Go.RowKit Go.Proofs
theorem Has.h13 {a b c d e f g i j k l m n r s : HP} {t : List HP} : Has (a :: b :: c :: d :: e :: f :: g :: i :: j :: k :: l :: m :: n :: r :: t) r s (a :: b :: c :: d :: e :: f :: g :: i :: j :: k :: l :: m :: n :: s :: t) := Has.h12.cons
theorem Has.h14 {a b c d e f g i j k l m n o r s : HP} {t : List HP} : Has (a :: b :: c :: d :: e :: f :: g :: i :: j :: k :: l :: m :: n :: o :: r :: t) r s (a :: b :: c :: d :: e :: f :: g :: i :: j :: k :: l :: m :: n :: o :: s :: t) := Has.h13.cons
theorem accsOf_len (l : List Acc) (ks : List Nat) : (accsOf l ks).length = ks.length := by unfold accsOf; rw [List.length_map]
theorem wKs_two (L : Led) (a : Int) : (wKs L a).length ≤ 2 := by
 unfold wKs; split
 ·rw [ksL_len]; exact ksL_two _ _
 ·exact Nat.zero_le _
theorem rootLD_of {L : Led} (h : lsoundE L = 0) : rootLD L = sha (1 :: (rootD (L.acc.map formB) ++ wRest L)) := by
 have h1 : rootLE L = 0 := by
  rw [rootLE_of h]; unfold rootE
  rw [show bigL (fB L) = false from forms_small (ledFine_of h).few]; rfl
 unfold rootLD wRest
 rw [if_neg (by rw [h1]; simp), if_pos h]; rfl
theorem PfsOk.inW {L : Led} {a : Int} {ps : List Pf} (h : PfsOk L.acc (wKs L a) ps) : ∀ p ∈ ps, PfIn p := by
 by_cases he : lsoundE L = 0
 ·exact h.ins (ledFine_of he).few
 ·have : ps = [] := by
   have := h.len
   unfold wKs at this
   rw [if_neg he] at this
   exact List.eq_nil_of_length_eq_zero this
  subst this
  intro p hp; cases hp
set_option maxHeartbeats 1000000 in
theorem ledgerProves_walk {gl : Nat → Obj} (hG : GlobsR gl) (base : Option Addr) (c : Nat) (l : List Acc) (hc : l.length ≤ c)(hok : ∀ x ∈ l, x.ok)(base' : Option Addr) (c' : Nat) (r : List Rel) (hc' : r.length ≤ c') (hok' : ∀ x ∈ r, x.ok) (bu su : Int) (hbu : u64 bu) (hsu : u64 su) (hm : l.length ≤ 3518437208800) (hm' : r.length ≤ 4398046511000) (a : Int) : SpecV (cx gl) 7 [.agg (ledV (.slice base l.length c) (.slice base' r.length c') bu su).toArray, .int .u64 a] (fun w => Row w base (rc l) ∧ Row w base' (rc r)) (.bool true) := by
 refine Spec.enter (C := cx gl) Tryz.func7 rfl 102 rfl rfl fun w0 h0 hsep hsub hpre => ?_
 obtain rfl : h0 = Heap.none := hsep
 show St (cx gl) _ [(0, .agg (ledV (.slice base l.length c) (.slice base' r.length c') bu su).toArray), (1, .int .u64 a)] _ _
 refine R_seq ?_
 refine R_region ?_
 refine L_op rfl (W_box (ledV (.slice base l.length c) (.slice base' r.length c') bu su) rfl rfl rfl rfl rfl fun b2 => ?_)
 refine L_val rfl rfl rfl (OpP.v (P_assign rfl rfl)) ?_
 refine L_nil ?_
 refine St.env (.cons (t := 1) rfl (.cons (t := 2) rfl (.cons (t := 4) rfl .nil))) ?_
 refine Q_then ?_
 refine R_seq ?_
 refine R_region ?_
 refine L_op rfl (W_callV rfl rfl rfl rfl fn_ca_9 (alive8) (fun _ _ => trivial) ?_)
 refine L_val rfl rfl rfl (OpP.v (P_assign rfl rfl)) ?_
 refine L_nil ?_
 refine St.env (.cons (t := 1) rfl (.cons (t := 2) rfl (.cons (t := 4) rfl (.cons (t := 5) rfl .nil)))) ?_
 refine Q_then ?_
 refine R_seq ?_
 refine R_seq ?_
 refine R_region ?_
 refine L_val rfl rfl rfl (OpP.v (P_move rfl rfl)) ?_
 refine L_val rfl rfl rfl (OpP.v (P_not rfl rfl)) ?_
 refine E_false (t := 21) rfl (rfl) ?_
 refine L_nil ?_
 refine St.env (.cons (t := 1) rfl (.cons (t := 2) rfl (.cons (t := 4) rfl (.cons (t := 21) rfl .nil)))) ?_
 refine Q_then ?_
 refine R_condF rfl ?_
 refine R_skip ?_
 refine Q_then ?_
 refine R_seq ?_
 refine R_region ?_
 refine L_val rfl rfl rfl (V_loadAgg rfl rfl ty_ag_26 (Rds.blk .h0) (rfl)) ?_
 refine L_op rfl (W_call rfl rfl rfl rfl fn_ca_47 (roomy_ok base c l hc base' c' r hc' bu su hm hm') (Split.nil _) (fun w a b _ hb dj m => ⟨(Sn.row hpre.1 rfl).rw_ w ⟨_, hb, m.le (Heap.le_join_right dj)⟩, (Sn.row hpre.2 rfl).rw_ w ⟨_, hb, m.le (Heap.le_join_right dj)⟩⟩) fun vr rs0 ⟨fb, fc, gb, gc, z1, hfc, hgc, z2⟩ => ?_)
 subst z1; subst z2
 refine L_op rfl (W_alloc rfl rfl rfl ty_ze_26 fun b6 => ?_)
 refine L_op rfl (W_storeAll rfl rfl rfl rfl ty_ag_26 (rfl) (ledV_one _ _ _ _ rfl rfl) .h0 (rfl) ?_)
 refine L_nil ?_
 refine St.env (.cons (t := 1) rfl (.cons (t := 2) rfl (.cons (t := 4) rfl (.cons (t := 6) rfl .nil)))) ?_
 refine Q_then ?_
 refine R_seq ?_
 refine R_region ?_
 refine L_val rfl rfl rfl (V_loadAgg rfl rfl ty_ag_26 (Rds.blk .h0) (rfl)) ?_
 refine L_op rfl (W_callV rfl rfl rfl rfl fn_ca_48 (cut_ok fb fc gb gc l r bu su hfc hgc hm hm') (fun _ _ => trivial) ?_)
 refine L_op rfl (W_callV rfl rfl rfl rfl fn_ca_10 (lroot_ok hG.toGlobs (some ⟨fb, 0, none⟩) fc l (by omega) (by omega) hok (some ⟨gb, 0, none⟩) gc r (by omega) hok' bu su hbu hsu) (fun w nw => ⟨(sn_lft .h1).rw_ w nw, (sn_lft .h2).rw_ w nw⟩) ?_)
 refine L_val rfl rfl rfl (OpP.v (P_move rfl rfl)) ?_
 refine L_val rfl rfl rfl (OpP.v (P_extract rfl rfl rfl)) ?_
 refine L_val rfl rfl rfl (OpP.v (P_extract rfl rfl rfl)) ?_
 refine L_op rfl (W_alloc rfl rfl rfl ty_ze_29 fun b7 => ?_)
 refine L_op rfl (W_storeAll rfl rfl rfl rfl ty_ag_29 (by rw [ints_length, rootLD_length]) (ints_one) .h0 (by first | (rw [ints_length, rootLD_length]; done) | (rw [ints_length, rootLD_length]; rfl)) ?_)
 refine L_val rfl rfl rfl (OpP.v (P_assign rfl rfl)) ?_
 refine L_nil ?_
 refine St.env (.cons (t := 1) rfl (.cons (t := 2) rfl (.cons (t := 4) rfl (.cons (t := 6) rfl (.cons (t := 7) rfl (.cons (t := 8) rfl .nil)))))) ?_
 refine Q_then ?_
 refine R_seq ?_
 refine R_region ?_
 refine L_val rfl rfl rfl (V_loadAgg rfl rfl ty_ag_26 (Rds.blk .h1) (rfl)) ?_
 refine L_op rfl (W_callV rfl rfl rfl rfl fn_ca_48 (cut_ok fb fc gb gc l r bu su hfc hgc hm hm') (fun _ _ => trivial) ?_)
 refine L_val rfl rfl rfl (OpP.v (P_move rfl rfl)) ?_
 refine L_op rfl (W_call rfl rfl rfl rfl fn_ca_32 (lprove_ok hG.toGlobs (some ⟨fb, 0, none⟩) fc l (by omega) (by omega) hok (some ⟨gb, 0, none⟩) gc r (by omega) hok' bu su hbu hsu a) (Split.nil _) (fun w a b _ hb dj m => ⟨(sn_lft .h2).rw_ w ⟨_, hb, m.le (Heap.le_join_right dj)⟩, (sn_lft .h3).rw_ w ⟨_, hb, m.le (Heap.le_join_right dj)⟩⟩) fun v1 rs1 ⟨u, pv, ps1, z1, hps1, e1⟩ => ?_)
 subst z1; subst e1
 refine St.ownForm (p := []) fun ub1 uc1 huv huc1 => ?_
 subst huv
 refine St.ownForm (p := [_]) fun pb1 pc1 hpv hpc1 => ?_
 subst hpv
 refine L_val rfl rfl rfl (OpP.v (P_move rfl rfl)) ?_
 refine L_val rfl rfl rfl (OpP.v (P_extract rfl rfl rfl)) ?_
 refine L_val rfl rfl rfl (OpP.v (P_extract rfl rfl rfl)) ?_
 refine L_op rfl (W_alloc rfl rfl rfl ty_ze_32 fun b9 => ?_)
 refine L_op rfl (W_storeAll rfl rfl rfl rfl ty_ag_32 (by rw [wi_len (wRest_length _)]) (wi_one rfl rfl) .h0 (by first | (rw [wi_len (wRest_length _)]; done) | (rw [wi_len (wRest_length _)]; rfl)) ?_)
 refine L_val rfl rfl rfl (OpP.v (P_assign rfl rfl)) ?_
 refine L_nil ?_
 refine St.env (.cons (t := 1) rfl (.cons (t := 2) rfl (.cons (t := 4) rfl (.cons (t := 6) rfl (.cons (t := 7) rfl (.cons (t := 8) rfl (.cons (t := 9) rfl (.cons (t := 10) rfl .nil)))))))) ?_
 refine Q_then ?_
 refine R_seq ?_
 refine R_region ?_
 refine L_val rfl rfl rfl (V_loadAgg rfl rfl ty_ag_26 (Rds.blk .h8) (rfl)) ?_
 refine L_op rfl (W_callV rfl rfl rfl rfl fn_ca_11 (rlroot_ok hG base c l hc (by omega) hok base' c' r hc' hok' bu su hbu hsu) (fun w nw => ⟨(Sn.row hpre.1 rfl).rw_ w nw, (Sn.row hpre.2 rfl).rw_ w nw⟩) ?_)
 refine L_val rfl rfl rfl (OpP.v (P_move rfl rfl)) ?_
 refine L_val rfl rfl rfl (OpP.v (P_extract rfl rfl rfl)) ?_
 refine L_val rfl rfl rfl (OpP.v (P_extract rfl rfl rfl)) ?_
 refine L_op rfl (W_alloc rfl rfl rfl ty_ze_29 fun b11 => ?_)
 refine L_op rfl (W_storeAll rfl rfl rfl rfl ty_ag_29 (by rw [ints_length, rootLD_length]) (ints_one) .h0 (by first | (rw [ints_length, rootLD_length]; done) | (rw [ints_length, rootLD_length]; rfl)) ?_)
 refine L_val rfl rfl rfl (OpP.v (P_assign rfl rfl)) ?_
 refine L_nil ?_
 refine St.env (.cons (t := 1) rfl (.cons (t := 2) rfl (.cons (t := 4) rfl (.cons (t := 6) rfl (.cons (t := 7) rfl (.cons (t := 8) rfl (.cons (t := 9) rfl (.cons (t := 10) rfl (.cons (t := 11) rfl (.cons (t := 12) rfl .nil)))))))))) ?_
 refine Q_then ?_
 refine R_seq ?_
 refine R_region ?_
 refine L_val rfl rfl rfl (V_loadAgg rfl rfl ty_ag_26 (Rds.blk .h9) (rfl)) ?_
 refine L_val rfl rfl rfl (OpP.v (P_move rfl rfl)) ?_
 refine L_op rfl (W_call rfl rfl rfl rfl fn_ca_33 (rlprove_ok hG base c l hc (by omega) hok base' c' r hc' hok' bu su hbu hsu a) (Split.nil _) (fun w a b _ hb dj m => ⟨(Sn.row hpre.1 rfl).rw_ w ⟨_, hb, m.le (Heap.le_join_right dj)⟩, (Sn.row hpre.2 rfl).rw_ w ⟨_, hb, m.le (Heap.le_join_right dj)⟩⟩) fun v2 rs2 ⟨u2, pv2, ps2, z1, hps2, e2⟩ => ?_)
 subst z1; subst e2
 refine St.ownForm (p := []) fun ub2 uc2 huv huc2 => ?_
 subst huv
 refine St.ownForm (p := [_]) fun pb2 pc2 hpv hpc2 => ?_
 subst hpv
 have hin1 : ∀ p ∈ ps1, PfIn p := hps1.inW
 have hin2 : ∀ p ∈ ps2, PfIn p := hps2.inW
 refine L_val rfl rfl rfl (OpP.v (P_move rfl rfl)) ?_
 refine L_val rfl rfl rfl (OpP.v (P_extract rfl rfl rfl)) ?_
 refine L_val rfl rfl rfl (OpP.v (P_extract rfl rfl rfl)) ?_
 refine L_op rfl (W_alloc rfl rfl rfl ty_ze_32 fun b13 => ?_)
 refine L_op rfl (W_storeAll rfl rfl rfl rfl ty_ag_32 (by rw [wi_len (wRest_length _)]) (wi_one rfl rfl) .h0 (by first | (rw [wi_len (wRest_length _)]; done) | (rw [wi_len (wRest_length _)]; rfl)) ?_)
 refine L_val rfl rfl rfl (OpP.v (P_assign rfl rfl)) ?_
 refine L_nil ?_
 refine St.env (.cons (t := 1) rfl (.cons (t := 2) rfl (.cons (t := 4) rfl (.cons (t := 6) rfl (.cons (t := 7) rfl (.cons (t := 8) rfl (.cons (t := 9) rfl (.cons (t := 10) rfl (.cons (t := 11) rfl (.cons (t := 12) rfl (.cons (t := 13) rfl (.cons (t := 14) rfl .nil)))))))))))) ?_
 refine Q_then ?_
 refine R_seq ?_
 refine R_seq ?_
 refine R_region ?_
 refine L_val rfl rfl rfl (V_loadAgg rfl rfl ty_ag_29 (Rds.blk .h9) (by rw [ints_length, rootLD_length])) ?_
 refine L_val rfl rfl rfl (V_loadAgg rfl rfl ty_ag_29 (Rds.blk .h4) (by rw [ints_length, rootLD_length])) ?_
 refine L_val rfl rfl rfl (OpP.v (P_neArr rfl rfl rfl ty_un_29 ty_int_5 ty_sc_5 ty_eg_29 (rootLD_length _) (rootLD_length _))) ?_
 refine E_false (t := 50) rfl (decide_eq_false (by simp)) ?_
 refine L_val rfl rfl rfl (OpP.v (P_move rfl rfl)) ?_
 refine L_val rfl rfl rfl (OpP.v (P_move rfl rfl)) ?_
 refine L_val rfl rfl rfl (OpP.v (P_move rfl rfl)) ?_
 refine L_val rfl rfl rfl (OpP.v (P_neq rfl rfl rfl)) ?_
 refine E_false (t := 54) rfl (by simp) ?_
 refine L_val rfl rfl rfl (OpP.v (P_pick rfl rfl rfl)) ?_
 refine L_val rfl rfl rfl (OpP.v (P_move rfl rfl)) ?_
 refine L_val rfl rfl rfl (OpP.v (P_move rfl rfl)) ?_
 refine L_val rfl rfl rfl (OpP.v (P_move rfl rfl)) ?_
 refine L_val rfl rfl rfl (OpP.v (P_neq rfl rfl rfl)) ?_
 refine E_false (t := 59) rfl (by simp) ?_
 refine L_val rfl rfl rfl (OpP.v (P_pick rfl rfl rfl)) ?_
 refine L_val rfl rfl rfl (OpP.v (P_move rfl rfl)) ?_
 refine L_val rfl rfl rfl (V_loadAgg rfl rfl ty_ag_32 (Rds.blk .h5) (by rw [wi_len (wRest_length _)])) ?_
 refine L_val rfl rfl rfl (V_loadAgg rfl rfl ty_ag_32 (Rds.blk .h0) (by rw [wi_len (wRest_length _)])) ?_
 refine L_op rfl (W_callV rfl rfl rfl rfl fn_ca_37 ((by have h9 := sameW_ok (gl := gl) (wRest (⟨l, r, bu, su⟩ : Led)) (wRest_length _) ub1 ub2 pb1 pb2 uc1 uc2 pc1 pc2 (accsOf l (wKs (⟨l, r, bu, su⟩ : Led) a)) ps1 ps2 (by rw [accsOf_len]; exact huc1) (by rw [accsOf_len]; exact huc2) (by rw [hps1.len]; exact hpc1) (by rw [hps2.len]; exact hpc2) (by rw [accsOf_len]; exact wKs_two _ _) (hps1.core.trans hps2.core.symm) (fun p hp => (hin1 p hp).len) (fun p hp => (hin1 p hp).few) (by rw [hps1.len]; exact wKs_two _ _); rw [accsOf_len, hps1.len, hps2.len] at h9; exact h9)) (fun w nw => And.intro (fam_wit .h6 .h7 .h8 w nw) (fam_wit .h1 .h2 .h3 w nw)) ?_)
 refine L_val rfl rfl rfl (OpP.v (P_not rfl rfl)) ?_
 refine E_false (t := 65) rfl (rfl) ?_
 refine L_val rfl rfl rfl (OpP.v (P_pick rfl rfl rfl)) ?_
 refine L_val rfl rfl rfl (OpP.v (P_move rfl rfl)) ?_
 refine L_val rfl rfl rfl (V_loadAgg rfl rfl ty_ag_26 (Rds.blk .h10) (rfl)) ?_
 refine L_val rfl rfl rfl (V_loadAgg rfl rfl ty_ag_26 (Rds.blk .h13) (rfl)) ?_
 refine L_op rfl (W_callV rfl rfl rfl rfl fn_ca_49 (kept_ok fb fc gb gc l r bu su hfc hgc hm hm' base c base' c' hc hc') (fun w nw => ⟨(Sn.own .h11 rfl).rw_ w nw, (Sn.own .h12 rfl).rw_ w nw, (Sn.row hpre.1 rfl).rw_ w nw, (Sn.row hpre.2 rfl).rw_ w nw⟩) ?_)
 refine L_val rfl rfl rfl (OpP.v (P_not rfl rfl)) ?_
 refine E_false (t := 71) rfl (rfl) ?_
 refine L_val rfl rfl rfl (OpP.v (P_pick rfl rfl rfl)) ?_
 refine L_nil ?_
 refine St.env (.cons (t := 1) rfl (.cons (t := 2) rfl (.cons (t := 4) rfl (.cons (t := 7) rfl (.cons (t := 8) rfl (.cons (t := 9) rfl (.cons (t := 14) rfl (.cons (t := 72) rfl .nil)))))))) ?_
 refine Q_then ?_
 refine R_condF rfl ?_
 refine R_skip ?_
 refine Q_then ?_
 refine R_seq ?_
 refine R_seq ?_
 refine R_region ?_
 refine L_val rfl rfl rfl (OpP.v (P_move rfl rfl)) ?_
 refine L_val rfl rfl rfl (OpP.v (P_neq rfl rfl rfl)) ?_
 refine L_nil ?_
 refine St.env (.cons (t := 1) rfl (.cons (t := 2) rfl (.cons (t := 4) rfl (.cons (t := 7) rfl (.cons (t := 8) rfl (.cons (t := 9) rfl (.cons (t := 74) rfl .nil))))))) ?_
 refine Q_then ?_
 refine R_condP rfl (fun he => ?_) (fun he => ?_)
 ·skip
  refine R_seq ?_
  refine R_region ?_
  refine L_val rfl rfl rfl (OpP.v (P_assign rfl rfl)) ?_
  refine L_nil ?_
  refine St.env (.cons (t := 1) rfl (.cons (t := 2) rfl (.cons (t := 4) rfl (.cons (t := 7) rfl (.cons (t := 8) rfl (.cons (t := 9) rfl .nil)))))) ?_
  refine Q_then ?_
  refine R_ret ?_
  refine Q_then_ret ?_
  exact R_endV rfl rfl (.tmp rfl .nil) (rfl)
 ·skip
  have he : lsoundE (⟨l, r, bu, su⟩ : Led) = 0 := Classical.not_not.1 he
  have hF := ledFine_of he
  have hWk : (wKs (⟨l, r, bu, su⟩ : Led) a) = ksL l a := by unfold wKs; rw [if_pos he]
  have hrl : rootLD (⟨l, r, bu, su⟩ : Led) = sha (1 :: (rootD (l.map formB) ++ (wRest (⟨l, r, bu, su⟩ : Led)))) := rootLD_of he
  have hver : verV (rootLD (⟨l, r, bu, su⟩ : Led)) (wRest (⟨l, r, bu, su⟩ : Led)) a (accsOf l (wKs (⟨l, r, bu, su⟩ : Led) a)) ps1 = .tuple #[.agg (findX l a).cells.toArray, .bool (decide (findE l a = 0)), .int .i64 0] := by rw [hrl, hWk]; exact verV_prove (accFine_of hF.acc) hF.few _ a (by rw [← hWk]; exact hps1)
  refine R_skip ?_
  refine Q_then ?_
  refine R_seq ?_
  refine R_region ?_
  refine L_val rfl rfl rfl (V_loadAgg rfl rfl ty_ag_29 (Rds.blk .h9) (by rw [ints_length, rootLD_length])) ?_
  refine L_val rfl rfl rfl (OpP.v (P_move rfl rfl)) ?_
  refine L_val rfl rfl rfl (V_loadAgg rfl rfl ty_ag_32 (Rds.blk .h5) (by rw [wi_len (wRest_length _)])) ?_
  refine L_op rfl (W_callV rfl rfl rfl rfl fn_ca_12 ((by have h9 := ver_ok hG.toGlobs (rootLD (⟨l, r, bu, su⟩ : Led)) (wRest (⟨l, r, bu, su⟩ : Led)) (rootLD_length _) (wRest_length _) ub1 pb1 uc1 pc1 (accsOf l (wKs (⟨l, r, bu, su⟩ : Led) a)) ps1 (by rw [accsOf_len]; exact huc1) (by rw [hps1.len]; exact hpc1) hin1 a; rw [accsOf_len, hps1.len, hver] at h9; exact h9)) (fam_wit .h6 .h7 .h8) ?_)
  refine L_val rfl rfl rfl (OpP.v (P_move rfl rfl)) ?_
  refine L_val rfl rfl rfl (OpP.v (P_extract rfl rfl rfl)) ?_
  refine L_val rfl rfl rfl (OpP.v (P_extract rfl rfl rfl)) ?_
  refine L_val rfl rfl rfl (OpP.v (P_extract rfl rfl rfl)) ?_
  refine L_op rfl (W_alloc rfl rfl rfl ty_ze_38 fun b15 => ?_)
  refine L_op rfl (W_storeAll rfl rfl rfl rfl ty_ag_38 (rfl) (Rec.one (findX l a)) .h0 (rfl) ?_)
  refine L_val rfl rfl rfl (OpP.v (P_assign rfl rfl)) ?_
  refine L_val rfl rfl rfl (OpP.v (P_assign rfl rfl)) ?_
  refine L_nil ?_
  refine St.env (.cons (t := 1) rfl (.cons (t := 2) rfl (.cons (t := 4) rfl (.cons (t := 8) rfl (.cons (t := 15) rfl (.cons (t := 16) rfl .nil)))))) ?_
  refine Q_then ?_
  refine R_seq ?_
  refine R_region ?_
  refine L_val rfl rfl rfl (V_loadAgg rfl rfl ty_ag_26 (Rds.blk .h14) (rfl)) ?_
  refine L_val rfl rfl rfl (OpP.v (P_move rfl rfl)) ?_
  refine L_op rfl (W_callV rfl rfl rfl rfl fn_ca_24 (rfind_ok base c l hc (by omega) (.slice base' r.length c') rfl bu su a) ((Sn.row hpre.1 rfl).rw_) ?_)
  refine L_val rfl rfl rfl (OpP.v (P_move rfl rfl)) ?_
  refine L_val rfl rfl rfl (OpP.v (P_extract rfl rfl rfl)) ?_
  refine L_val rfl rfl rfl (OpP.v (P_extract rfl rfl rfl)) ?_
  refine L_op rfl (W_alloc rfl rfl rfl ty_ze_38 fun b17 => ?_)
  refine L_op rfl (W_storeAll rfl rfl rfl rfl ty_ag_38 (rfl) (Rec.one (findX l a)) .h0 (rfl) ?_)
  refine L_val rfl rfl rfl (OpP.v (P_assign rfl rfl)) ?_
  refine L_nil ?_
  refine St.env (.cons (t := 4) rfl (.cons (t := 8) rfl (.cons (t := 15) rfl (.cons (t := 16) rfl (.cons (t := 17) rfl (.cons (t := 18) rfl .nil)))))) ?_
  refine Q_then ?_
  refine R_seq ?_
  refine R_region ?_
  refine L_val rfl rfl rfl (OpP.v (P_move rfl rfl)) ?_
  refine L_val rfl rfl rfl (OpP.v (P_eql rfl rfl rfl)) ?_
  refine E_true (t := 90) rfl (rfl) ?_
  refine L_val rfl rfl rfl (OpP.v (P_move rfl rfl)) ?_
  refine L_val rfl rfl rfl (OpP.v (P_move rfl rfl)) ?_
  refine L_val rfl rfl rfl (OpP.v (P_move rfl rfl)) ?_
  refine L_val rfl rfl rfl (OpP.v (P_eql rfl rfl rfl)) ?_
  refine L_val rfl rfl rfl (OpP.v (P_eql_bool rfl ty_bool_4 rfl rfl)) ?_
  refine E_true (t := 95) rfl (by simp) ?_
  refine L_val rfl rfl rfl (OpP.v (P_pick rfl rfl rfl)) ?_
  refine L_val rfl rfl rfl (OpP.v (P_move rfl rfl)) ?_
  refine L_val rfl rfl rfl (V_loadAgg rfl rfl ty_ag_38 (Rds.blk .h1) (rfl)) ?_
  refine L_val rfl rfl rfl (V_loadAgg rfl rfl ty_ag_38 (Rds.blk .h0) (rfl)) ?_
  refine L_val rfl rfl rfl (OpP.v (P_eql_structK (b := true) [false, false, false, false, true] rfl se_acc rfl rfl rfl rfl (acc_kind (findX l a) (findX l a)) ⟨fun _ => rfl, fun _ => rfl⟩)) ?_
  refine E_true (t := 100) rfl (rfl) ?_
  refine L_val rfl rfl rfl (OpP.v (P_pick rfl rfl rfl)) ?_
  refine L_val rfl rfl rfl (OpP.v (P_assign rfl rfl)) ?_
  refine L_nil ?_
  refine St.env (.cons (t := 4) rfl .nil) ?_
  refine Q_then ?_
  refine R_ret ?_
  exact R_endV rfl rfl (.tmp rfl .nil) (rfl)
end Go.Proofs.YtfhjhaogmdaepaaGreatDoor

/- What the listed variables hold. Printed by gen.py. -/
set_option linter.unusedVariables false
set_option linter.unusedSimpArgs false
set_option maxRecDepth 100000
namespace Go.Proofs.YtfhjhaogmdaepaaGreatDoor
open Go Go.RowKit Go.ChangeShapes Go.WideShapes Go.Proofs
theorem ownNone : ownKnob Tryz.prog.godebug = none := by kernel_rfl
noncomputable def laid3 : List (String × DataW Unit) := [("assent/assentref02.adds", Rows.laid_assent_assentref02_adds), ("assent/digest.adds", Rows.laid_assent_digest_adds), ("assent/digest.begin", Rows.laid_assent_digest_begin)]
theorem laid3_door (os : Os) (args : Array Value) : laidMetH Tryz.prog laid3 ((World.doorLaid Tryz.prog 400 os).forCall (fun _ _ => 0) ⟨#[], args, []⟩).memory :=
 laidMetH_of_parts3 (fuel := 8) (laidMet_of_run' 8 (by kernel_rfl) (by kernel_rfl)) (by kernel_rfl) (by kernel_rfl)
theorem gRef : Tryz.prog.globalNamed "assent/assentref02.adds" = some 0 := by kernel_rfl
theorem gAdds : Tryz.prog.globalNamed "assent/digest.adds" = some 4 := by kernel_rfl
theorem gBegin : Tryz.prog.globalNamed "assent/digest.begin" = some 3 := by kernel_rfl
theorem tRef : (Tryz.prog.globals[0]?).map (·.type) = some 208 := by kernel_rfl
theorem tAdds : (Tryz.prog.globals[4]?).map (·.type) = some 208 := by kernel_rfl
theorem tBegin : (Tryz.prog.globals[3]?).map (·.type) = some 131 := by kernel_rfl
theorem cells_108 : Tryz.prog.cellsOf 108 = 1 := by kernel_rfl
theorem cells_208 : Tryz.prog.cellsOf 208 = 64 := by kernel_rfl
theorem cells_131 : Tryz.prog.cellsOf 131 = 8 := by kernel_rfl
theorem arr_of_laid {H : Type} {enc : TypeId × Value → H} {W : World} {base : Nat} {sp : Nat → Bool} {hd : Bool} {t n fuel : Nat} {cs : Array Value} {zs : List Int} {ps : List MemPlace} (ht : Tryz.prog.underlying t = some (.array n 108)) (hc : Tryz.prog.cellsOf t = n)
  (h : DataW.trod enc Tryz.prog W base sp hd fuel t cs.toList = some (.agg (lits .u32 zs), ps)) : cs = (ints .u32 zs).toArray := by
 obtain ⟨ys, h1, _, h3, _⟩ := open_intArr ht ty_int_108 cells_108 hc h
 simp only [Prod.mk.injEq, DataW.agg.injEq] at h3
 rw [lits_inj h3.1, ← h1]
theorem glob_of {W : World} {i : Nat} {o : Obj} (h : W.heap[i]? = some o) : (W.heap[i]?).getD default = o := by rw [h]; rfl
/-- What the condition gives: the world's first blocks are the program's tables. -/
theorem globs_of_laid {W : World} (h : laidMetH Tryz.prog laid3 W) : ∃ gl, GlobsR gl ∧ (cx gl).ok W := by
 rw [MakeChecks.laidMetH_plain _ _ _ (by kernel_rfl)] at h
 obtain ⟨ps, ⟨g0, t0, cs0, f0, p0, q0, hg0, ht0, hv0, hd0, ⟨g1, t1, cs1, f1, p1, q1, hg1, ht1, hv1, hd1, ⟨g2, t2, cs2, f2, p2, q2, hg2, ht2, hv2, hd2, _, _⟩, _⟩, _⟩, _, _⟩ := h
 obtain rfl := Option.some.inj (gRef.symm.trans hg0)
 obtain rfl := Option.some.inj (gAdds.symm.trans hg1)
 obtain rfl := Option.some.inj (gBegin.symm.trans hg2)
 obtain rfl := Option.some.inj (tRef.symm.trans ht0)
 obtain rfl := Option.some.inj (tAdds.symm.trans ht1)
 obtain rfl := Option.some.inj (tBegin.symm.trans ht2)
 obtain rfl := arr_of_laid (zs := addsK) ty_un_208 cells_208 hd0
 obtain rfl := arr_of_laid (zs := addsK) ty_un_208 cells_208 hd1
 obtain rfl := arr_of_laid (zs := beginK) ty_un_131 cells_131 hd2
 obtain ⟨T0, r0, e0⟩ := var_heap gRef hv0
 obtain ⟨T1, r1, e1⟩ := var_heap gAdds hv1
 obtain ⟨T2, r2, e2⟩ := var_heap gBegin hv2
 refine ⟨fun i => (W.heap[i]?).getD default, ⟨⟨⟨T2, r2, glob_of e2⟩, ⟨T1, r1, glob_of e1⟩⟩, ⟨T0, r0, glob_of e0⟩⟩, fun i hi => ?_⟩
 have hi : i < 5 := hi
 have hs := lt_of_some (w := W) e1
 show W.heap[i]? = some ((W.heap[i]?).getD default)
 rw [Array.getElem?_eq_getElem (by omega)]; rfl
end Go.Proofs.YtfhjhaogmdaepaaGreatDoor

/- How ledgers, settings, transactions are read. Printed by gen.py. -/
set_option linter.unusedVariables false
set_option linter.unusedSimpArgs false
set_option maxRecDepth 100000
namespace Go.Proofs.YtfhjhaogmdaepaaGreatDoor
open Go Go.RowKit Go.ChangeShapes Go.WideShapes Go.Proofs
/-- A transaction. -/
structure Tx where
 kind : Int
 frm : Int
 to : Int
 amt : Int
 fee : Int
 non : Int
 sg16 : List Int
def Tx.cells (x : Tx) : List Value := [.int .i64 x.kind, .int .u64 x.frm, .int .u64 x.to, .int .u64 x.amt, .int .u64 x.fee, .int .u64 x.non] ++ ints .u8 x.sg16
structure Tx.ok (x : Tx) : Prop where
 kind : -9223372036854775808 ≤ x.kind ∧ x.kind ≤ 9223372036854775807
 frm : u64 x.frm
 to : u64 x.to
 amt : u64 x.amt
 fee : u64 x.fee
 non : u64 x.non
 sg16 : IsB x.sg16
 len : x.sg16.length = 16
theorem Tx.one (x : Tx) : ∀ v ∈ x.cells, v.oneCell' = true := by
 intro v hv; unfold Tx.cells at hv
 rcases List.mem_append.1 hv with hv | hv
 ·simp only [List.mem_cons, List.not_mem_nil, or_false] at hv
  rcases hv with rfl | rfl | rfl | rfl | rfl | rfl <;> rfl
 ·exact ints_one v hv
structure Par.ok (p : Par) : Prop where
 mb : u64 p.mb
 seats : -9223372036854775808 ≤ p.seats ∧ p.seats ≤ 9223372036854775807
 p2 : u64 p.p2
 p3 : u64 p.p3
 p4 : u64 p.p4
 p5 : -9223372036854775808 ≤ p.p5 ∧ p.p5 ≤ 9223372036854775807
 p6 : u64 p.p6
 p7 : u64 p.p7
 p8 : u64 p.p8
 p9 : u64 p.p9
 p10 : u64 p.p10
 p11 : u64 p.p11
/-- A ledger as it is handed in. -/
structure LedI where
 s : Sl Acc
 r : Sl Rel
 bu : Int
 su : Int
def LedI.cells (x : LedI) : List Value := ledV x.s.val x.r.val x.bu x.su
structure LedI.ok (W : World) (x : LedI) : Prop where
 hc : x.s.xs.length ≤ x.s.c
 hc' : x.r.xs.length ≤ x.r.c
 row : Row W x.s.b (rc x.s.xs)
 row' : Row W x.r.b (rc x.r.xs)
 ok : ∀ y ∈ x.s.xs, y.ok
 ok' : ∀ y ∈ x.r.xs, y.ok
 bu : u64 x.bu
 su : u64 x.su
theorem fits64 {z : Int} (h : fits .u64 z) : u64 z := by simp only [fits] at h; exact ⟨by omega, by omega⟩
theorem cells_acc : Tryz.prog.cellsOf 38 = 5 := by kernel_rfl
theorem bytes_acc : Tryz.prog.bytesOf 38 = 40 := by kernel_rfl
theorem fs_acc : fsB Tryz.prog 38 [(27, 0, 1), (24, 1, 1), (24, 2, 1), (24, 3, 1), (4, 4, 1)] = true := by kernel_rfl
def accOf (a : Int × Int × Int × Int × Bool × Unit) : Acc := ⟨a.1, a.2.1, a.2.2.1, a.2.2.2.1, a.2.2.2.2.1⟩
def rd_acc := PLift.up (Reads.as (cells' := Acc.cells) (Hd' := fun _ x => x.ok) (bulk' := fun _ => 1) (Small' := fun _ => True) accOf (Reads.struct fs_acc cells_acc (ReadsF.cons (Reads.int ty_int_27) (ReadsF.cons (Reads.int ty_int_24) (ReadsF.cons (Reads.int ty_int_24) (ReadsF.cons (Reads.int ty_int_24) (ReadsF.cons (Reads.bool ty_bool_4) ReadsF.nil)))))) (fun _ => rfl) (fun W a h => by
 obtain ⟨⟨⟨h1, _⟩, ⟨h2, _⟩, ⟨h3, _⟩, ⟨h4, _⟩, _⟩, _⟩ := h
 exact ⟨fits64 h1, fits64 h2, fits64 h3, fits64 h4⟩) (fun _ => by omega) (fun _ _ => trivial))
def rd_accs := PLift.up (Reads.slice ty_sl_22 cells_acc bytes_acc (fun _ => .inr trivial) rd_acc.down)
theorem cells_rel : Tryz.prog.cellsOf 135 = 4 := by kernel_rfl
theorem bytes_rel : Tryz.prog.bytesOf 135 = 32 := by kernel_rfl
theorem fs_rel : fsB Tryz.prog 135 [(24, 0, 1), (27, 1, 1), (24, 2, 1), (24, 3, 1)] = true := by kernel_rfl
def relOf (a : Int × Int × Int × Int × Unit) : Rel := ⟨a.1, a.2.1, a.2.2.1, a.2.2.2.1⟩
def rd_rel := PLift.up (Reads.as (cells' := Rel.cells) (Hd' := fun _ x => x.ok) (bulk' := fun _ => 1) (Small' := fun _ => True) relOf (Reads.struct fs_rel cells_rel (ReadsF.cons (Reads.int ty_int_24) (ReadsF.cons (Reads.int ty_int_27) (ReadsF.cons (Reads.int ty_int_24) (ReadsF.cons (Reads.int ty_int_24) ReadsF.nil))))) (fun _ => rfl) (fun W a h => by
 obtain ⟨⟨⟨h1, _⟩, ⟨h2, _⟩, ⟨h3, _⟩, ⟨h4, _⟩, _⟩, _⟩ := h
 exact ⟨fits64 h1, fits64 h2, fits64 h3, fits64 h4⟩) (fun _ => by omega) (fun _ _ => trivial))
def rd_rels := PLift.up (Reads.slice ty_sl_23 cells_rel bytes_rel (fun _ => .inr trivial) rd_rel.down)
theorem cells_led : Tryz.prog.cellsOf 26 = 4 := by kernel_rfl
theorem fs_led : fsB Tryz.prog 26 [(22, 0, 1), (23, 1, 1), (24, 2, 1), (24, 3, 1)] = true := by kernel_rfl
def ledOf (a : Sl Acc × Sl Rel × Int × Int × Unit) : LedI := ⟨a.1, a.2.1, a.2.2.1, a.2.2.2.1⟩
theorem ones_sum {α : Type} (xs : List α) : (xs.map fun _ => 1).sum = xs.length := by induction xs with
 | nil => rfl
 | cons x xs ih => rw [List.map_cons, List.sum_cons, ih, List.length_cons]; omega
def rd_led := PLift.up (Reads.as (cells' := LedI.cells) (Hd' := LedI.ok) (bulk' := fun x => x.s.xs.length + x.r.xs.length) (Small' := fun x => x.s.xs.length * 40 ≤ reachBytes ∧ x.r.xs.length * 32 ≤ reachBytes) ledOf (Reads.struct fs_led cells_led (ReadsF.cons rd_accs.down (ReadsF.cons rd_rels.down (ReadsF.cons (Reads.int ty_int_24) (ReadsF.cons (Reads.int ty_int_24) ReadsF.nil))))) (fun _ => rfl) (fun W a h => by
 obtain ⟨⟨⟨⟨h1, _, h2, h3⟩, _⟩, ⟨⟨h4, _, h5, h6⟩, _⟩, ⟨h7, _⟩, ⟨h8, _⟩, _⟩, _⟩ := h
 exact ⟨h1, h4, h2, h5, fun y hy => (h3 y hy).1, fun y hy => (h6 y hy).1, fits64 h7, fits64 h8⟩) (fun a => by have h1 := ones_sum a.1.xs; have h2 := ones_sum a.2.1.xs; show a.1.xs.length + a.2.1.xs.length ≤ ((a.1.xs.map fun _ => 1).sum + 1 + ((a.2.1.xs.map fun _ => 1).sum + 1 + _)) + 1; omega) (fun a h => ⟨h.1.1, h.2.1.1⟩))
section
variable {H : Type} {enc : TypeId × Value → H} {P : Program} {w : World} {base : Nat} {spare : Nat → Bool} {held : Bool}
end
end Go.Proofs.YtfhjhaogmdaepaaGreatDoor
