/- The tenth part of the program logic: regions of open order in which what is read stays apart from what is written. -/
import Derived.Test.YtfhjhaogmdaepaaEngI
set_option linter.unusedVariables false
set_option linter.unusedSimpArgs false
namespace Go.Proofs.Ytfhjhaogmdaepaa
open Go Go.RowKit
section
variable {C : Cx} {F : Fx} {l : Env} {rs rs' rq : List HP} {o : Oper} {Q : Exit → Act → World → Prop} {ops : Array Oper} {d i : Nat} {v : Value} {rest : List (Nat × Nat)}
/-- The walk of a region whose order is open; what its quiet operations read lies in rq. -/
def StQ (C : Cx) (F : Fx) (ops : Array Oper) (Q : Exit → Act → World → Prop) (order : List (Nat × Nat)) (l : Env) (rq rs : List HP) : Prop := St C F l rs (wpSch C.P ops Q order (Now C F rq))
theorem R_openQ {id : Nat} {os : List Oper} (order : List (Nat × Nat)) (rq : List HP) (hw : Weak rs rq) (hm : C.P.follows .mixedOrders = true) (hB : schB os.toArray order = true) (hQ : QOk Q) (h : StQ C F os.toArray Q order l rq rs) : St C F l rs ((Code.region id os.toArray true).wp C.P Q) := fun a w r n =>
  wp_region_sch order hm hB hQ ((n.drew _ (Nat.le_succ _)).weak hw) (h a _ r (n.drew _ (Nat.le_succ _)))
theorem O_nilQ (h : St C F l rs (Q .normal)) : StQ C F ops Q [] l rq rs := h
theorem O_pureQ (ho : ops[i]? = some o) (hw : wantedE ops l o = true) (hd : o.dst = some d) (hn : Nat.blt d F.n = true) (hv : OpP C F l o v) (k : StQ C F ops Q rest ((d, v) :: l) rq rs) : StQ C F ops Q ((i, 0) :: rest) l rq rs := fun a w r n =>
  ⟨o, v, ho, fun S' => .inl ⟨wanted_of r hw, fun w' _ => hv a w' r⟩, by rw [hd]; exact k _ _ (r.put hn v) n⟩
theorem O_valQ (ho : ops[i]? = some o) (hw : wantedE ops l o = true) (hd : o.dst = some d) (hn : Nat.blt d F.n = true) (hv : OpV C F l rq o v) (k : StQ C F ops Q rest ((d, v) :: l) rq rs) : StQ C F ops Q ((i, 1) :: rest) l rq rs := fun a w r n =>
  ⟨o, v, ho, .inl ⟨wanted_of r hw, fun w' hw' => hv a w' r hw'⟩, by rw [hd]; exact k _ _ (r.put hn v) n⟩
theorem O_keepQ (ho : ops[i]? = some o) (hw : wantedE ops l o = true) (h : OpW C F l rs o (fun a w => ∃ S' : World → Prop, (∀ x, S' x → Now C F rq x) ∧ S' w ∧ wpSch C.P ops Q rest S' a w) Q) : StQ C F ops Q ((i, 2) :: rest) l rq rs := fun a w r n => by
  show wpOp C.P ops Q i _ a w
  unfold wpOp
  simp only [ho, wanted_of r hw, if_true]
  exact .inl (h a w r n)
theorem O_newQ (ho : ops[i]? = some o) (hw : wantedE ops l o = true) (h : OpW C F l rs o (fun a w => ∃ S' : World → Prop, S' w ∧ wpSch C.P ops Q rest S' a w) Q) : StQ C F ops Q ((i, 3) :: rest) l rq rs := fun a w r n => by
  show wpOp C.P ops Q i _ a w
  unfold wpOp
  simp only [ho, wanted_of r hw, if_true]
  exact .inl (h a w r n)
theorem K_keepQ {l2 : Env} (hw : Weak rs' rq) (k : StQ C F ops Q rest l2 rq rs') : St C F l2 rs' (fun a w => ∃ S' : World → Prop, (∀ x, S' x → Now C F rq x) ∧ S' w ∧ wpSch C.P ops Q rest S' a w) := fun a w r n => ⟨Now C F rq, fun _ h => h, n.weak hw, k a w r n⟩
theorem K_newQ {l2 : Env} (rq' : List HP) (hw : Weak rs' rq') (k : StQ C F ops Q rest l2 rq' rs') : St C F l2 rs' (fun a w => ∃ S' : World → Prop, S' w ∧ wpSch C.P ops Q rest S' a w) := fun a w r n => ⟨Now C F rq', n.weak hw, k a w r n⟩
/-! ### Two loud operations of which either may come first -/
inductive Sch where
  | nil
  | op (i k : Nat) (rest : Sch)
  | two (i j : Nat) (x y : Sch)
def Sch.all : Sch → List (Nat × Nat)
  | .nil => []
  | .op i k r => (i, k) :: r.all
  | .two i j x y => (i, 2) :: (j, 2) :: (x.all ++ y.all)
def Sch.len : Sch → Nat
  | .nil => 0
  | .op _ _ r => r.len + 1
  | .two _ _ x _ => x.len + 1
def goT (ops : Array Oper) (all : List (Nat × Nat)) : Sch → Array Bool → Bool
  | .nil, listed => (Region.ready .any ops listed).isEmpty
  | .op i k rest, listed => (Region.ready .any ops listed).contains i &&
    (bif Nat.ble k 1 then Region.free .any ops listed i && (Nat.beq k 0 || all.all fun jk => !(Nat.beq jk.2 3) || waits ops jk.1 i) else Region.ready .any ops listed == [i]) && goT ops all rest (listed.setIfInBounds i true)
  | .two i j x y, listed => (Region.ready .any ops listed == [i, j] || Region.ready .any ops listed == [j, i]) && Nat.beq x.len y.len && goT ops all x (listed.setIfInBounds i true) && goT ops all y (listed.setIfInBounds j true)
def schT (ops : Array Oper) (t : Sch) : Bool := Region.noSelect ops && Nat.beq t.len ops.size && goT ops t.all t (Array.replicate ops.size false)
def wpT (P : Program) (ops : Array Oper) (Q : Exit → Act → World → Prop) : Sch → (World → Prop) → Act → World → Prop
  | .nil, _, a, w => Q .normal a w
  | .op i 0 rest, S, a, w => ∃ o v, ops[i]? = some o ∧ (∀ S', Holds P ops S' o v a) ∧ wpT P ops Q rest S (a.put o.dst v) w
  | .op i 1 rest, S, a, w => ∃ o v, ops[i]? = some o ∧ Holds P ops S o v a ∧ wpT P ops Q rest S (a.put o.dst v) w
  | .op i 2 rest, S, a, w => wpOp P ops Q i (fun a' w' => ∃ S' : World → Prop, (∀ x, S' x → S x) ∧ S' w' ∧ wpT P ops Q rest S' a' w') a w
  | .op i 3 rest, _, a, w => wpOp P ops Q i (fun a' w' => ∃ S' : World → Prop, S' w' ∧ wpT P ops Q rest S' a' w') a w
  | .op _ _ _, _, _, _ => False
  | .two i j x y, S, a, w => wpOp P ops Q i (fun a' w' => ∃ S' : World → Prop, (∀ z, S' z → S z) ∧ S' w' ∧ wpT P ops Q x S' a' w') a w ∧ wpOp P ops Q j (fun a' w' => ∃ S' : World → Prop, (∀ z, S' z → S z) ∧ S' w' ∧ wpT P ops Q y S' a' w') a w
theorem wpT_sound {P : Program} {ops : Array Oper} {Q : Exit → Act → World → Prop} (hs : Region.noSelect ops = true) (hQ : ∀ d v c a w, Q (.panic c) (a.put d v) w → Q (.panic c) a w) (all : List (Nat × Nat)) :
    ∀ (t : Sch) (S : World → Prop) (listed : Array Bool) (a : Act) (w : World), (∀ x, x ∈ t.all → x ∈ all) → goT ops all t listed = true → Closed ops listed → S w → wpT P ops Q t S a w → wpAnyG P ops Q (newOf all) S t.len listed a w
  | .nil, S, listed, a, w, _, hB, _, _, h => ⟨by simpa [goT] using hB, h⟩
  | .two i j x y, S, listed, a, w, hall, hB, hcl, hS, h => by
    unfold goT at hB
    simp only [Bool.and_eq_true, Bool.or_eq_true] at hB
    obtain ⟨⟨⟨hr, hl⟩, hx⟩, hy⟩ := hB
    have hl := Nat.eq_of_beq_eq_true hl
    have hr' : ∀ m, m ∈ Region.ready .any ops listed → m = i ∨ m = j := fun m hm => by
      rcases hr with hr | hr
      · rw [show Region.ready .any ops listed = [i, j] by simpa using hr] at hm; simpa using hm
      · rw [show Region.ready .any ops listed = [j, i] by simpa using hr] at hm; simpa [or_comm] using hm
    have hne : Region.ready .any ops listed ≠ [] := fun e => by rcases hr with hr | hr <;> simp [e] at hr
    have hri : i ∈ Region.ready .any ops listed := by rcases hr with hr | hr <;> (rw [show Region.ready .any ops listed = _ by simpa using hr]; simp)
    have hrj : j ∈ Region.ready .any ops listed := by rcases hr with hr | hr <;> (rw [show Region.ready .any ops listed = _ by simpa using hr]; simp)
    refine ⟨fun h0 => absurd h0 hne, fun m hm => ?_⟩
    have ax : ∀ z, z ∈ x.all → z ∈ all := fun z hz => hall z (by unfold Sch.all; simp [hz])
    have ay : ∀ z, z ∈ y.all → z ∈ all := fun z hz => hall z (by unfold Sch.all; simp [hz])
    rcases hr' m hm with rfl | rfl
    · exact wpOp_mono (fun a' w' ⟨S', hs', hS', hn⟩ => ⟨S', fun _ => hs', hS', wpT_sound hs hQ all x S' _ _ _ ax hx (hcl.list hri) hS' hn⟩) h.1
    · exact wpOp_mono (fun a' w' ⟨S', hs', hS', hn⟩ => ⟨S', fun _ => hs', hS', by rw [hl]; exact wpT_sound hs hQ all y S' _ _ _ ay hy (hcl.list hrj) hS' hn⟩) h.2
  | .op i k rest, S, listed, a, w, hall, hB, hcl, hS, h => by
    unfold goT at hB
    simp only [Bool.and_eq_true] at hB
    obtain ⟨⟨hr, hk⟩, hB'⟩ := hB
    have hrest : ∀ z, z ∈ rest.all → z ∈ all := fun z hz => hall z (by unfold Sch.all; exact List.mem_cons_of_mem _ hz)
    have hhead : (i, k) ∈ all := hall _ (by unfold Sch.all; exact List.mem_cons_self)
    have hcl' := hcl.list (j := i) (by simpa using hr)
    match k, hk, h, hhead with
    | 0, hk, h, _ =>
      obtain ⟨o, v, ho, hy, hn⟩ := h
      simp only [Nat.ble, cond_true, Bool.and_eq_true] at hk
      exact wpAnyG_first ho (Region.noSelect_spec hs) (hQ _ _) (G := fun _ a => ∀ S', Holds P ops S' o v a) (fun S a g => g S) (fun S a a' g e1 e2 S' => (g S').of_same e1 e2) (fun _ _ _ g _ => g) (.inr fun _ _ _ g => g)
        rest.len S listed a w (Region.free_spec ho hk.1) hcl (by simpa using hr) hy hS (wpT_sound hs hQ all rest S _ _ _ hrest hB' hcl' hS hn)
    | 1, hk, h, _ =>
      obtain ⟨o, v, ho, hy, hn⟩ := h
      simp only [Nat.ble, cond_true, Bool.and_eq_true] at hk
      have hw : ∀ j, newOf all j = true → waits ops j i = true := fun j hj => by
        unfold newOf at hj
        obtain ⟨jk, hm, he⟩ := List.any_eq_true.1 hj
        simp only [Bool.and_eq_true] at he
        have h2 := hk.2
        simp only [Bool.or_eq_true] at h2
        rcases h2 with h2 | h2
        · cases h2
        · have h3 := List.all_eq_true.1 h2 jk hm
          simp only [he.2, Bool.not_true, Bool.false_or] at h3
          rwa [Nat.eq_of_beq_eq_true he.1] at h3
      exact wpAnyG_first ho (Region.noSelect_spec hs) (hQ _ _) (G := fun S a => Holds P ops S o v a) (fun S a g => g) (fun S a a' g e1 e2 => g.of_same e1 e2) (fun _ _ _ g l => g.weak l) (.inl hw)
        rest.len S listed a w (Region.free_spec ho hk.1) hcl (by simpa using hr) hy hS (wpT_sound hs hQ all rest S _ _ _ hrest hB' hcl' hS hn)
    | 2, hk, h, _ =>
      have hk' : Region.ready .any ops listed = [i] := by simpa [Nat.ble] using hk
      refine ⟨fun h0 => (by rw [hk'] at h0; cases h0), fun j hj => ?_⟩
      rw [hk'] at hj
      obtain rfl : j = i := by simpa using hj
      exact wpOp_mono (fun a' w' ⟨S', hs', hS', hn⟩ => ⟨S', fun _ => hs', hS', wpT_sound hs hQ all rest S' _ _ _ hrest hB' hcl' hS' hn⟩) h
    | 3, hk, h, hhead =>
      have hk' : Region.ready .any ops listed = [i] := by simpa [Nat.ble] using hk
      refine ⟨fun h0 => (by rw [hk'] at h0; cases h0), fun j hj => ?_⟩
      rw [hk'] at hj
      obtain rfl : j = i := by simpa using hj
      have hnw : newOf all j = true := by
        unfold newOf
        exact List.any_eq_true.2 ⟨(j, 3), hhead, by simp⟩
      exact wpOp_mono (fun a' w' ⟨S', hS', hn⟩ => ⟨S', fun hf => (by rw [hnw] at hf; cases hf), hS', wpT_sound hs hQ all rest S' _ _ _ hrest hB' hcl' hS' hn⟩) h
    | k + 4, hk, h, _ => exact h.elim
/-- The walk of such a region. -/
def StT (C : Cx) (F : Fx) (ops : Array Oper) (Q : Exit → Act → World → Prop) (t : Sch) (l : Env) (rs : List HP) : Prop := St C F l rs (wpT C.P ops Q t (Now C F rs))
theorem T_open {id : Nat} {os : List Oper} (t : Sch) (hm : C.P.follows .mixedOrders = true) (hB : schT os.toArray t = true) (hQ : QOk Q) (h : StT C F os.toArray Q t l rs) : St C F l rs ((Code.region id os.toArray true).wp C.P Q) := fun a w r n => by
  unfold schT at hB
  simp only [Bool.and_eq_true] at hB
  obtain ⟨⟨h1, h2⟩, h3⟩ := hB
  have h2 := Nat.eq_of_beq_eq_true h2
  refine wp_region_any hm ?_
  have key := wpT_sound h1 hQ t.all t (Now C F rs) (Array.replicate os.toArray.size false) a { w with drawn := w.drawn + 1 } (fun _ h => h) h3 (fun k o _ hk => by rw [getD_none] at hk; cases hk) (n.drew _ (Nat.le_succ _)) (h a _ r (n.drew _ (Nat.le_succ _)))
  rw [h2] at key
  exact wpAny_of_G (new := newOf t.all) _ _ _ _ _ key
theorem T_nil (h : St C F l rs (Q .normal)) : StT C F ops Q .nil l rs := h
variable {tt tx ty : Sch} {j : Nat}
theorem T_pure (ho : ops[i]? = some o) (hw : wantedE ops l o = true) (hd : o.dst = some d) (hn : Nat.blt d F.n = true) (hv : OpP C F l o v) (k : StT C F ops Q tt ((d, v) :: l) rs) : StT C F ops Q (.op i 0 tt) l rs := fun a w r n =>
  ⟨o, v, ho, fun S' => .inl ⟨wanted_of r hw, fun w' _ => hv a w' r⟩, by rw [hd]; exact k _ _ (r.put hn v) n⟩
theorem T_val (ho : ops[i]? = some o) (hw : wantedE ops l o = true) (hd : o.dst = some d) (hn : Nat.blt d F.n = true) (hv : OpV C F l rs o v) (k : StT C F ops Q tt ((d, v) :: l) rs) : StT C F ops Q (.op i 1 tt) l rs := fun a w r n =>
  ⟨o, v, ho, .inl ⟨wanted_of r hw, fun w' hw' => hv a w' r hw'⟩, by rw [hd]; exact k _ _ (r.put hn v) n⟩
theorem T_keep (ho : ops[i]? = some o) (hw : wantedE ops l o = true) (h : OpW C F l rs o (fun a w => ∃ S' : World → Prop, (∀ x, S' x → Now C F rs x) ∧ S' w ∧ wpT C.P ops Q tt S' a w) Q) : StT C F ops Q (.op i 2 tt) l rs := fun a w r n => by
  show wpOp C.P ops Q i _ a w
  unfold wpOp
  simp only [ho, wanted_of r hw, if_true]
  exact .inl (h a w r n)
theorem T_new (ho : ops[i]? = some o) (hw : wantedE ops l o = true) (h : OpW C F l rs o (fun a w => ∃ S' : World → Prop, S' w ∧ wpT C.P ops Q tt S' a w) Q) : StT C F ops Q (.op i 3 tt) l rs := fun a w r n => by
  show wpOp C.P ops Q i _ a w
  unfold wpOp
  simp only [ho, wanted_of r hw, if_true]
  exact .inl (h a w r n)
theorem T_two (h1 : StT C F ops Q (.op i 2 tx) l rs) (h2 : StT C F ops Q (.op j 2 ty) l rs) : StT C F ops Q (.two i j tx ty) l rs := fun a w r n => ⟨h1 a w r n, h2 a w r n⟩
theorem K_keepT {l2 : Env} (hw : Weak rs' rs) (k : StT C F ops Q tt l2 rs') : St C F l2 rs' (fun a w => ∃ S' : World → Prop, (∀ x, S' x → Now C F rs x) ∧ S' w ∧ wpT C.P ops Q tt S' a w) := fun a w r n => ⟨Now C F rs', fun x nx => nx.weak hw, n, k a w r n⟩
theorem K_newT {l2 : Env} (k : StT C F ops Q tt l2 rs') : St C F l2 rs' (fun a w => ∃ S' : World → Prop, S' w ∧ wpT C.P ops Q tt S' a w) := fun a w r n => ⟨Now C F rs', n, k a w r n⟩
theorem Sn.left {base : Option Addr} {cs ds : List Value} (s : Sn C F rs base (cs ++ ds)) : Sn C F rs base cs := by
  have := s.take cs.length
  rwa [List.take_left] at this
theorem Rds.sn {b j k : Nat} {cs us : List Value} (s : Sn C F rs (some ⟨b, j, none⟩) cs) (hu : ∀ (i : Nat) (v : Value), us[i]? = some v → cs[k + i]? = some v) : Rds C F rs ⟨b, j + k, none⟩ us := fun w n i v hv => by
  obtain ⟨ad, e, hc⟩ := s.rw_ w n (k + i) v (hu i v hv)
  rw [Option.some.injEq] at e
  subst e
  rw [add_zero_off] at hc ⊢
  rwa [Nat.add_assoc]
theorem St.openOwnF {K : Act → World → Prop} (p : List HP) {q : List HP} {T sz n : Nat} {v : Value} {cs : List Value} (hn : 0 < n) (h : ∀ b cap junk, n ≤ cap → cap ≤ maxLen → cap * sz ≤ (cs ++ junk).length → v = .slice (some ⟨b, 0, none⟩) n cap → St C F l (p ++ blk b (cs ++ junk) T :: q) K) :
    St C F l (p ++ ownS T sz v n cs :: q) K := by
  refine St.openAt (X := Nat × Nat × List Value) (s := fun x => fun hp => (n ≤ x.2.1 ∧ x.2.1 ≤ maxLen ∧ x.2.1 * sz ≤ (cs ++ x.2.2).length ∧ v = .slice (some ⟨x.1, 0, none⟩) n x.2.1) ∧ blk x.1 (cs ++ x.2.2) T hp) p (fun hp hx => ?_) fun x => ?_
  · rcases hx.2 with ⟨_, h0, _⟩ | ⟨b, cap, junk, hv, hc, hm, hl, hb⟩
    · omega
    · exact ⟨(b, cap, junk), ⟨hc, hm, hl, hv⟩, hb⟩
  · intro a w hr ⟨hp, hs, hm⟩
    obtain ⟨c, d, hc, ⟨u, v', ⟨⟨h1, h2, h3, h4⟩, hu⟩, hv, d1, rfl⟩, d2, rfl⟩ := Sep.append.1 hs
    exact h x.1 x.2.1 x.2.2 h1 h2 h3 h4 a w hr ⟨_, Sep.append.2 ⟨c, u.join v', hc, ⟨u, v', hu, hv, d1, rfl⟩, d2, rfl⟩, hm⟩
theorem ownS.close {T sz b n cap : Nat} {cs junk : List Value} (hc : n ≤ cap) (hm : cap ≤ maxLen) (hl : cap * sz ≤ (cs ++ junk).length) (hcs : cs.length = n * sz) : ∀ h, blk b (cs ++ junk) T h → ownS T sz (.slice (some ⟨b, 0, none⟩) n cap) n cs h := fun h x => ⟨hcs, .inr ⟨b, cap, junk, rfl, hc, hm, hl, x⟩⟩
theorem splice_left (cs junk us : List Value) (o : Nat) (h : o + us.length ≤ cs.length) : splice (cs ++ junk) o us = splice cs o us ++ junk := by
  unfold splice
  rw [List.take_append_of_le_length (by omega), List.drop_append_of_le_length (by omega)]
  simp
theorem flat_right {k : IntKind} {n : Nat} {xss : List (List Int)} (h : ∀ x ∈ xss, x.length = n) (us : List Value) (i : Nat) (v : Value) (hv : us[i]? = some v) : (flat k xss ++ us)[xss.length * n + i]? = some v := by
  rw [List.getElem?_append_right (by rw [flat_length h]; omega), flat_length h, Nat.add_sub_cancel_left]; exact hv
end
end Go.Proofs.Ytfhjhaogmdaepaa
