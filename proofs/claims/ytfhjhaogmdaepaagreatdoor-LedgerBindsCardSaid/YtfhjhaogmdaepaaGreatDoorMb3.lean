/- Texts that ledgerBinds_holds leans on, part 3: each says at its head what it holds; no condition beyond its theorems' own. -/
import Derived.Test.YtfhjhaogmdaepaaGreatDoorMb2
import Derived.Sort.AssemblyPlain
import Derived.Test.YtfhjhaogmdaepaaGreatDoorRows
import Derived.Shelf.SlSortCmp.WholeK
import Derived.Shelf.SlSortCmp.NoneTotal
import Derived.Laws.Cover1
import Derived.Laws.LoneSync
import Derived.MapKept
import Derived.Defers
import Derived.Laws.IdiomStrings
import Derived.Laws.Externs
import Derived.Test.YtfhjhaogmdaepaaGreatDoorChecked
/- The tenth part of the program logic: regions of open order in which what is read stays apart from what is written. -/
set_option linter.unusedVariables false
set_option linter.unusedSimpArgs false
namespace Go.Proofs.YtfhjhaogmdaepaaGreatDoor
open Go Go.RowKit
section
variable {C : Cx} {F : Fx} {l : Env} {rs rs' rq : List HP} {o : Oper} {Q : Exit → Act → World → Prop} {ops : Array Oper} {d i : Nat} {v : Value} {rest : List (Nat × Nat)}
/-! ### Two loud operations of which either may come first -/
inductive Sch where
 | nil
 | op (i k : Nat) (rest : Sch)
 | two (i j : Nat) (x y : Sch)
def Sch.all : Sch → List (Nat × Nat)
 | .nil => []
 | .op i k r => (i, k) :: r.all
 | .two i j x y => (i, 2) :: (j, 2) :: (x.all ++ y.all)
def Sch.len : Sch → Nat
 | .nil => 0
 | .op _ _ r => r.len + 1
 | .two _ _ x _ => x.len + 1
def goT (ops : Array Oper) (all : List (Nat × Nat)) : Sch → Array Bool → Bool
 | .nil, listed => (Region.ready .any ops listed).isEmpty
 | .op i k rest, listed => (Region.ready .any ops listed).contains i &&
  (bif Nat.ble k 1 then Region.free .any ops listed i && (Nat.beq k 0 || all.all fun jk => !(Nat.beq jk.2 3) || waits ops jk.1 i) else Region.ready .any ops listed == [i]) && goT ops all rest (listed.setIfInBounds i true)
 | .two i j x y, listed => (Region.ready .any ops listed == [i, j] || Region.ready .any ops listed == [j, i]) && Nat.beq x.len y.len && goT ops all x (listed.setIfInBounds i true) && goT ops all y (listed.setIfInBounds j true)
def schT (ops : Array Oper) (t : Sch) : Bool := Region.noSelect ops && Nat.beq t.len ops.size && goT ops t.all t (Array.replicate ops.size false)
def wpT (P : Program) (ops : Array Oper) (Q : Exit → Act → World → Prop) : Sch → (World → Prop) → Act → World → Prop
 | .nil, _, a, w => Q .normal a w
 | .op i 0 rest, S, a, w => ∃ o v, ops[i]? = some o ∧ (∀ S', Holds P ops S' o v a) ∧ wpT P ops Q rest S (a.put o.dst v) w
 | .op i 1 rest, S, a, w => ∃ o v, ops[i]? = some o ∧ Holds P ops S o v a ∧ wpT P ops Q rest S (a.put o.dst v) w
 | .op i 2 rest, S, a, w => wpOp P ops Q i (fun a' w' => ∃ S' : World → Prop, (∀ x, S' x → S x) ∧ S' w' ∧ wpT P ops Q rest S' a' w') a w
 | .op i 3 rest, _, a, w => wpOp P ops Q i (fun a' w' => ∃ S' : World → Prop, S' w' ∧ wpT P ops Q rest S' a' w') a w
 | .op _ _ _, _, _, _ => False
 | .two i j x y, S, a, w => wpOp P ops Q i (fun a' w' => ∃ S' : World → Prop, (∀ z, S' z → S z) ∧ S' w' ∧ wpT P ops Q x S' a' w') a w ∧ wpOp P ops Q j (fun a' w' => ∃ S' : World → Prop, (∀ z, S' z → S z) ∧ S' w' ∧ wpT P ops Q y S' a' w') a w
theorem wpT_sound {P : Program} {ops : Array Oper} {Q : Exit → Act → World → Prop} (hs : Region.noSelect ops = true) (hQ : ∀ d v c a w, Q (.panic c) (a.put d v) w → Q (.panic c) a w) (all : List (Nat × Nat)) :
  ∀ (t : Sch) (S : World → Prop) (listed : Array Bool) (a : Act) (w : World), (∀ x, x ∈ t.all → x ∈ all) → goT ops all t listed = true → Closed ops listed → S w → wpT P ops Q t S a w → wpAnyG P ops Q (newOf all) S t.len listed a w
 | .nil, S, listed, a, w, _, hB, _, _, h => ⟨by simpa [goT] using hB, h⟩
 | .two i j x y, S, listed, a, w, hall, hB, hcl, hS, h => by
  unfold goT at hB
  simp only [Bool.and_eq_true, Bool.or_eq_true] at hB
  obtain ⟨⟨⟨hr, hl⟩, hx⟩, hy⟩ := hB
  have hl := Nat.eq_of_beq_eq_true hl
  have hr' : ∀ m, m ∈ Region.ready .any ops listed → m = i ∨ m = j := fun m hm => by
   rcases hr with hr | hr
   ·rw [show Region.ready .any ops listed = [i, j] by simpa using hr] at hm; simpa using hm
   ·rw [show Region.ready .any ops listed = [j, i] by simpa using hr] at hm; simpa [or_comm] using hm
  have hne : Region.ready .any ops listed ≠ [] := fun e => by rcases hr with hr | hr <;> simp [e] at hr
  have hri : i ∈ Region.ready .any ops listed := by rcases hr with hr | hr <;> (rw [show Region.ready .any ops listed = _ by simpa using hr]; simp)
  have hrj : j ∈ Region.ready .any ops listed := by rcases hr with hr | hr <;> (rw [show Region.ready .any ops listed = _ by simpa using hr]; simp)
  refine ⟨fun h0 => absurd h0 hne, fun m hm => ?_⟩
  have ax : ∀ z, z ∈ x.all → z ∈ all := fun z hz => hall z (by unfold Sch.all; simp [hz])
  have ay : ∀ z, z ∈ y.all → z ∈ all := fun z hz => hall z (by unfold Sch.all; simp [hz])
  rcases hr' m hm with rfl | rfl
  ·exact wpOp_mono (fun a' w' ⟨S', hs', hS', hn⟩ => ⟨S', fun _ => hs', hS', wpT_sound hs hQ all x S' _ _ _ ax hx (hcl.list hri) hS' hn⟩) h.1
  ·exact wpOp_mono (fun a' w' ⟨S', hs', hS', hn⟩ => ⟨S', fun _ => hs', hS', by rw [hl]; exact wpT_sound hs hQ all y S' _ _ _ ay hy (hcl.list hrj) hS' hn⟩) h.2
 | .op i k rest, S, listed, a, w, hall, hB, hcl, hS, h => by
  unfold goT at hB
  simp only [Bool.and_eq_true] at hB
  obtain ⟨⟨hr, hk⟩, hB'⟩ := hB
  have hrest : ∀ z, z ∈ rest.all → z ∈ all := fun z hz => hall z (by unfold Sch.all; exact List.mem_cons_of_mem _ hz)
  have hhead : (i, k) ∈ all := hall _ (by unfold Sch.all; exact List.mem_cons_self)
  have hcl' := hcl.list (j := i) (by simpa using hr)
  match k, hk, h, hhead with
  | 0, hk, h, _ =>
   obtain ⟨o, v, ho, hy, hn⟩ := h
   simp only [Nat.ble, cond_true, Bool.and_eq_true] at hk
   exact wpAnyG_first ho (Region.noSelect_spec hs) (hQ _ _) (G := fun _ a => ∀ S', Holds P ops S' o v a) (fun S a g => g S) (fun S a a' g e1 e2 S' => (g S').of_same e1 e2) (fun _ _ _ g _ => g) (.inr fun _ _ _ g => g)
    rest.len S listed a w (Region.free_spec ho hk.1) hcl (by simpa using hr) hy hS (wpT_sound hs hQ all rest S _ _ _ hrest hB' hcl' hS hn)
  | 1, hk, h, _ =>
   obtain ⟨o, v, ho, hy, hn⟩ := h
   simp only [Nat.ble, cond_true, Bool.and_eq_true] at hk
   have hw : ∀ j, newOf all j = true → waits ops j i = true := fun j hj => by
    unfold newOf at hj
    obtain ⟨jk, hm, he⟩ := List.any_eq_true.1 hj
    simp only [Bool.and_eq_true] at he
    have h2 := hk.2
    simp only [Bool.or_eq_true] at h2
    rcases h2 with h2 | h2
    ·cases h2
    ·have h3 := List.all_eq_true.1 h2 jk hm
     simp only [he.2, Bool.not_true, Bool.false_or] at h3
     rwa [Nat.eq_of_beq_eq_true he.1] at h3
   exact wpAnyG_first ho (Region.noSelect_spec hs) (hQ _ _) (G := fun S a => Holds P ops S o v a) (fun S a g => g) (fun S a a' g e1 e2 => g.of_same e1 e2) (fun _ _ _ g l => g.weak l) (.inl hw)
    rest.len S listed a w (Region.free_spec ho hk.1) hcl (by simpa using hr) hy hS (wpT_sound hs hQ all rest S _ _ _ hrest hB' hcl' hS hn)
  | 2, hk, h, _ =>
   have hk' : Region.ready .any ops listed = [i] := by simpa [Nat.ble] using hk
   refine ⟨fun h0 => (by rw [hk'] at h0; cases h0), fun j hj => ?_⟩
   rw [hk'] at hj
   obtain rfl : j = i := by simpa using hj
   exact wpOp_mono (fun a' w' ⟨S', hs', hS', hn⟩ => ⟨S', fun _ => hs', hS', wpT_sound hs hQ all rest S' _ _ _ hrest hB' hcl' hS' hn⟩) h
  | 3, hk, h, hhead =>
   have hk' : Region.ready .any ops listed = [i] := by simpa [Nat.ble] using hk
   refine ⟨fun h0 => (by rw [hk'] at h0; cases h0), fun j hj => ?_⟩
   rw [hk'] at hj
   obtain rfl : j = i := by simpa using hj
   have hnw : newOf all j = true := by
    unfold newOf
    exact List.any_eq_true.2 ⟨(j, 3), hhead, by simp⟩
   exact wpOp_mono (fun a' w' ⟨S', hS', hn⟩ => ⟨S', fun hf => (by rw [hnw] at hf; cases hf), hS', wpT_sound hs hQ all rest S' _ _ _ hrest hB' hcl' hS' hn⟩) h
  | k + 4, hk, h, _ => exact h.elim
/-- The walk of such a region. -/
def StT (C : Cx) (F : Fx) (ops : Array Oper) (Q : Exit → Act → World → Prop) (t : Sch) (l : Env) (rs : List HP) : Prop := St C F l rs (wpT C.P ops Q t (Now C F rs))
theorem T_open {id : Nat} {os : List Oper} (t : Sch) (hm : C.P.follows .mixedOrders = true) (hB : schT os.toArray t = true) (hQ : QOk Q) (h : StT C F os.toArray Q t l rs) : St C F l rs ((Code.region id os.toArray true).wp C.P Q) := fun a w r n => by
 unfold schT at hB
 simp only [Bool.and_eq_true] at hB
 obtain ⟨⟨h1, h2⟩, h3⟩ := hB
 have h2 := Nat.eq_of_beq_eq_true h2
 refine wp_region_any hm ?_
 have key := wpT_sound h1 hQ t.all t (Now C F rs) (Array.replicate os.toArray.size false) a { w with drawn := w.drawn + 1 } (fun _ h => h) h3 (fun k o _ hk => by rw [getD_none] at hk; cases hk) (n.drew _ (Nat.le_succ _)) (h a _ r (n.drew _ (Nat.le_succ _)))
 rw [h2] at key
 exact wpAny_of_G (new := newOf t.all) _ _ _ _ _ key
theorem T_nil (h : St C F l rs (Q .normal)) : StT C F ops Q .nil l rs := h
variable {tt tx ty : Sch} {j : Nat}
theorem T_pure (ho : ops[i]? = some o) (hw : wantedE ops l o = true) (hd : o.dst = some d) (hn : Nat.blt d F.n = true) (hv : OpP C F l o v) (k : StT C F ops Q tt ((d, v) :: l) rs) : StT C F ops Q (.op i 0 tt) l rs := fun a w r n =>
 ⟨o, v, ho, fun S' => .inl ⟨wanted_of r hw, fun w' _ => hv a w' r⟩, by rw [hd]; exact k _ _ (r.put hn v) n⟩
theorem T_val (ho : ops[i]? = some o) (hw : wantedE ops l o = true) (hd : o.dst = some d) (hn : Nat.blt d F.n = true) (hv : OpV C F l rs o v) (k : StT C F ops Q tt ((d, v) :: l) rs) : StT C F ops Q (.op i 1 tt) l rs := fun a w r n =>
 ⟨o, v, ho, .inl ⟨wanted_of r hw, fun w' hw' => hv a w' r hw'⟩, by rw [hd]; exact k _ _ (r.put hn v) n⟩
theorem T_keep (ho : ops[i]? = some o) (hw : wantedE ops l o = true) (h : OpW C F l rs o (fun a w => ∃ S' : World → Prop, (∀ x, S' x → Now C F rs x) ∧ S' w ∧ wpT C.P ops Q tt S' a w) Q) : StT C F ops Q (.op i 2 tt) l rs := fun a w r n => by
 show wpOp C.P ops Q i _ a w
 unfold wpOp
 simp only [ho, wanted_of r hw, if_true]
 exact .inl (h a w r n)
theorem T_new (ho : ops[i]? = some o) (hw : wantedE ops l o = true) (h : OpW C F l rs o (fun a w => ∃ S' : World → Prop, S' w ∧ wpT C.P ops Q tt S' a w) Q) : StT C F ops Q (.op i 3 tt) l rs := fun a w r n => by
 show wpOp C.P ops Q i _ a w
 unfold wpOp
 simp only [ho, wanted_of r hw, if_true]
 exact .inl (h a w r n)
theorem T_two (h1 : StT C F ops Q (.op i 2 tx) l rs) (h2 : StT C F ops Q (.op j 2 ty) l rs) : StT C F ops Q (.two i j tx ty) l rs := fun a w r n => ⟨h1 a w r n, h2 a w r n⟩
theorem K_keepT {l2 : Env} (hw : Weak rs' rs) (k : StT C F ops Q tt l2 rs') : St C F l2 rs' (fun a w => ∃ S' : World → Prop, (∀ x, S' x → Now C F rs x) ∧ S' w ∧ wpT C.P ops Q tt S' a w) := fun a w r n => ⟨Now C F rs', fun x nx => nx.weak hw, n, k a w r n⟩
theorem K_newT {l2 : Env} (k : StT C F ops Q tt l2 rs') : St C F l2 rs' (fun a w => ∃ S' : World → Prop, S' w ∧ wpT C.P ops Q tt S' a w) := fun a w r n => ⟨Now C F rs', n, k a w r n⟩
theorem Sn.left {base : Option Addr} {cs ds : List Value} (s : Sn C F rs base (cs ++ ds)) : Sn C F rs base cs := by
 have := s.take cs.length
 rwa [List.take_left] at this
theorem Rds.sn {b j k : Nat} {cs us : List Value} (s : Sn C F rs (some ⟨b, j, none⟩) cs) (hu : ∀ (i : Nat) (v : Value), us[i]? = some v → cs[k + i]? = some v) : Rds C F rs ⟨b, j + k, none⟩ us := fun w n i v hv => by
 obtain ⟨ad, e, hc⟩ := s.rw_ w n (k + i) v (hu i v hv)
 rw [Option.some.injEq] at e
 subst e
 rw [add_zero_off] at hc ⊢
 rwa [Nat.add_assoc]
theorem splice_left (cs junk us : List Value) (o : Nat) (h : o + us.length ≤ cs.length) : splice (cs ++ junk) o us = splice cs o us ++ junk := by
 unfold splice
 rw [List.take_append_of_le_length (by omega), List.drop_append_of_le_length (by omega)]
 simp
end
end Go.Proofs.YtfhjhaogmdaepaaGreatDoor

/- Walks: the reference's way. Printed by gen.py. -/
set_option linter.unusedVariables false
set_option linter.unusedSimpArgs false
set_option maxRecDepth 100000
namespace Go.Proofs.YtfhjhaogmdaepaaGreatDoor
open Go Go.RowKit Go.Proofs
/-- What a Prove answers. -/
def proveE (xss : List (List Int)) (at_ : Int) : Int := if bigL xss = true then 4 else if 0 ≤ at_ ∧ at_ < xss.length then 0 else 2
def proveT (xss : List (List Int)) (at_ : Int) : Int := if proveE xss at_ = 0 then (xss.length : Int) else 0
def proveI (xss : List (List Int)) (at_ : Int) : Int := if proveE xss at_ = 0 then at_ else 0
def proveA (xss : List (List Int)) (at_ : Int) : List (List Int) := if proveE xss at_ = 0 then wayH (leaves xss) at_.toNat else []
end Go.Proofs.YtfhjhaogmdaepaaGreatDoor

/- Plain: merging in place: two blocks exchanged, rotations, binary searches, what a merge leaves. -/
set_option linter.unusedVariables false
set_option linter.unusedSimpArgs false
set_option linter.unusedSectionVars false
namespace Go.Proofs.YtfhjhaogmdaepaaGreatDoor
open Go Go.Sort
section
variable {α : Type} [Inhabited α]
/-- The first n places of two blocks are exchanged. -/
def swR (d : Array α) (a b : Nat) : Nat → Array α
 | 0 => d
 | n + 1 => swp (swR d a b n) (a + n) (b + n)
def swI (a b n k : Nat) : Nat := if a ≤ k ∧ k < a + n then k - a + b else if b ≤ k ∧ k < b + n then k - b + a else k
theorem swR_size (d : Array α) (a b n : Nat) : (swR d a b n).size = d.size := by
 induction n with
 | zero => rfl
 | succ n ih => rw [swR, swp_size, ih]
theorem swR_get (d : Array α) (a b : Nat) : ∀ (n k : Nat), a + n ≤ b → b + n ≤ d.size → (swR d a b n)[k]! = d[swI a b n k]!
 | 0, k, _, _ => by
  have : swI a b 0 k = k := by unfold swI; split <;> (try omega); split <;> omega
  rw [this]; rfl
 | n + 1, k, h1, h2 => by
  rw [swR, swp_get _ (by rw [swR_size]; omega) (by rw [swR_size]; omega), swR_get d a b n _ (by omega) (by omega), swR_get d a b n _ (by omega) (by omega), swR_get d a b n _ (by omega) (by omega)]
  split
  ·rename_i hk; congr 1; unfold swI; (repeat' split) <;> omega
  ·split
   ·rename_i hk; congr 1; unfold swI; (repeat' split) <;> omega
   ·congr 1; unfold swI; (repeat' split) <;> omega
theorem swR_perm (d : Array α) (a b lo hi : Nat) (hlo : lo ≤ a) (hs : hi ≤ d.size) : ∀ n, a + n ≤ b → b + n ≤ hi → PermIn lo hi d (swR d a b n)
 | 0, _, _ => permIn_refl _ _ _
 | n + 1, h1, h2 => permIn_trans _ _ _ _ _ (swR_perm d a b lo hi hlo hs n (by omega) (by omega)) (swp_permIn _ _ _ _ _ (by omega) (by omega) (by omega) (by omega) (by rw [swR_size]; exact hs))
/-- Where what stands at a place behind a rotation has stood. -/
def rotI (a m b k : Nat) : Nat := if a ≤ k ∧ k < a + (b - m) then k - a + m else if a + (b - m) ≤ k ∧ k < b then k - (b - m) else k
/-- d' is d with the blocks [a, m) and [m, b) in the other order. -/
def Rot (a m b : Nat) (d d' : Array α) : Prop := d'.size = d.size ∧ ∀ k, d'[k]! = d[rotI a m b k]!
theorem Rot.left {i j m : Nat} {d d' : Array α} (hj : 0 < j) (hij : j < i) (him : i ≤ m) (hs : m + j ≤ d.size) (h : Rot (m - (i - j)) m (m + j) (swR d (m - i) m j) d') : Rot (m - i) m (m + j) d d' := by
 refine ⟨by rw [h.1, swR_size], fun k => ?_⟩
 rw [h.2, swR_get _ _ _ _ _ (by omega) (by omega)]
 congr 1; unfold rotI swI; (repeat' split) <;> omega
theorem Rot.right {i j m : Nat} {d d' : Array α} (hi : 0 < i) (hij : i < j) (him : i ≤ m) (hs : m + j ≤ d.size) (h : Rot (m - i) m (m + (j - i)) (swR d (m - i) (m + j - i) i) d') : Rot (m - i) m (m + j) d d' := by
 refine ⟨by rw [h.1, swR_size], fun k => ?_⟩
 rw [h.2, swR_get _ _ _ _ _ (by omega) (by omega)]
 congr 1; unfold rotI swI; (repeat' split) <;> omega
theorem Rot.same {i m : Nat} {d : Array α} (him : i ≤ m) (hs : m + i ≤ d.size) : Rot (m - i) m (m + i) d (swR d (m - i) m i) := by
 refine ⟨swR_size _ _ _ _, fun k => ?_⟩
 rw [swR_get _ _ _ _ _ (by omega) (by omega)]
 congr 1; unfold rotI swI; (repeat' split) <;> omega
/-- What stands at a goes n places to the right. -/
def shR (d : Array α) (a : Nat) : Nat → Array α
 | 0 => d
 | n + 1 => swp (shR d a n) (a + n) (a + n + 1)
theorem shR_size (d : Array α) (a n : Nat) : (shR d a n).size = d.size := by
 induction n with
 | zero => rfl
 | succ n ih => rw [shR, swp_size, ih]
theorem shR_get (d : Array α) (a : Nat) : ∀ (n k : Nat), a + n < d.size → (shR d a n)[k]! = if a ≤ k ∧ k < a + n then d[k + 1]! else if k = a + n then d[a]! else d[k]!
 | 0, k, _ => by
  rw [if_neg (by omega), shR]
  split
  ·rename_i h; rw [h]; rfl
  ·rfl
 | n + 1, k, h => by
  rw [shR, swp_get _ (by rw [shR_size]; omega) (by rw [shR_size]; omega), shR_get d a n _ (by omega), shR_get d a n _ (by omega), shR_get d a n _ (by omega)]
  rcases Nat.lt_trichotomy k (a + n) with hk | hk | hk
  ·rw [if_neg (by omega), if_neg (by omega)]
   by_cases h2 : a ≤ k
   ·rw [if_pos ⟨h2, hk⟩, if_pos ⟨h2, by omega⟩]
   ·rw [if_neg (by omega), if_neg (by omega), if_neg (by omega), if_neg (by omega)]
  ·subst hk
   rw [if_neg (by omega), if_pos rfl, if_neg (by omega), if_neg (by omega), if_pos ⟨by omega, by omega⟩]
  ·rcases Nat.lt_or_ge (a + n + 1) k with h2 | h2
   ·rw [if_neg (by omega), if_neg (by omega), if_neg (by omega), if_neg (by omega), if_neg (by omega), if_neg (by omega)]
   ·obtain rfl : k = a + n + 1 := by omega
    rw [if_pos rfl, if_neg (by omega), if_pos rfl, if_neg (by omega), if_pos (by omega)]
theorem shR_perm (d : Array α) (a lo hi : Nat) (hlo : lo ≤ a) (hs : hi ≤ d.size) : ∀ n, a + n < hi → PermIn lo hi d (shR d a n)
 | 0, _ => permIn_refl _ _ _
 | n + 1, h => permIn_trans _ _ _ _ _ (shR_perm d a lo hi hlo hs n (by omega)) (swp_permIn _ _ _ _ _ (by omega) (by omega) (by omega) (by omega) (by rw [shR_size]; exact hs))
/-- What stands at m goes n places to the left. -/
def shL (d : Array α) (m : Nat) : Nat → Array α
 | 0 => d
 | n + 1 => swp (shL d m n) (m - n) (m - n - 1)
theorem shL_size (d : Array α) (m n : Nat) : (shL d m n).size = d.size := by
 induction n with
 | zero => rfl
 | succ n ih => rw [shL, swp_size, ih]
theorem shL_get (d : Array α) (m : Nat) : ∀ (n k : Nat), n ≤ m → m < d.size → (shL d m n)[k]! = if m - n < k ∧ k ≤ m then d[k - 1]! else if k = m - n then d[m]! else d[k]!
 | 0, k, _, _ => by
  rw [if_neg (by omega), shL]
  split
  ·rename_i h; rw [h]; rfl
  ·rfl
 | n + 1, k, h, hm => by
  rw [shL, swp_get _ (by rw [shL_size]; omega) (by rw [shL_size]; omega), shL_get d m n _ (by omega) hm, shL_get d m n _ (by omega) hm, shL_get d m n _ (by omega) hm]
  rcases Nat.lt_trichotomy k (m - n) with hk | hk | hk
  ·rcases Nat.lt_or_ge k (m - n - 1) with h2 | h2
   ·rw [if_neg (by omega), if_neg (by omega), if_neg (by omega), if_neg (by omega), if_neg (by omega), if_neg (by omega)]
   ·obtain rfl : k = m - n - 1 := by omega
    rw [if_pos rfl, if_neg (by omega), if_pos rfl, if_neg (by omega), if_pos (by omega)]
  ·subst hk
   rw [if_neg (by omega), if_pos rfl, if_neg (by omega), if_neg (by omega), if_pos ⟨by omega, by omega⟩]
  ·rw [if_neg (by omega), if_neg (by omega)]
   by_cases h2 : k ≤ m
   ·rw [if_pos ⟨hk, h2⟩, if_pos ⟨by omega, h2⟩]
   ·rw [if_neg (by omega), if_neg (by omega), if_neg (by omega), if_neg (by omega)]
theorem shL_perm (d : Array α) (m lo hi : Nat) (hm : m < hi) (hs : hi ≤ d.size) : ∀ n, lo + n ≤ m → PermIn lo hi d (shL d m n)
 | 0, _ => permIn_refl _ _ _
 | n + 1, h => permIn_trans _ _ _ _ _ (shL_perm d m lo hi hm hs n (by omega)) (swp_permIn _ _ _ _ _ (by omega) (by omega) (by omega) (by omega) (by rw [shL_size]; exact hs))
/-! ### Merging -/
variable {lt : α → α → Bool}
theorem sortSub {a b c e : Nat} {d : Array α} (h : SortedIn lt a b d) (h1 : a ≤ c) (h2 : e ≤ b) : SortedIn lt c e d := fun i j hi hij hj => h i j (by omega) hij (by omega)
theorem sortEq {a b : Nat} {d d' : Array α} (h : SortedIn lt a b d) (e : ∀ k, a ≤ k → k < b → d'[k]! = d[k]!) : SortedIn lt a b d' := fun i j hi hij hj => by rw [e i hi (by omega), e j (by omega) hj]; exact h i j hi hij hj
theorem sorted_one {a b : Nat} {d : Array α} (h : b ≤ a + 1) : SortedIn lt a b d := fun i j _ _ _ => by omega
/-- What is not less than something is not less than what stands ahead of that. -/
theorem lt_down (hS : SWO lt) {x y z : α} (h1 : lt y x = false) (h2 : lt y z = true) : lt x z = true := by
 cases h : lt x z with
 | true => rfl
 | false => rw [hS.ntrans _ _ _ h1 h] at h2; cases h2
theorem lt_up (hS : SWO lt) {x y z : α} (h1 : lt y x = false) (h2 : lt z x = true) : lt z y = true := by
 cases h : lt z y with
 | true => rfl
 | false => rw [hS.ntrans _ _ _ h h1] at h2; cases h2
/-- One element, [a], is brought in among [a + 1, b): it goes to i - 1. -/
theorem merge_one (hS : SWO lt) {a i b : Nat} {d d' : Array α} (ha : a + 1 ≤ i) (hib : i ≤ b) (hs : SortedIn lt (a + 1) b d)
  (hl : ∀ c, a + 1 ≤ c → c < i → lt d[c]! d[a]! = true) (hr : ∀ c, i ≤ c → c < b → lt d[c]! d[a]! = false)
  (h1 : ∀ k, a ≤ k → k < i - 1 → d'[k]! = d[k + 1]!) (h2 : d'[i - 1]! = d[a]!) (h3 : ∀ k, i ≤ k → k < b → d'[k]! = d[k]!) : SortedIn lt a b d' := fun p q hp hpq hq => by
 rcases Nat.lt_trichotomy q (i - 1) with hqi | hqi | hqi
 ·rw [h1 p hp (by omega), h1 q (by omega) hqi]; exact hs _ _ (by omega) (by omega) (by omega)
 ·subst hqi; rw [h2, h1 p hp hpq]; exact hS.asymmA (hl _ (by omega) (by omega))
 ·rw [h3 q (by omega) hq]
  rcases Nat.lt_trichotomy p (i - 1) with hpi | hpi | hpi
  ·rw [h1 p hp hpi]; exact hs _ _ (by omega) (by omega) hq
  ·subst hpi; rw [h2]; exact hr q (by omega) hq
  ·rw [h3 p (by omega) (by omega)]; exact hs _ _ (by omega) hpq hq
/-- One element, [m], is brought in among [a, m): it goes to i. -/
theorem merge_last (hS : SWO lt) {a i m : Nat} {d d' : Array α} (ha : a ≤ i) (him : i ≤ m) (hs : SortedIn lt a m d)
  (hl : ∀ c, a ≤ c → c < i → lt d[m]! d[c]! = false) (hr : ∀ c, i ≤ c → c < m → lt d[m]! d[c]! = true)
  (h1 : ∀ k, i < k → k ≤ m → d'[k]! = d[k - 1]!) (h2 : d'[i]! = d[m]!) (h3 : ∀ k, a ≤ k → k < i → d'[k]! = d[k]!) : SortedIn lt a (m + 1) d' := fun p q hp hpq hq => by
 rcases Nat.lt_trichotomy q i with hqi | hqi | hqi
 ·rw [h3 p hp (by omega), h3 q (by omega) hqi]; exact hs _ _ hp hpq (by omega)
 ·subst hqi; rw [h2, h3 p hp hpq]; exact hl p hp hpq
 ·rw [h1 q hqi (by omega)]
  rcases Nat.lt_trichotomy p i with hpi | hpi | hpi
  ·rw [h3 p hp hpi]; exact hs _ _ hp (by omega) (by omega)
  ·subst hpi; rw [h2]; exact hS.asymmA (hr _ (by omega) (by omega))
  ·rw [h1 p hpi (by omega)]; exact hs _ _ (by omega) (by omega) (by omega)
theorem permTr {d d' d'' : Array α} {a b : Nat} (h : PermIn a b d d') (k : PermIn a b d' d'') : PermIn a b d d'' := permIn_trans _ _ _ _ _ h k
theorem permMono {d d' : Array α} {a b a' b' : Nat} (h : PermIn a b d d') (ha : a' ≤ a) (hb : b ≤ b') (hs : b' ≤ d.size) : PermIn a' b' d d' := permIn_mono _ _ _ _ _ _ ha hb hs h
/-- The two halves of a merge: what is left of the middle against what is right of it, behind the rotation. -/
theorem merge_parts (hS : SWO lt) {a m b mid st : Nat} {d d1 : Array α} (ham : a < m) (hmb : m < b) (hbs : b ≤ d.size) (hmid : mid = (a + b) / 2)
  (hL : SortedIn lt a m d) (hR : SortedIn lt m b d) (h0 : (if m > mid then mid + m - b else a) ≤ st) (h1 : st ≤ (if m > mid then mid else m))
  (hl : ∀ c, (if m > mid then mid + m - b else a) ≤ c → c < st → lt d[mid + m - 1 - c]! d[c]! = false) (hr : ∀ c, st ≤ c → c < (if m > mid then mid else m) → lt d[mid + m - 1 - c]! d[c]! = true)
  (hrot : Rot st m (mid + m - st) d d1) :
  SortedIn lt a st d1 ∧ SortedIn lt st mid d1 ∧ SortedIn lt mid (mid + m - st) d1 ∧ SortedIn lt (mid + m - st) b d1 ∧ ∀ p q, a ≤ p → p < mid → mid ≤ q → q < b → lt d1[q]! d1[p]! = false := by
 have e : ∀ k, d1[k]! = d[rotI st m (mid + m - st) k]! := hrot.2
 have hst : st ≤ m ∧ st ≤ mid ∧ a ≤ st := by split at h0 <;> split at h1 <;> omega
 have hend : m ≤ mid + m - st ∧ mid + m - st ≤ b := by split at h0 <;> split at h1 <;> omega
 have r1 : ∀ k, k < st → rotI st m (mid + m - st) k = k := fun k hk => by unfold rotI; (repeat' split) <;> omega
 have r2 : ∀ k, st ≤ k → k < mid → rotI st m (mid + m - st) k = k - st + m := fun k h1 h2 => by unfold rotI; (repeat' split) <;> omega
 have r3 : ∀ k, mid ≤ k → k < mid + m - st → rotI st m (mid + m - st) k = k - mid + st := fun k h1 h2 => by unfold rotI; (repeat' split) <;> omega
 have r4 : ∀ k, mid + m - st ≤ k → rotI st m (mid + m - st) k = k := fun k h1 => by unfold rotI; (repeat' split) <;> omega
 -- what is known at the border
 have b1 : a < st → mid + m - st < b → lt d[mid + m - st]! d[st - 1]! = false := fun h2 h3 => by
  have := hl (st - 1) (by split <;> rename_i hm <;> (first | rw [if_pos hm] at h0 | rw [if_neg hm] at h0) <;> omega) (by omega)
  rwa [show mid + m - 1 - (st - 1) = mid + m - st by omega] at this
 have b2 : st < m → st < mid → lt d[mid + m - 1 - st]! d[st]! = true := fun h2 h3 => hr st (Nat.le_refl _) (by split <;> omega)
 refine ⟨?_, ?_, ?_, ?_, ?_⟩
 ·intro i j hi hij hj; rw [e, e, r1 i (by omega), r1 j (by omega)]; exact hL i j hi hij (by omega)
 ·intro i j hi hij hj; rw [e, e, r2 i hi (by omega), r2 j (by omega) hj]; exact hR _ _ (by omega) (by omega) (by omega)
 ·intro i j hi hij hj; rw [e, e, r3 i hi (by omega), r3 j (by omega) hj]; exact hL _ _ (by omega) (by omega) (by omega)
 ·intro i j hi hij hj; rw [e, e, r4 i hi, r4 j (by omega)]; exact hR _ _ (by omega) hij hj
 ·intro p q hp hpm hq hqb
  rw [e, e]
  have le_ : ∀ i j, a ≤ i → i ≤ j → j < m → lt d[j]! d[i]! = false := fun i j h1 h2 h3 => by
   rcases Nat.lt_or_ge i j with h | h
   ·exact hL i j h1 h h3
   ·obtain rfl : i = j := by omega
    exact hS.irrefl _
  have re_ : ∀ i j, m ≤ i → i ≤ j → j < b → lt d[j]! d[i]! = false := fun i j h1 h2 h3 => by
   rcases Nat.lt_or_ge i j with h | h
   ·exact hR i j h1 h h3
   ·obtain rfl : i = j := by omega
    exact hS.irrefl _
  rcases Nat.lt_or_ge p st with hps | hps
  ·rw [r1 p hps]
   rcases Nat.lt_or_ge q (mid + m - st) with hqe | hqe
   ·rw [r3 q hq hqe]; exact le_ _ _ hp (by omega) (by omega)
   ·rw [r4 q hqe]
    have h5 := b1 (by omega) (by omega)
    exact hS.ntrans _ _ _ (re_ (mid + m - st) q (by omega) hqe hqb) (hS.ntrans _ _ _ h5 (le_ p (st - 1) hp (by omega) (by omega)))
  ·rw [r2 p hps hpm]
   rcases Nat.lt_or_ge q (mid + m - st) with hqe | hqe
   ·rw [r3 q hq hqe]
    have h5 := hS.asymmA (b2 (by omega) (by omega))
    exact hS.ntrans _ _ _ (le_ st _ (by omega) (by omega) (by omega)) (hS.ntrans _ _ _ h5 (re_ _ (mid + m - 1 - st) (by omega) (by omega) (by omega)))
   ·rw [r4 q hqe]; exact re_ _ _ (by omega) (by omega) hqb
theorem Rot.triv {a m b : Nat} {d : Array α} (h : a = m ∨ m = b) (hab : a ≤ m) (hmb : m ≤ b) : Rot a m b d d := ⟨rfl, fun k => by congr 1; unfold rotI; (repeat' split) <;> omega⟩
theorem arr_get {d : Array α} {i : Nat} (h : i < d.size) : d.toList[i]? = some d[i]! := by
 rw [Array.getElem?_toList, Array.getElem?_eq_getElem h, getElem!_pos d i h]
theorem swp_toList (d : Array α) (i j : Nat) : (swp d i j).toList = (d.toList.set i d[j]!).set j d[i]! := by simp [swp]
/-- Sorted halves, of which the left one is not above the right one. -/
theorem merge_join {a mid b : Nat} {d : Array α} (h1 : SortedIn lt a mid d) (h2 : SortedIn lt mid b d) (h3 : ∀ p q, a ≤ p → p < mid → mid ≤ q → q < b → lt d[q]! d[p]! = false) : SortedIn lt a b d := fun p q hp hpq hq => by
 rcases Nat.lt_or_ge q mid with h | h
 ·exact h1 p q hp hpq h
 ·rcases Nat.lt_or_ge p mid with h' | h'
  ·exact h3 p q hp h' h hq
  ·exact h2 p q h' hpq hq
/-- What holds between two stretches still holds when each is brought into another order. -/
theorem between_perm {a mid b : Nat} {d d' : Array α} (hs : b ≤ d.size) (hm : mid ≤ b) (h : ∀ p q, a ≤ p → p < mid → mid ≤ q → q < b → lt d[q]! d[p]! = false)
  (hp : PermIn a mid d d') : ∀ p q, a ≤ p → p < mid → mid ≤ q → q < b → lt d'[q]! d'[p]! = false := fun p q h1 h2 h3 h4 => by
 rw [hp.2.1 q (.inr h3)]
 exact permIn_all d d' a mid (fun x => lt d[q]! x = false) (by omega) hp (fun i hi hi' => h i q hi hi' h3 h4) p h1 h2
theorem between_perm' {a mid b : Nat} {d d' : Array α} (hs : b ≤ d.size) (h : ∀ p q, a ≤ p → p < mid → mid ≤ q → q < b → lt d[q]! d[p]! = false)
  (hp : PermIn mid b d d') : ∀ p q, a ≤ p → p < mid → mid ≤ q → q < b → lt d'[q]! d'[p]! = false := fun p q h1 h2 h3 h4 => by
 rw [hp.2.1 p (.inl h2)]
 exact permIn_all d d' mid b (fun x => lt x d[p]! = false) hs hp (fun i hi hi' => h p i h1 h2 hi hi') q h3 h4
end
end Go.Proofs.YtfhjhaogmdaepaaGreatDoor

/- The eleventh part of the program logic: piles of blocks, of a number that is not known beforehand. -/
set_option linter.unusedVariables false
set_option linter.unusedSimpArgs false
namespace Go.Proofs.YtfhjhaogmdaepaaGreatDoor
open Go Go.RowKit
/-- Blocks, each with its row of cells. -/
def pile (bs : List (Nat × List Value × Nat)) : HP := fun h => Sep (bs.map fun x => blk x.1 x.2.1 x.2.2) h
section
variable {C : Cx} {F : Fx} {rs : List HP}
theorem Sn.ofPile {bs : List (Nat × List Value × Nat)} {i b T : Nat} {cs : List Value} (m : Has rs (pile bs) (pile bs) rs) (hi : bs[i]? = some (b, cs, T)) : Sn C F rs (some ⟨b, 0, none⟩) cs := fun w h hs mv j v hv => by
 obtain ⟨a, c, ha, dj, rfl, _⟩ := Sep.take m hs
 have hlt := (List.getElem?_eq_some_iff.1 hi).1
 have hsplit : bs = bs.take i ++ (b, cs, T) :: bs.drop (i + 1) := by
  rw [List.getElem?_eq_getElem hlt, Option.some.injEq] at hi
  rw [← hi, ← List.drop_eq_getElem_cons hlt, List.take_append_drop]
 have ha2 : Sep ((bs.take i).map (fun x => blk x.1 x.2.1 x.2.2) ++ blk b cs T :: (bs.drop (i + 1)).map (fun x => blk x.1 x.2.1 x.2.2)) a := by
  have h2 : Sep (bs.map fun x => blk x.1 x.2.1 x.2.2) a := ha
  rw [hsplit, List.map_append] at h2
  exact h2
 obtain ⟨a1, c1, ⟨fr, hf, rfl⟩, dj1, rfl, _⟩ := Sep.take (s := blk b cs T) Has.at_ ha2
 have hone : ((Heap.one b (.cells cs.toArray T fr)).join c1).join c b = some (.cells cs.toArray T fr) := Heap.le_join_left _ _ b _ (Heap.le_join_left _ _ b _ (Heap.one_same _ _))
 refine ⟨_, rfl, ?_, .inr (.inl (by rw [hone]; simp))⟩
 have := mv.sub b _ hone
 rw [add_zero_off]
 simp [World.cell?, this, hv]
end
end Go.Proofs.YtfhjhaogmdaepaaGreatDoor

/- The twelfth part of the program logic: loops and joins that keep the rest of the environment as it is; piles of many slices. -/
set_option linter.unusedVariables false
set_option linter.unusedSimpArgs false
namespace Go.Proofs.YtfhjhaogmdaepaaGreatDoor
open Go Go.RowKit
theorem Env.get?_append (a b : Env) (t : Nat) : Env.get? (a ++ b) t = (Env.get? a t).or (Env.get? b t) := by
 induction a with
 | nil => simp [Env.get?]
 | cons x a ih =>
  obtain ⟨k, v⟩ := x
  have e1 : ∀ l, Env.get? ((k, v) :: l) t = bif Nat.beq k t then some v else Env.get? l t := fun _ => rfl
  rw [List.cons_append, e1, e1]
  cases Nat.beq k t
  ·simp only [cond_false]; exact ih
  ·simp
theorem EnvLe.append {l a b : Env} (ha : EnvLe l a) (hb : EnvLe l b) : EnvLe l (a ++ b) := fun t v h => by
 rw [Env.get?_append] at h
 cases e : Env.get? a t with
 | none => rw [e] at h; exact hb t v (by simpa using h)
 | some u => rw [e] at h; exact ha t v (by rw [e]; simpa using h)
theorem EnvLe.consE {l l' : Env} {t : Nat} {v v' : Value} (h : l.get? t = some v) (e : v = v') (hl : EnvLe l l') : EnvLe l ((t, v') :: l') := .cons (e ▸ h) hl
section
variable {C : Cx} {F : Fx} {l l0 : Env} {rs rs' : List HP} {K K' : Act → World → Prop}
theorem R_loopE {Q : Exit → Act → World → Prop} {c : Code} {G : Type} (hl0 : EnvLe l l0) (e : G → Env) (r : G → List HP) (inv : G → Prop) (m : G → Nat) (g : G) (hg : inv g) (he : EnvLe l (e g)) (hr : Weak rs (r g))
  (round : ∀ g, inv g → St C F (e g ++ l0) (r g) (c.wp C.P (Exit.then (fun a w => ∃ g', inv g' ∧ m g' < m g ∧ Rep F.n F.ds (e g' ++ l0) a ∧ Now C F (r g') w) Q))) : St C F l rs ((Code.loop c).wp C.P Q) :=
 R_loop (fun g => e g ++ l0) r inv m g hg (he.append hl0) hr round
theorem R_joinE {Q : Exit → Act → World → Prop} {G : Type} (hl0 : EnvLe l l0) (e : G → Env) (r : G → List HP) (inv : G → Prop) {x y : Code}
  (hx : St C F l rs (x.wp C.P (Exit.then (fun a w => ∃ g, inv g ∧ Rep F.n F.ds (e g ++ l0) a ∧ Now C F (r g) w) Q)))
  (hy : ∀ g, inv g → St C F (e g ++ l0) (r g) (y.wp C.P Q)) : St C F l rs ((Code.seq x y).wp C.P Q) := R_join (fun g => e g ++ l0) r inv hx hy
theorem R_joinE0 {Q : Exit → Act → World → Prop} {G : Type} (hl0 : EnvLe l l0) (e : G → Env) (inv : G → Prop) {x y : Code}
  (hx : St C F l rs (x.wp C.P (Exit.then (fun a w => ∃ g, inv g ∧ Rep F.n F.ds (e g ++ l0) a ∧ Now C F rs w) Q)))
  (hy : ∀ g, inv g → St C F (e g ++ l0) rs (y.wp C.P Q)) : St C F l rs ((Code.seq x y).wp C.P Q) := R_join (fun g => e g ++ l0) (fun _ => rs) inv hx hy
end
section
variable {C : Cx} {F : Fx} {l : Env} {rs rs' rq : List HP} {o : Oper} {Q : Exit → Act → World → Prop} {ops : Array Oper} {d i : Nat} {v : Value} {rest : List (Nat × Nat)} {tt : Sch}
theorem O_noX (ho : ops[i]? = some o) (hw : unwantedE ops l o = true) (hd : o.dst = some d) (hn : Nat.blt d F.n = true) (k : StO C F ops Q rest ((d, undef) :: l) rs) : StO C F ops Q ((i, 1) :: rest) l rs := fun a w r n =>
 ⟨o, undef, ho, .inr ⟨unwanted_of r hw, rfl⟩, by rw [hd]; exact k _ _ (r.put hn undef) n⟩
end
end Go.Proofs.YtfhjhaogmdaepaaGreatDoor

/- The thirteenth part of the program logic: families of resources; slices that grow while what they grew from is still looked at. -/
set_option linter.unusedVariables false
set_option linter.unusedSimpArgs false
namespace Go.Proofs.YtfhjhaogmdaepaaGreatDoor
open Go Go.RowKit
/-- Separate resources, one for each of a list. -/
def fam {α : Type} (f : α → HP) (xs : List α) : HP := fun h => Sep (xs.map f) h
section
variable {α : Type} {f : α → HP} {rs : List HP}
theorem Weak.famNil : Weak rs (fam f [] :: rs) := fun h s => ⟨Heap.none.join h, ⟨Heap.none, h, rfl, s, Heap.disj_none h, rfl⟩, by rw [Heap.none_join]; exact Heap.Le.refl h⟩
theorem Weak.famJoin {xs ys : List α} : Weak (fam f xs :: fam f ys :: rs) (fam f (xs ++ ys) :: rs) := fun h s => by
 obtain ⟨x, y, hx, ⟨p, q, hp, hq, d1, rfl⟩, d2, rfl⟩ := s
 obtain ⟨d3, d4⟩ := Heap.disj_join.1 d2
 refine ⟨(x.join p).join q, ⟨x.join p, q, ?_, hq, Heap.join_disj.2 ⟨d4, d1⟩, rfl⟩, by rw [Heap.join_assoc]; exact Heap.Le.refl _⟩
 show Sep ((xs ++ ys).map f) _
 rw [List.map_append]
 exact Sep.append.2 ⟨x, p, hx, hp, d3, rfl⟩
theorem Weak.famOne {x : α} : Weak (f x :: rs) (fam f [x] :: rs) := fun h ⟨a, b, ha, hb, d, e⟩ => ⟨h, ⟨a, b, Sep.single.2 ha, hb, d, e⟩, Heap.Le.refl _⟩
theorem Weak.swap {a b : HP} : Weak (a :: b :: rs) (b :: a :: rs) := Weak.pick (p := [a]) (Weak.refl _)
theorem Weak.famAdd {x : α} {xs : List α} : Weak (f x :: fam f xs :: rs) (fam f (xs ++ [x]) :: rs) := Weak.swap.trans ((Weak.keep Weak.famOne).trans Weak.famJoin)
theorem list_split {l : List α} {i : Nat} {x : α} (h : l[i]? = some x) : l = l.take i ++ ([x] ++ l.drop (i + 1)) := by
 have hlt := (List.getElem?_eq_some_iff.1 h).1
 rw [List.getElem?_eq_getElem hlt, Option.some.injEq] at h
 rw [List.singleton_append, ← h, ← List.drop_eq_getElem_cons hlt, List.take_append_drop]
end
section
variable {C : Cx} {F : Fx} {l : Env} {rs rs' : List HP} {K : Act → World → Prop} {o : Oper} {Q : Exit → Act → World → Prop} {d : Nat}
theorem Sn.fam {α : Type} {f : α → HP} {xs : List α} {i : Nat} {x : α} {base : Option Addr} {cs : List Value} (m : Has rs (fam f xs) (fam f xs) rs) (hx : xs[i]? = some x) (s : ∀ rs, Has rs (f x) (f x) rs → Sn C F rs base cs) : Sn C F rs base cs := fun w h hs mv j v hv => by
 obtain ⟨a, c, ha, dj, rfl, _⟩ := Sep.take m hs
 have ha : Sep (xs.map f) a := ha
 rw [list_split hx, List.map_append, List.map_append] at ha
 obtain ⟨a1, a2, h1, h2, d1, rfl⟩ := Sep.append.1 ha
 obtain ⟨a3, a4, h3, h4, d2, rfl⟩ := Sep.append.1 h2
 have h3 := Sep.single.1 h3
 obtain ⟨d3, d4⟩ := Heap.join_disj.1 dj
 obtain ⟨d5, d6⟩ := Heap.join_disj.1 d4
 obtain ⟨d7, d8⟩ := Heap.disj_join.1 d1
 have e : (a1.join (a3.join a4)).join c = a3.join ((a1.join a4).join c) := by
  rw [← Heap.join_assoc, ← Heap.join_assoc a3, ← Heap.join_assoc a3, Heap.join_comm d7]
 have hs2 : Sep [f x, fun k => k = (a1.join a4).join c] ((a1.join (a3.join a4)).join c) := ⟨a3, _, h3, Sep.single.2 rfl, Heap.disj_join.2 ⟨Heap.disj_join.2 ⟨d7.symm, d2⟩, d5⟩, e⟩
 exact s _ Has.h0 w _ hs2 mv j v hv
/-- Cells of an owned slice are written, side by side. -/
theorem W_storeOwn {t b c j T sz n k2 : Nat} {x y : Operand} {vs cs : List Value} (ho : o.op = .store t x y) (hd : o.dst = none) (hx : ev l x = some (.pointer (some ⟨b, j, none⟩))) (hy : ev l y = some (.agg vs.toArray)) (ht : agB C.P t k2 = true) (hlv : vs.length = k2)
  (h1 : ∀ v ∈ vs, v.oneCell' = true) (m : Has rs (ownS T sz (.slice (some ⟨b, 0, none⟩) n c) n cs) (ownS T sz (.slice (some ⟨b, 0, none⟩) n c) n (splice cs j vs)) rs') (hj : j + vs.length ≤ cs.length) (k : St C F l rs' K) : OpW C F l rs o K Q := fun a w r nw => by
 obtain ⟨h, s, mv⟩ := nw
 obtain ⟨xx, c', own, dj, rfl, back⟩ := Sep.take m s
 have hl := own.1
 rcases own.2 with ⟨⟨b0, e⟩, hn0, rfl⟩ | ⟨b', cap, junk, e, hc, hm, hl2, fr, hf, rfl⟩
 ·rw [hl, hn0, Nat.zero_mul] at hj
  have hv0 : vs = [] := List.eq_nil_of_length_eq_zero (by omega)
  subst hv0
  have hj0 : j = 0 := by simpa using hj
  subst hj0
  subst hlv
  unfold Oper.wp
  have : (execOp a.eval o).run C.P w = .ok .skip w := by
   simp [execOp, ho, Instr.storeAt, Instr.sureAddr, r.ev hx, r.ev hy, storeVar, (run_isAgg_ag ht w).2, Value.cells, storeCells]
  rw [this]
  show K (a.put o.dst undef) w
  rw [hd]
  exact k a w r ⟨_, back _ ⟨by rw [splice_nil]; exact hl, .inl ⟨⟨b0, e⟩, hn0, rfl⟩⟩ dj, mv⟩
 ·simp only [Value.slice.injEq, Option.some.injEq, Addr.mk.injEq] at e
  obtain ⟨⟨rfl, _⟩, _, rfl⟩ := e
  have hblk := mv.sub b _ (Heap.le_join_left _ _ b _ (Heap.one_same _ _))
  obtain ⟨w', hr, p⟩ := run_storeCells_blk (P := C.P) (o := j) vs 0 (cs ++ junk) w hblk hf (by rw [List.length_append]; omega) h1
  subst hlv
  unfold Oper.wp
  have : (execOp a.eval o).run C.P w = .ok .skip w' := by
   simp [execOp, ho, Instr.storeAt, Instr.sureAddr, r.ev hx, r.ev hy, storeVar, (run_isAgg_ag ht w).2, Value.cells, hr]
  rw [this]
  show K (a.put o.dst undef) w'
  rw [hd]
  obtain ⟨djn, m3⟩ := mv.put dj p.os p.tape p.output p.drawn p.size p.at_ p.other
  have hsp : splice (cs ++ junk) (j + 0) vs = splice cs j vs ++ junk := splice_left cs junk vs j hj
  rw [hsp] at m3 djn
  have hls := length_splice cs j vs hj
  refine k a w' r ⟨_, back _ ⟨by rw [hls]; exact hl, .inr ⟨b, c, junk, rfl, hc, hm, ?_, ⟨fr, ?_, rfl⟩⟩⟩ djn, m3⟩
  ·rw [List.length_append, hls, ← List.length_append]; exact hl2
  ·rw [List.length_append, hls, ← List.length_append]; exact hf
end
theorem Sep.map {α β : Type} {f : α → HP} {g : β → HP} {c : α → β} : ∀ {xs : List α} {h : Heap}, (∀ x ∈ xs, ∀ h, f x h → g (c x) h) → Sep (xs.map f) h → Sep ((xs.map c).map g) h
 | [], _, _, s => s
 | x :: xs, _, hh, ⟨a, b, ha, hb, d, e⟩ => ⟨a, b, hh x (by simp) a ha, Sep.map (xs := xs) (fun y hy => hh y (by simp [hy])) hb, d, e⟩
section
variable {C : Cx} {F : Fx} {l : Env} {rs rs' : List HP} {K : Act → World → Prop}
end
end Go.Proofs.YtfhjhaogmdaepaaGreatDoor

/- How arguments of whatever plain type are read: combinators over the type's make. -/
set_option linter.unusedVariables false
set_option linter.unusedSimpArgs false
namespace Go.Proofs.YtfhjhaogmdaepaaGreatDoor
open Go Go.RowKit Go.ChangeShapes Go.WideShapes

theorem bulk_one {H : Type} (d : DataW H) : 1 ≤ Rows.uptoBulk d := by
 cases d with
 | lit l => cases l <;> simp [Rows.uptoBulk]
 | nil => simp [Rows.uptoBulk]
 | ptr d => simp [Rows.uptoBulk]
 | slice elems spare => simp [Rows.uptoBulk]
 | agg parts => simp [Rows.uptoBulk]
 | iface t d => simp [Rows.uptoBulk]
 | map entries => simp [Rows.uptoBulk]
 | held h => simp [Rows.uptoBulk]
/-- A slice: its base, its room, what its elements are. -/
structure Sl (α : Type) where
 b : Option Addr
 c : Nat
 xs : List α
def Sl.val {α : Type} (s : Sl α) : Value := .slice s.b s.xs.length s.c
/-- Cells of type t are read as an α. -/
def Reads (P : Program) (t : TypeId) {α : Type} (cells : α → List Value) (Hd : World → α → Prop) (bulk : α → Nat) (Small : α → Prop) : Prop :=
 ∀ (H : Type) (enc : TypeId × Value → H) (W : World) (hd : Bool) (fuel : Nat) (cs : List Value) (x : DataW H × List MemPlace), DataW.trod enc P W 0 (fun _ => true) hd fuel t cs = some x →
  ∃ a, cs = cells a ∧ Hd W a ∧ bulk a ≤ Rows.uptoBulk x.1 ∧ ((∀ m ∈ DataW.weights P t x.1, m ≤ reachBytes) → Small a)
theorem fits_of_wf {k : IntKind} {z : Int} (h : (Lit.int k z).wf = true) : fits k z := by
 cases k <;> simp [Lit.wf, IntKind.min, IntKind.max, IntKind.signed, IntKind.bits] at h <;> simp only [fits] <;> omega
section
variable {P : Program}
theorem Reads.int {t : TypeId} {k : IntKind} (ht : P.underlying t = some (.int k)) : Reads P t (fun z : Int => [.int k z]) (fun _ z => fits k z) (fun _ => 1) (fun _ => True) := fun H enc W hd fuel cs x h => by
 obtain ⟨z, e1, e2, e3⟩ := DataW.trod_int ht h
 exact ⟨z, e1, fits_of_wf e3, bulk_one _, fun _ => trivial⟩
theorem Reads.bool {t : TypeId} (ht : P.underlying t = some .bool) : Reads P t (fun z : Bool => [.bool z]) (fun _ z => True) (fun _ => 1) (fun _ => True) := fun H enc W hd fuel cs x h => by
 obtain ⟨z, e1, e2⟩ := DataW.trod_bool ht h
 exact ⟨z, e1, trivial, bulk_one _, fun _ => trivial⟩
theorem str_nums (s : ByteArray) : ∃ xs : List Int, IsB xs ∧ s = strOfNums xs ∧ xs.length = s.size := by
 refine ⟨s.data.toList.map fun c => (c.toNat : Int), fun x hx => ?_, ?_, by rw [List.length_map, Array.length_toList]; rfl⟩
 ·obtain ⟨c, _, rfl⟩ := List.mem_map.1 hx
  have := c.toNat_lt; omega
 ·apply ByteArray.ext
  apply Array.ext'
  rw [strOfNums_data, List.map_map]
  have : (fun n : Int => UInt8.ofNat n.toNat) ∘ (fun c : UInt8 => (c.toNat : Int)) = id := by funext c; simp
  rw [this, List.map_id]
theorem Reads.string {t : TypeId} (ht : P.underlying t = some .string) : Reads P t (fun z : List Int => [.string (strOfNums z)]) (fun _ z => IsB z ∧ z.length ≤ maxLen) (fun z => z.length + 1) (fun z => z.length ≤ reachBytes) := fun H enc W hd fuel cs x h => by
 obtain ⟨s, e1, e2, e3⟩ := DataW.trod_string ht h
 obtain ⟨xs, h1, h2, h3⟩ := str_nums s
 refine ⟨xs, by rw [e1, h2], ⟨h1, by omega⟩, ?_, fun hm => ?_⟩
 ·rw [e2]
  simp only [Rows.uptoBulk]
  have : s.data.toList.length = s.size := by rw [Array.length_toList]; rfl
  omega
 ·have := hm s.data.toList.length (by rw [e2]; simp [DataW.weights])
  have h4 : s.data.toList.length = s.size := by rw [Array.length_toList]; rfl
  omega
theorem list_choice' {α : Type} {Q : Nat → α → Prop} : ∀ n, (∀ i, i < n → ∃ p, Q i p) → ∃ l : List α, l.length = n ∧ ∀ i p, l[i]? = some p → Q i p
 | 0, _ => ⟨[], rfl, fun _ _ h => by cases h⟩
 | n + 1, h => by
  obtain ⟨l, hl, hp⟩ := list_choice' n fun i hi => h i (by omega)
  obtain ⟨p, hpp⟩ := h n (by omega)
  refine ⟨l ++ [p], by simp [hl], fun i q hq => ?_⟩
  by_cases hi : i < n
  ·rw [List.getElem?_append_left (by omega)] at hq; exact hp i q hq
  ·rw [List.getElem?_append_right (by omega)] at hq
   have : i = n := by
    have := (List.getElem?_eq_some_iff.1 hq).1
    simp at this; omega
   subst this
   simp [hl] at hq
   rw [← hq]; exact hpp
/-! ### Rows of things of one size -/
section
variable {α : Type} {g : α → List Value} {n : Nat} {xs : List α} (h : ∀ x ∈ xs, (g x).length = n)
include h
theorem rows_length : (xs.flatMap g).length = xs.length * n := by
 induction xs with
 | nil => simp
 | cons x xs ih => rw [List.flatMap_cons, List.length_append, h x (by simp), ih (fun y hy => h y (by simp [hy])), List.length_cons, Nat.add_mul]; omega
theorem rows_drop (p : Nat) : (xs.flatMap g).drop (p * n) = (xs.drop p).flatMap g := by
 induction xs generalizing p with
 | nil => simp
 | cons x xs ih =>
  cases p with
  | zero => simp
  | succ p =>
   have hx := h x (by simp)
   rw [List.flatMap_cons, Nat.add_mul, Nat.one_mul, Nat.add_comm, ← hx, List.drop_length_add_append, hx, ih (fun y hy => h y (by simp [hy])), List.drop_succ_cons]
theorem rows_take (p : Nat) : (xs.flatMap g).take (p * n) = (xs.take p).flatMap g := by
 induction xs generalizing p with
 | nil => simp
 | cons x xs ih =>
  cases p with
  | zero => simp
  | succ p =>
   have hx := h x (by simp)
   rw [List.flatMap_cons, Nat.add_mul, Nat.one_mul, Nat.add_comm, ← hx, List.take_length_add_append, hx, ih (fun y hy => h y (by simp [hy])), List.take_succ_cons, List.flatMap_cons]
theorem rows_at {i : Nat} {x : α} (hi : xs[i]? = some x) (j : Nat) (v : Value) (hj : (g x)[j]? = some v) : (xs.flatMap g)[i * n + j]? = some v := by
 rw [← List.getElem?_drop, rows_drop h]
 have : xs.drop i = x :: xs.drop (i + 1) := by
  have hlt := (List.getElem?_eq_some_iff.1 hi).1
  rw [List.drop_eq_getElem_cons hlt]
  rw [List.getElem?_eq_getElem hlt, Option.some.injEq] at hi
  rw [hi]
 rw [this, List.flatMap_cons, List.getElem?_append_left (List.getElem?_eq_some_iff.1 hj).1]
 exact hj
theorem rows_splice {i : Nat} {x : α} (hi : i < xs.length) (hx : (g x).length = n) : splice (xs.flatMap g) (i * n) (g x) = (xs.set i x).flatMap g := by
 unfold splice
 rw [hx, rows_take h, show i * n + n = (i + 1) * n by rw [Nat.add_mul, Nat.one_mul], rows_drop h, List.set_eq_take_append_cons_drop, if_pos hi, List.flatMap_append, List.flatMap_cons, List.append_assoc]
end
theorem rows_one {α : Type} {g : α → List Value} {xs : List α} (h : ∀ x ∈ xs, ∀ v ∈ g x, v.oneCell' = true) : ∀ v ∈ xs.flatMap g, v.oneCell' = true := fun v hv => by
 obtain ⟨x, hx, hv⟩ := List.mem_flatMap.1 hv
 exact h x hx v hv
section
variable {α : Type} {cells : α → List Value} {Hd : World → α → Prop} {bulk : α → Nat} {Small : α → Prop}
theorem bulkAll_le {H : Type} : ∀ (l : List α) (ys : List (DataW H)), ys.length = l.length → (∀ (i : Nat) (a : α) (y : DataW H), l[i]? = some a → ys[i]? = some y → bulk a ≤ Rows.uptoBulk y) → (l.map bulk).sum ≤ Rows.uptoBulkAll ys
 | [], _, _, _ => Nat.zero_le _
 | a :: l, [], h, _ => by cases h
 | a :: l, y :: ys, h, hh => by
  have h1 := hh 0 a y rfl rfl
  have h2 := bulkAll_le l ys (by simpa using h) fun i a y ha hy => hh (i + 1) a y ha hy
  simp only [List.map_cons, List.sum_cons, Rows.uptoBulkAll]; omega
theorem weights_mem_all {H : Type} {e : TypeId} : ∀ {ds : List (DataW H)} {d : DataW H}, d ∈ ds → ∀ m ∈ DataW.weights P e d, m ∈ DataW.weightsAll P e ds
 | d0 :: ds, d, hd, m, hm => by
  simp only [DataW.weightsAll, List.mem_append]
  rcases List.mem_cons.1 hd with rfl | hd
  ·exact .inl hm
  ·exact .inr (weights_mem_all hd m hm)
theorem Reads.slice {t e sz by_ : Nat} (ht : slB P t e sz by_ = true) (hc : P.cellsOf e = sz) (hb : P.bytesOf e = by_) (hsz : ∀ a, (cells a).length = sz ∨ True) (r : Reads P e cells Hd bulk Small) :
  Reads P t (fun s : Sl α => [.slice s.b s.xs.length s.c]) (fun W s => s.xs.length ≤ s.c ∧ s.c ≤ maxLen ∧ Row W s.b (s.xs.flatMap cells) ∧ (∀ x ∈ s.xs, Hd W x ∧ (cells x).length = sz)) (fun s => (s.xs.map bulk).sum + 1) (fun s => s.xs.length * by_ ≤ reachBytes ∧ ∀ x ∈ s.xs, Small x) := fun H enc W hd fuel cs x h => by
 rcases DataW.trod_slice (slB_spec ht).1 h with ⟨e1, e2⟩ | ⟨a, len, cap, elems, rest, n, _, e1, hx, _, hlc, hcm, hlen, hel, _, _⟩
 ·exact ⟨⟨none, 0, []⟩, e1, ⟨Nat.le_refl _, Nat.zero_le _, Row.nil, fun _ h => by cases h⟩, bulk_one _, fun _ => ⟨by simp, fun _ h => by cases h⟩⟩
 ·obtain ⟨l, hl, hp⟩ := list_choice' (Q := fun i (p : α) => ∃ y, elems[i]? = some y ∧ (cells p).length = sz ∧ (∀ (j : Nat) (v : Value), (cells p)[j]? = some v → W.cell? ((a.add (i * sz)).add j) = some v) ∧ Hd W p ∧ bulk p ≤ Rows.uptoBulk y.1 ∧ ((∀ m ∈ DataW.weights P e y.1, m ≤ reachBytes) → Small p)) len fun i hi => by
   have h1 := hel i hi
   rw [hc, List.getElem?_eq_getElem (by omega)] at h1
   obtain ⟨us, hus, htr⟩ := Option.bind_eq_some_iff.1 h1
   obtain ⟨_, hl1, hc1⟩ := World.cells?_some hus
   obtain ⟨p, q1, q2, q3, q4⟩ := r H enc W hd n us _ htr
   refine ⟨p, _, List.getElem?_eq_getElem (by omega), by rw [← q1]; exact hl1, fun j v hv => ?_, q2, q3, q4⟩
   rw [← q1] at hv
   have hj := (List.getElem?_eq_some_iff.1 hv).1
   have := hc1 j (by omega)
   rw [this, ← hv]
  have hx9 := hx
  have hlen2 : ∀ x ∈ l, (cells x).length = sz := fun x hx => by
   obtain ⟨i, hi, e⟩ := List.mem_iff_getElem.1 hx
   obtain ⟨y, _, h2, _⟩ := hp i x (by rw [List.getElem?_eq_getElem hi, e])
   exact h2
  refine ⟨⟨some a, cap, l⟩, by rw [e1]; show _ = [Value.slice (some a) l.length cap]; rw [hl], ⟨by show l.length ≤ cap; omega, hcm, fun j v hv => ⟨a, rfl, ?_⟩, fun x hx => ?_⟩, ?_, fun hm => ⟨?_, fun x hx => ?_⟩⟩
  ·have hj := (List.getElem?_eq_some_iff.1 hv).1
   have hv : (l.flatMap cells)[j]? = some v := hv
   have hj : j < (l.flatMap cells).length := hj
   rw [rows_length hlen2] at hj
   have hs0 : 0 < sz := Nat.pos_of_ne_zero fun e => by subst e; simp at hj
   have hi : j / sz < l.length := by rw [Nat.div_lt_iff_lt_mul hs0]; exact hj
   obtain ⟨y, _, h2, h3, _⟩ := hp (j / sz) _ (List.getElem?_eq_getElem hi)
   have hm2 : j % sz < (cells l[j / sz]).length := by rw [h2]; exact Nat.mod_lt _ hs0
   have h4 := rows_at hlen2 (List.getElem?_eq_getElem hi) (j % sz) _ (List.getElem?_eq_getElem hm2)
   have e : j / sz * sz + j % sz = j := by rw [Nat.mul_comm]; exact Nat.div_add_mod j sz
   rw [e, hv] at h4
   have h5 := h3 (j % sz) _ (List.getElem?_eq_getElem hm2)
   have e5 : (a.add (j / sz * sz)).add (j % sz) = a.add j := by
    have : (a.add (j / sz * sz)).add (j % sz) = a.add (j / sz * sz + j % sz) := by
     unfold Addr.add
     by_cases h1 : j / sz * sz = 0 <;> by_cases h2 : j % sz = 0 <;> simp [h1, h2, Nat.add_assoc]
    rw [this, e]
   rw [e5] at h5
   rw [h5, h4]
  ·obtain ⟨i, hi, e⟩ := List.mem_iff_getElem.1 hx
   obtain ⟨y, _, _, _, h4, _⟩ := hp i x (by rw [List.getElem?_eq_getElem hi, e])
   exact ⟨h4, hlen2 x hx⟩
  ·rw [hx]
   simp only [Rows.uptoBulk]
   have := bulkAll_le (bulk := bulk) l (elems.map (·.1)) (by simp [hlen, hl]) fun i p y hpi hy => by
    obtain ⟨y2, h1, _, _, _, h5, _⟩ := hp i p hpi
    rw [List.getElem?_map, h1] at hy
    obtain rfl := Option.some.inj hy
    exact h5
   show (l.map bulk).sum + 1 ≤ _
   omega
  ·have := hm ((elems.length + rest.length) * by_) (by rw [hx]; simp [DataW.weights, (slB_spec ht).1, hb])
   have h2 : l.length * by_ ≤ (elems.length + rest.length) * by_ := Nat.mul_le_mul_right _ (by omega)
   show l.length * by_ ≤ _
   omega
  ·obtain ⟨i, hi, e⟩ := List.mem_iff_getElem.1 hx
   obtain ⟨y, h1, _, _, _, _, h6⟩ := hp i x (by rw [List.getElem?_eq_getElem hi, e])
   refine h6 fun m hm2 => hm m ?_
   rw [hx9]
   simp only [DataW.weights, (slB_spec ht).1, List.mem_cons, List.mem_append]
   exact .inr (.inl (weights_mem_all (List.mem_map.2 ⟨y, List.mem_of_getElem? h1, rfl⟩) m hm2))
theorem Reads.as {t : TypeId} {β : Type} {cells' : β → List Value} {Hd' : World → β → Prop} {bulk' : β → Nat} {Small' : β → Prop} (f : α → β) (r : Reads P t cells Hd bulk Small) (h1 : ∀ a, cells a = cells' (f a)) (h2 : ∀ W a, Hd W a → Hd' W (f a)) (h3 : ∀ a, bulk' (f a) ≤ bulk a) (h4 : ∀ a, Small a → Small' (f a)) : Reads P t cells' Hd' bulk' Small' := fun H enc W hd fuel cs x h => by
 obtain ⟨a, e1, e2, e3, e4⟩ := r H enc W hd fuel cs x h
 exact ⟨f a, by rw [e1, h1], h2 W a e2, Nat.le_trans (h3 a) e3, fun hm => h4 a (e4 hm)⟩
end
/-! ### Arrays of whole numbers -/
theorem Reads.ints {t e n : Nat} {k : IntKind} (ht : P.underlying t = some (.array n e)) (he : P.underlying e = some (.int k)) (hc : P.cellsOf e = 1) (hct : P.cellsOf t = n) : Reads P t (fun zs : List Int => Go.Proofs.YtfhjhaogmdaepaaGreatDoor.ints k zs) (fun _ zs => zs.length = n ∧ ∀ z ∈ zs, fits k z) (fun _ => 1) (fun _ => True) := fun H enc W hd fuel cs x h => by
 obtain ⟨zs, e1, e2, e3, e4⟩ := open_intArr ht he hc hct h
 exact ⟨zs, e1, ⟨e2, fun z hz => fits_of_wf (e4 z hz)⟩, bulk_one _, fun _ => trivial⟩
/-! ### Structs -/
/-- A struct's fields: type, place, size. -/
def fsB (P : Program) (t : TypeId) (ds : List (Nat × Nat × Nat)) : Bool := match P.underlying t with
 | some (.struct fs) => fs.toList.map (fun f => (f.type, f.offset, P.cellsOf f.type)) == ds
 | _ => false
def ReadsF (P : Program) (ds : List (Nat × Nat × Nat)) (o tot : Nat) {α : Type} (cells : α → List Value) (Hd : World → α → Prop) (bulk : α → Nat) (Small : α → Prop) : Prop :=
 ∀ (H : Type) (enc : TypeId × Value → H) (W : World) (hd : Bool) (n : Nat) (cs : List Value) (xs : List (DataW H × List MemPlace)), cs.length = tot → xs.length = ds.length →
  (∀ (i : Nat) (d : Nat × Nat × Nat), ds[i]? = some d → DataW.trod enc P W 0 (fun _ => true) hd n d.1 ((cs.drop d.2.1).take d.2.2) = xs[i]?) →
  ∃ a, cs.drop o = cells a ∧ Hd W a ∧ bulk a ≤ Rows.uptoBulkAll (xs.map (·.1)) ∧ ((∀ m ∈ DataW.weightsEach P (ds.map (·.1)) (xs.map (·.1)), m ≤ reachBytes) → Small a)
theorem ReadsF.nil {tot : Nat} : ReadsF P [] tot tot (fun _ : Unit => []) (fun _ _ => True) (fun _ => 0) (fun _ => True) := fun H enc W hd n cs xs h1 h2 h3 =>
 ⟨(), List.drop_eq_nil_of_le (by omega), trivial, Nat.zero_le _, fun _ => trivial⟩
section
variable {α β : Type} {ca : α → List Value} {Ha : World → α → Prop} {ba : α → Nat} {Sa : α → Prop} {cb : β → List Value} {Hb : World → β → Prop} {bb : β → Nat} {Sb : β → Prop}
theorem ReadsF.cons {t o s tot : Nat} {ds : List (Nat × Nat × Nat)} (r : Reads P t ca Ha ba Sa) (rs : ReadsF P ds (o + s) tot cb Hb bb Sb) :
  ReadsF P ((t, o, s) :: ds) o tot (fun x : α × β => ca x.1 ++ cb x.2) (fun W x => (Ha W x.1 ∧ (ca x.1).length ≤ s) ∧ Hb W x.2) (fun x => ba x.1 + bb x.2) (fun x => Sa x.1 ∧ Sb x.2) := fun H enc W hd n cs xs h1 h2 h3 => by
 cases xs with
 | nil => cases h2
 | cons x xs =>
  have h0 := h3 0 _ rfl
  obtain ⟨a, e1, e2, e3, e4⟩ := r H enc W hd n _ x h0
  obtain ⟨b, f1, f2, f3, f4⟩ := rs H enc W hd n cs xs h1 (by simpa using h2) fun i d hd => h3 (i + 1) d hd
  refine ⟨(a, b), ?_, ⟨⟨e2, by rw [← e1, List.length_take]; exact Nat.min_le_left _ _⟩, f2⟩, ?_, fun hm => ⟨e4 fun m hm2 => hm m ?_, f4 fun m hm2 => hm m ?_⟩⟩
  ·show cs.drop o = ca a ++ cb b
   have e1 : (cs.drop o).take s = ca a := e1
   rw [← e1, ← f1, ← List.drop_drop, List.take_append_drop]
  ·simp only [List.map_cons, Rows.uptoBulkAll]; omega
  ·simp only [List.map_cons, DataW.weightsEach, List.mem_append]; exact .inl hm2
  ·simp only [List.map_cons, DataW.weightsEach, List.mem_append]; exact .inr hm2
theorem Reads.struct {t tot : Nat} {ds : List (Nat × Nat × Nat)} (ht : fsB P t ds = true) (hc : P.cellsOf t = tot) (rs : ReadsF P ds 0 tot ca Ha ba Sa) : Reads P t ca (fun W a => Ha W a ∧ (ca a).length = tot) (fun a => ba a + 1) Sa := fun H enc W hd fuel cs x h => by
 unfold fsB at ht
 split at ht
 ·rename_i fs hfs
  have hds : fs.toList.map (fun f => (f.type, f.offset, P.cellsOf f.type)) = ds := by simpa using ht
  obtain ⟨xs, n, _, hx, hl, hxl, hel⟩ := DataW.trod_struct hfs h
  obtain ⟨a, e1, e2, e3, e4⟩ := rs H enc W hd n cs xs (by rw [hl, hc]) (by rw [← hds, List.length_map, hxl]; simp) fun i d hd2 => by
   rw [← hds, List.getElem?_map] at hd2
   obtain ⟨f, hf, rfl⟩ := Option.map_eq_some_iff.1 hd2
   exact hel i f (by simpa using hf)
  rw [List.drop_zero] at e1
  refine ⟨a, e1, ⟨e2, by rw [← e1, hl, hc]⟩, ?_, fun hm => e4 fun m hm2 => hm m ?_⟩
  ·rw [hx]; simp only [Rows.uptoBulk]; omega
  ·rw [hx]
   simp only [DataW.weights, hfs]
   have : fs.toList.map (·.type) = ds.map (·.1) := by rw [← hds, List.map_map]; rfl
   rw [this]; exact hm2
 ·cases ht
end
/-! ### Arguments -/
section
variable {α : Type} {cells : α → List Value} {Hd : World → α → Prop} {bulk : α → Nat} {Small : α → Prop} {H : Type} {enc : TypeId × Value → H} {W : World} {hd : Bool} {base : Nat} {rr : Reach}
theorem Reads.arg {t : TypeId} {v : Value} {d : DataW H} {ps : List MemPlace} (r : Reads P t cells Hd bulk Small) (h : DataW.Trod enc P W 0 (fun _ => true) hd t v d ps) :
  ∃ a, v.cells.toList = cells a ∧ Hd W a ∧ bulk a ≤ Rows.uptoBulk d ∧ ∀ (ts : List TypeId) (ds : List (DataW H)) (j : Nat), (DataW.weightsEach P ts ds).all (· ≤ reachBytes) = true → ts[j]? = some t → ds[j]? = some d → Small a := by
 obtain ⟨fuel, hf⟩ := h
 obtain ⟨a, e1, e2, e3, e4⟩ := r H enc W hd fuel _ _ hf
 exact ⟨a, e1, e2, e3, fun ts ds j hall ht hd' => e4 fun m hm => of_decide_eq_true (List.all_eq_true.1 hall _ (DataW.weights_mem_each ht hd' m hm))⟩
theorem Reads.argStruct {t : TypeId} {fs : Array Field} {v : Value} {d : DataW H} {ps : List MemPlace} (r : Reads P t cells Hd bulk Small) (ht : P.underlying t = some (.struct fs)) (hv : Value.okWide P W rr base t v) (h : DataW.Trod enc P W 0 (fun _ => true) hd t v d ps) :
  ∃ a, v = .agg (cells a).toArray ∧ Hd W a ∧ bulk a ≤ Rows.uptoBulk d ∧ ∀ (ts : List TypeId) (ds : List (DataW H)) (j : Nat), (DataW.weightsEach P ts ds).all (· ≤ reachBytes) = true → ts[j]? = some t → ds[j]? = some d → Small a := by
 obtain ⟨arr, rfl, _⟩ := okWide_struct ht hv
 obtain ⟨a, e1, e2⟩ := r.arg h
 have e1 : arr.toList = cells a := e1
 exact ⟨a, by rw [← e1], e2⟩
end
end
end Go.Proofs.YtfhjhaogmdaepaaGreatDoor

/- The twentieth part of the program logic: rows of records of whatever make. -/
set_option linter.unusedVariables false
set_option linter.unusedSimpArgs false
set_option linter.unusedSectionVars false
namespace Go.Proofs.YtfhjhaogmdaepaaGreatDoor
open Go Go.RowKit
/-- A record that lies in n cells. -/
class Rec (α : Type) where
 cells : α → List Value
 n : Nat
 len : ∀ x, (cells x).length = n
 one : ∀ x, ∀ v ∈ cells x, v.oneCell' = true
/-- The cells of a row of records. -/
def rc {α : Type} [Rec α] (l : List α) : List Value := l.flatMap Rec.cells
section
variable {α : Type} [Rec α]
theorem rc_len (l : List α) : ∀ x ∈ l, (Rec.cells x).length = Rec.n α := fun x _ => Rec.len x
theorem rc_length (l : List α) : (rc l).length = l.length * Rec.n α := rows_length (rc_len l)
theorem rc_append (l k : List α) : rc (l ++ k) = rc l ++ rc k := by simp [rc]
theorem rc_one (l : List α) : ∀ v ∈ rc l, v.oneCell' = true := rows_one fun x _ => Rec.one x
theorem rc_at {l : List α} {i j : Nat} {x : α} {v : Value} (h : l[i]? = some x) (hv : (Rec.cells x)[j]? = some v) : (rc l)[i * Rec.n α + j]? = some v := rows_at (rc_len l) h j v hv
theorem rc_take (l : List α) (p : Nat) : (rc l).take (p * Rec.n α) = rc (l.take p) := rows_take (rc_len l) p
theorem rc_splice {l : List α} {i : Nat} (x : α) (h : i < l.length) : splice (rc l) (i * Rec.n α) (Rec.cells x) = rc (l.set i x) := rows_splice (rc_len l) h (Rec.len x)
section
variable {C : Cx} {F : Fx} {rs : List HP}
/-- A record of a row that was there is read. -/
theorem rds_rc {b j i : Nat} {l : List α} {x : α} (h : Rds C F rs ⟨b, j, none⟩ (rc l)) (hx : l[i]? = some x) : Rds C F rs ⟨b, j + i * Rec.n α, none⟩ (Rec.cells x) := h.part (i * Rec.n α) fun m v hv => rc_at hx hv
theorem rd_rc {b j i k : Nat} {l : List α} {x : α} {v : Value} (h : Rds C F rs ⟨b, j, none⟩ (rc l)) (hx : l[i]? = some x) (hv : (Rec.cells x)[k]? = some v) : Rd C F rs ⟨b, j + i * Rec.n α + k, none⟩ v := by
 have := h.at_ (rc_at hx hv)
 rwa [← Nat.add_assoc] at this
theorem rds_own {T sz n c b : Nat} {l : List α} (m : Has rs (ownS T sz (.slice (some ⟨b, 0, none⟩) n c) n (rc l)) (ownS T sz (.slice (some ⟨b, 0, none⟩) n c) n (rc l)) rs) : Rds C F rs ⟨b, 0, none⟩ (rc l) := by
 have h := Rds.sn (C := C) (F := F) (k := 0) (us := rc l) (Sn.own m rfl) fun i v hv => by rw [Nat.zero_add]; exact hv
 exact h
end
end
end Go.Proofs.YtfhjhaogmdaepaaGreatDoor

/- Go's library's sort by a comparison, over records: the kit's contracts as rules of this logic. -/
set_option linter.unusedVariables false
set_option linter.unusedSimpArgs false
set_option linter.unusedSectionVars false
namespace Go.Proofs.YtfhjhaogmdaepaaGreatDoor
open Go Go.RowKit Go.Sort Go.Shelf
section
variable {α : Type} [Rec α] [Inhabited α]
theorem flatK_rc (d : Array α) : flatK Rec.cells (Rec.n α) d = (rc d.toList).toArray := by
 refine ext_get! (by simp [rc_length]) fun t ht => ?_
 have ht' : t < d.size * Rec.n α := by simpa using ht
 have hn : 0 < Rec.n α := by
  rcases Nat.eq_zero_or_pos (Rec.n α) with h | h
  ·rw [h, Nat.mul_zero] at ht'; omega
  ·exact h
 rw [get_flatK _ _ _ t ht']
 have hi : t / Rec.n α < d.size := (Nat.div_lt_iff_lt_mul hn).2 ht'
 have hx : d.toList[t / Rec.n α]? = some d[t / Rec.n α]! := by
  rw [Array.getElem?_toList, Array.getElem?_eq_getElem hi, getElem!_pos d _ hi]
 have hj : t % Rec.n α < (Rec.cells d[t / Rec.n α]!).length := by rw [Rec.len]; exact Nat.mod_lt _ hn
 have := rc_at hx (List.getElem?_eq_getElem hj)
 rw [Nat.div_add_mod'] at this
 have ht2 : t < (rc d.toList).toArray.size := by simp [rc_length]; exact ht'
 rw [getElem!_pos (Rec.cells d[t / Rec.n α]!) (t % Rec.n α) hj, getElem!_pos (rc d.toList).toArray t ht2]
 have h3 := (List.getElem?_eq_some_iff.1 this).2
 simp only [List.getElem_toArray]
 exact h3.symm
theorem rc_size (d : Array α) : (rc d.toList).length = d.size * Rec.n α := by rw [rc_length]; simp
end
section
variable {α : Type} [Rec α] [Inhabited α] {C : Cx}
theorem onCells_of {f : Array Value → Array Value} {c : Array Value} {T : TypeId} {fr : Nat × Nat} : onCells f (.cells c T fr) = .cells (f c) T fr := rfl
theorem putCells_left (F c : Array Value) (junk : List Value) (h : F.size = c.size) : putCells id 0 F (c.toList ++ junk).toArray = (F.toList ++ junk).toArray := by
 refine Array.ext (by simp [putCells]; omega) fun i h1 h2 => ?_
 simp only [putCells, List.size_toArray, List.length_append, Array.length_toList, Array.size_mapIdx] at h1 h2
 simp only [putCells, Array.getElem_mapIdx, List.getElem_toArray]
 by_cases hi : i < F.size
 ·rw [if_pos ⟨Nat.zero_le _, by omega⟩, List.getElem_append_left (by simpa using hi)]
  simp only [Nat.sub_zero, id, Array.getElem_toList]
  exact getElem!_pos F i hi
 ·rw [if_neg (by omega), List.getElem_append_right (by simp; omega), List.getElem_append_right (by simp; omega)]
  simp only [Array.length_toList, h]
theorem heap_sorted {w : World} {b T m : Nat} {d d' : Array α} {junk : List Value} {fr : Nat × Nat} {os : Array Obj} (hg : w.heap[b]? = some (.cells (rc d.toList ++ junk).toArray T fr)) (hs : d'.size = d.size) (i : Nat) (hi : i < w.heap.size) :
  (sortWorldK Rec.cells (Rec.n α) w b 0 m d' os).heap[i]? = if b = i then some (.cells (rc d'.toList ++ junk).toArray T fr) else w.heap[i]? := by
 show ((w.heap.modify b (onCells (putCells id 0 (flatK Rec.cells (Rec.n α) d')))) ++ os)[i]? = _
 rw [Array.getElem?_append_left (by simpa using hi), Array.getElem?_modify]
 split
 ·rename_i e
  subst e
  rw [hg]
  show some (onCells _ _) = _
  rw [onCells_of]
  have := putCells_left (flatK Rec.cells (Rec.n α) d') (rc d.toList).toArray junk (by rw [flatK_rc]; simp [rc_length, hs])
  simp only [List.toList_toArray] at this
  rw [this, flatK_rc]
 ·rfl
/-- A slice of the call's own, whose cells are d, in the words of the kit. -/
theorem own_sorted {w : World} {h : Heap} {T cap b : Nat} {d : Array α} (hs : ownS T (Rec.n α) (.slice (some ⟨b, 0, none⟩) d.size cap) d.size (rc d.toList) h) (hn : 0 < d.size) (sub : Sub C w h) :
  b < w.heap.size ∧ C.ng ≤ b ∧ HoldsK Rec.cells (Rec.n α) w b 0 d ∧ (∀ m (d' : Array α) os, d'.size = d.size → C.ok (sortWorldK Rec.cells (Rec.n α) w b 0 m d' os)) ∧
  ∀ m (d' : Array α) os, d'.size = d.size → ∃ h', ownS T (Rec.n α) (.slice (some ⟨b, 0, none⟩) d.size cap) d.size (rc d'.toList) h' ∧ Move C w h (sortWorldK Rec.cells (Rec.n α) w b 0 m d' os) h' := by
 have hl := hs.1
 rcases hs.2 with ⟨_, h0, _⟩ | ⟨b', cap', junk, e, hc, hm, hl2, fr, hf, rfl⟩
 ·omega
 ·simp only [Value.slice.injEq, Option.some.injEq, Addr.mk.injEq] at e
  obtain ⟨⟨rfl, _⟩, _, rfl⟩ := e
  have hg := sub.sub b _ (Heap.one_same _ _)
  have hlt := lt_of_some hg
  have hng := sub.low b _ (Heap.one_same _ _)
  have hok : ∀ m (d' : Array α) os, d'.size = d.size → C.ok (sortWorldK Rec.cells (Rec.n α) w b 0 m d' os) := fun m d' os hd i hi => by
   rw [heap_sorted hg hd i (by omega), if_neg (by omega)]; exact sub.ok i hi
  refine ⟨hlt, hng, ?_, hok, fun m d' os hd => ?_⟩
  ·intro j hj
   rw [flatK_rc] at hj ⊢
   simp only [List.size_toArray] at hj
   constructor
   ·simp only [World.cell?, hg, Nat.zero_add]
    simp only [getElem!_def, List.getElem?_toArray]
    rw [List.getElem?_append_left hj, List.getElem?_eq_getElem hj]; rfl
   ·simp only [World.frozen?, hg, Nat.zero_add]
    simp only [Bool.and_eq_false_iff, decide_eq_false_iff_not]
    rw [List.length_append] at hf
    omega
  ·have hlen : (rc d'.toList).length = (rc d.toList).length := by rw [rc_size, rc_size, hd]
   refine ⟨Heap.one b (.cells (rc d'.toList ++ junk).toArray T fr), ⟨by rw [hlen]; exact hl, .inr ⟨b, cap, junk, rfl, hc, hm, by rw [List.length_append, hlen, ← List.length_append]; exact hl2, fr, by rw [List.length_append, hlen, ← List.length_append]; exact hf, rfl⟩⟩, ⟨rfl, rfl, rfl, Nat.le_add_right _ _, ?_, ?_, ?_, ?_, ?_, hok m d' os hd⟩⟩
   ·show w.heap.size ≤ (w.heap.modify b _ ++ os).size
    simp
   ·intro i hi h0
    rw [heap_sorted hg hd i hi, if_neg (fun e => by subst e; rw [Heap.one_same] at h0; cases h0)]
   ·intro i o ho
    obtain ⟨rfl, rfl⟩ := Heap.one_some ho
    rw [heap_sorted hg hd i hlt, if_pos rfl]
   ·intro i o ho
    obtain ⟨rfl, rfl⟩ := Heap.one_some ho
    exact hng
   ·intro i o ho hi
    obtain ⟨rfl, rfl⟩ := Heap.one_some ho
    rw [Heap.one_same]; simp
/-- What has grown by a call that keeps all there was. -/
theorem grown_of_move {W W' : World} {h : Heap} (m : Move C W Heap.none W' h) : ∃ q os, W' = grow (W.drewN q) os := by
 refine ⟨W'.drawn - W.drawn, W'.heap.extract W.heap.size W'.heap.size, ?_⟩
 have hh : W'.heap = W.heap ++ W'.heap.extract W.heap.size W'.heap.size := by
  refine Array.ext_getElem? fun i => ?_
  rcases Nat.lt_or_ge i W.heap.size with hi | hi
  ·rw [Array.getElem?_append_left hi]; exact m.keep i hi rfl
  ·rw [Array.getElem?_append_right hi, Array.getElem?_extract]
   split
   ·congr 1; omega
   ·rw [Array.getElem?_eq_none (by omega)]
 have hd := m.drawn
 obtain ⟨heap, tape, drawn, os, output⟩ := W'
 obtain ⟨heap0, tape0, drawn0, os0, output0⟩ := W
 have h1 : tape = tape0 := m.tape
 have h2 : os = os0 := m.os
 have h3 : output = output0 := m.output
 simp only at hd hh
 subst h1 h2 h3
 simp only [grow, World.drewN, World.mk.injEq, and_true, true_and]
 exact ⟨hh, by omega⟩
theorem cmpLays_of {g : Nat} {cf : α → α → Int} (hs : ∀ x y : α, SpecV C g [.agg (Rec.cells x).toArray, .agg (Rec.cells y).toArray] noPre (.int .i64 (cf x y))) {w : World} {b n : Nat}
  (hok : ∀ m (d' : Array α) os, d'.size = n → C.ok (sortWorldK Rec.cells (Rec.n α) w b 0 m d' os)) : CmpLays C.P g #[] Rec.cells (Rec.n α) cf b 0 n w := fun m os dk hdk x y => by
 have h1 := hs x y (sortWorldK Rec.cells (Rec.n α) w b 0 m dk os) Heap.none rfl ⟨(fun i o h => by cases h), (fun i o h => by cases h), hok m dk os hdk⟩ trivial
 refine h1.mono ?_
 rintro e w' ⟨v, rs, h', rfl, ⟨rfl, rfl⟩, _, mv⟩
 exact ⟨rfl, grown_of_move mv⟩
end
section
variable {α : Type} [Rec α] [Inhabited α] {C : Cx} {ρ : Ren} {g : Nat} {cf : α → α → Int}
/-- slices.SortFunc. -/
theorem sortFunc_of (L : SlLaysF0.n6 C.P ρ) (aE : ∀ w, (isAgg (ρ.t 24)).run C.P w = .ok true w) (zE : ∀ w, (Go.sizeOf (ρ.t 24)).run C.P w = .ok (Rec.n α) w) (hg : callable C.P g = true) (hO : SWO (ltOf cf))
  (hs : ∀ x y : α, SpecV C g [.agg (Rec.cells x).toArray, .agg (Rec.cells y).toArray] noPre (.int .i64 (cf x y))) (T : Nat) (base : Option Addr) (cap : Nat) (d : Array α) (hsz : d.size < 4611686018427387904) :
  Spec C (ρ.f 6) [.slice base d.size cap, .func (.func g) #[] #[]] (fun _ _ => True) [ownS T (Rec.n α) (.slice base d.size cap) d.size (rc d.toList)]
   (fun u rs => u = .tuple #[] ∧ ∃ d' : Array α, PermIn 0 d.size d d' ∧ SortedIn (ltOf cf) 0 d.size d' ∧ rs = [ownS T (Rec.n α) (.slice base d.size cap) d.size (rc d'.toList)]) := by
 intro w h hsep sub _
 rcases Nat.eq_zero_or_pos d.size with h0 | hpos
 ·have hc := AnyF.slices_SortFunc_none L base cap (.func (.func g) #[] #[]) w
  rw [h0] at hsep ⊢
  refine hc.mono ?_
  rintro e w' ⟨rfl, rfl⟩
  exact ⟨_, _, h, rfl, ⟨rfl, d, permIn_refl _ _ _, sorted_one (by omega), rfl⟩, hsep, Move.start sub⟩
 ·obtain hown := Sep.single.1 hsep
  obtain ⟨b, rfl⟩ : ∃ b, base = some ⟨b, 0, none⟩ := by
   rcases hown.2 with ⟨_, h0, _⟩ | ⟨b', cap', junk, e, _⟩
   ·omega
   ·simp only [Value.slice.injEq] at e; exact ⟨b', e.1⟩
  obtain ⟨hlt, hng, hH, hok, hmv⟩ := own_sorted hown hpos sub
  have hc := AnyQ.slices_SortFunc L (Rec.n α) aE zE Rec.cells Rec.len Rec.one cf hO g #[] b 0 cap d w (fun args w => run_call hg args w) (cmpLays_of hs hok) hH hlt hsz
  refine hc.mono ?_
  rintro e w' ⟨rfl, d', n, os, hp, hsd, rfl⟩
  obtain ⟨h', ho', hm'⟩ := hmv n d' os hp.1
  exact ⟨_, _, h', rfl, ⟨rfl, d', hp, hsd, rfl⟩, Sep.single.2 ho', hm'⟩
/-- slices.insertionSortCmpFunc. -/
theorem insertion_of (L : SlLaysF0.n20 C.P ρ) (aE : ∀ w, (isAgg (ρ.t 24)).run C.P w = .ok true w) (zE : ∀ w, (Go.sizeOf (ρ.t 24)).run C.P w = .ok (Rec.n α) w) (hg : callable C.P g = true) (hO : SWO (ltOf cf))
  (hs : ∀ x y : α, SpecV C g [.agg (Rec.cells x).toArray, .agg (Rec.cells y).toArray] noPre (.int .i64 (cf x y))) (T : Nat) (base : Option Addr) (cap : Nat) (d : Array α) (a b : Nat) (hab : a ≤ b) (hb : b ≤ d.size) (hsz : d.size < 4611686018427387904) :
  Spec C (ρ.f 20) [.slice base d.size cap, .int .i64 a, .int .i64 b, .func (.func g) #[] #[]] (fun _ _ => True) [ownS T (Rec.n α) (.slice base d.size cap) d.size (rc d.toList)]
   (fun u rs => u = .tuple #[] ∧ ∃ d' : Array α, PermIn a b d d' ∧ SortedIn (ltOf cf) a b d' ∧ rs = [ownS T (Rec.n α) (.slice base d.size cap) d.size (rc d'.toList)]) := by
 intro w h hsep sub _
 rcases Nat.eq_zero_or_pos d.size with h0 | hpos
 ·obtain rfl : b = 0 := by omega
  obtain rfl : a = 0 := by omega
  have hc := AnyF.insertionSortCmpFunc_none L base cap (.func (.func g) #[] #[]) w
  rw [h0] at hsep ⊢
  refine hc.mono ?_
  rintro e w' ⟨rfl, rfl⟩
  exact ⟨_, _, h, rfl, ⟨rfl, d, permIn_refl _ _ _, sorted_one (by omega), rfl⟩, hsep, Move.start sub⟩
 ·obtain hown := Sep.single.1 hsep
  obtain ⟨b', rfl⟩ : ∃ b, base = some ⟨b, 0, none⟩ := by
   rcases hown.2 with ⟨_, h0, _⟩ | ⟨b', cap', junk, e, _⟩
   ·omega
   ·simp only [Value.slice.injEq] at e; exact ⟨b', e.1⟩
  obtain ⟨hlt, hng, hH, hok, hmv⟩ := own_sorted hown hpos sub
  have hc := AnyQ.insertionSortCmpFunc L (Rec.n α) aE zE Rec.cells Rec.len Rec.one cf g #[] b' 0 cap a b d w (fun args w => run_call hg args w) (cmpLays_of hs hok) hH hlt hab hb hsz
  refine hc.mono ?_
  rintro e w' ⟨rfl, n, os, rfl⟩
  have hi := insertionSort_holds (lt := ltOf cf) hO d a b hab hb
  obtain ⟨h', ho', hm'⟩ := hmv n _ os hi.1.1
  exact ⟨_, _, h', rfl, ⟨rfl, _, hi.1, hi.2, rfl⟩, Sep.single.2 ho', hm'⟩
end
end Go.Proofs.YtfhjhaogmdaepaaGreatDoor

/- The fourteenth part of the program logic: comparisons with nil, of structs, min and max, empty literals. -/
set_option linter.unusedVariables false
set_option linter.unusedSimpArgs false
namespace Go.Proofs.YtfhjhaogmdaepaaGreatDoor
open Go Go.RowKit
section
variable {P : Program} {w : World} {t : Nat}
theorem run_equalIn_slice (d : Nat) {e n c : Nat} {b : Option Addr} (h1 : P.underlying t = some (.slice e)) : (Op.equalIn (d + 1) t (.slice b n c) (.slice none 0 0)).run P w = .ok b.isNone w := by
 simp only [Op.equalIn, Sem.run_bind, run_underlying h1, Result.andThen_ok]
 cases b <;> simp
theorem run_equalIn_bool' (d : Nat) {a b : Bool} (ht : P.underlying t = some .bool) : (Op.equalIn (d + 1) t (.bool a) (.bool b)).run P w = .ok (a == b) w := by
 simp only [Op.equalIn, Sem.run_bind, run_underlying ht, Result.andThen_ok, Sem.run_pure]
end
section
variable {C : Cx} {F : Fx} {l : Env} {rs rs' : List HP} {K : Act → World → Prop} {o : Oper} {Q : Exit → Act → World → Prop} {d : Nat}
theorem P_eql_slice {t t' e sz by_ n c : Nat} {x y : Operand} {b : Option Addr} (ho : o.op = .binOp .eql t x y t') (ht : slB C.P t e sz by_ = true) (hx : ev l x = some (.slice b n c)) (hy : ev l y = some (.slice none 0 0)) : OpP C F l o (.bool b.isNone) := fun a w r => by
 have h1 := (slB_spec ht).1
 have : (Op.equal t (.slice b n c) (.slice none 0 0)).run C.P w = .ok b.isNone w := run_equalIn_slice 9999 h1
 simp [execOp, ho, r.ev hx, r.ev hy, binOp, eqGuard, this]
theorem P_eql_bool {t t' : Nat} {x y : Operand} {a b : Bool} (ho : o.op = .binOp .eql t x y t') (ht : C.P.underlying t = some .bool) (hx : ev l x = some (.bool a)) (hy : ev l y = some (.bool b)) : OpP C F l o (.bool (a == b)) := fun ac w r => by
 have : (Op.equal t (.bool a) (.bool b)).run C.P w = .ok (a == b) w := run_equalIn_bool' 9999 ht
 simp [execOp, ho, r.ev hx, r.ev hy, binOp, eqGuard, this]
theorem P_max2 {ts : Array TypeId} {x y : Operand} {k k' : IntKind} {m n : Int} (ho : o.op = .call { callee := .builtin .max, args := #[x, y], argTypes := ts }) (hx : ev l x = some (.int k m)) (hy : ev l y = some (.int k' n)) : OpP C F l o (.int k (if n > m then n else m)) := fun a w r => by
 simp [execOp, ho, resolve, invoke, builtin, r.ev hx, r.ev hy, run_max_int2]
theorem P_min3 {ts : Array TypeId} {x y z : Operand} {k k' k'' : IntKind} {m n q : Int} (ho : o.op = .call { callee := .builtin .min, args := #[x, y, z], argTypes := ts }) (hx : ev l x = some (.int k m)) (hy : ev l y = some (.int k' n)) (hz : ev l z = some (.int k'' q)) : OpP C F l o (.int k (if q < (if n < m then n else m) then q else (if n < m then n else m))) := fun a w r => by
 simp [execOp, ho, resolve, invoke, builtin, r.ev hx, r.ev hy, r.ev hz, run_min_int3]
/-- A literal without elements. -/
theorem W_lit0 {t e sz by_ : Nat} (ho : o.op = .buildSlice t 0 #[]) (hd : o.dst = some d) (hn : Nat.blt d F.n = true) (ht : slB C.P t e sz by_ = true)
  (k : ∀ b, St C F ((d, .slice (some ⟨b, 0, none⟩) 0 0) :: l) (blk b [] e :: rs) K) : OpW C F l rs o K Q := fun a w r n => by
 obtain ⟨h1, ti, h2, h3, _⟩ := slB_spec ht
 unfold Oper.wp
 have : (execOp a.eval o).run C.P w = .ok (.value (.slice (some ⟨w.heap.size, 0, none⟩) 0 0)) (w.alloc (.cells #[] e)) := by
  simp [execOp, ho, Instr.buildSlice, run_underlying h1, sizeOf, typeInfo, h2, Instr.fill, newRow]
  congr 2
  apply Array.ext' 
  simp
 rw [this]
 show K (a.put o.dst _) _
 rw [hd]
 exact k _ _ _ (r.put hn _) (n.alloc [] e)
end
/-! ### Equality of structs of numbers, truth values and texts -/
/-- The type's cells are numbers or truth values, as the fields tell. -/
def seB (P : Program) (t n : Nat) : Bool := match P.underlying t with
 | some (.struct fs) => !P.stoodInHeld t && !P.eqGuardType P.depth t && (fs.toList.map (fun f => (f.offset, f.name != "_", scB P f.type && (match P.underlying f.type with | some (.int _) => true | _ => false))) == (List.range n).map fun i => (i, true, true))
 | _ => false
theorem run_eqFields_ints {P : Program} {w : World} (dp : Nat) : ∀ (fs : List Field) (o : Nat) (xs ys : List Value), xs.length = fs.length → ys.length = fs.length → (∀ (i : Nat) (x y : Value), xs[i]? = some x → ys[i]? = some y → ∃ k a b, x = .int k a ∧ y = .int k b) →
  (∀ (i : Nat) (f : Field), fs[i]? = some f → f.offset = o + i ∧ (f.name != "_") = true ∧ scB P f.type = true ∧ ∃ k, P.underlying f.type = some (.int k)) →
  ∀ (px py : List Value), px.length = o → py.length = o → (Op.eqFields (dp + 1) (px ++ xs).toArray (py ++ ys).toArray fs).run P w = .ok (@decide (xs = ys) (Classical.propDecidable _)) w
 | [], o, xs, ys, hx, hy, _, _, px, py, _, _ => by
  have : xs = [] := List.eq_nil_of_length_eq_zero hx
  have : ys = [] := List.eq_nil_of_length_eq_zero hy
  subst xs; subst ys
  simp [Op.eqFields]
 | f :: fs, o, x :: xs, y :: ys, hx, hy, hk, hf, px, py, hpx, hpy => by
  obtain ⟨h1, h2, h3, k, h4⟩ := hf 0 f rfl
  obtain ⟨k', a, b, rfl, rfl⟩ := hk 0 x y rfl rfl
  have hname : f.name ≠ "_" := by simpa using h2
  have e1 : (part f.type (px ++ Value.int k' a :: xs).toArray f.offset).run P w = .ok (.int k' a) w := by
   simp [part, run_isAgg_sc h3, h1, ← hpx]
  have e2 : (part f.type (py ++ Value.int k' b :: ys).toArray f.offset).run P w = .ok (.int k' b) w := by
   simp [part, run_isAgg_sc h3, h1, ← hpy]
  have e3 := run_equalIn_int (P := P) w dp f.type k' k a b h4
  unfold Op.eqFields
  rw [if_pos hname]
  simp only [Sem.run_bind, e1, e2, e3, Result.andThen_ok]
  by_cases hab : a = b
  ·subst hab
   have ih := run_eqFields_ints (P := P) (w := w) dp fs (o + 1) xs ys (by simpa using hx) (by simpa using hy) (fun i x y hx hy => hk (i + 1) x y hx hy) (fun i f hf' => by
    obtain ⟨g1, g2⟩ := hf (i + 1) f hf'
    exact ⟨by omega, g2⟩) (px ++ [.int k' a]) (py ++ [.int k' a]) (by simp [hpx]) (by simp [hpy])
   simp only [List.append_assoc, List.singleton_append] at ih
   simp only [beq_self_eq_true, Bool.not_true, Bool.false_eq_true, if_false, ih]
   congr 1
   by_cases hxy : xs = ys
   ·subst hxy; simp
   ·have : ¬ (Value.int k' a :: xs = Value.int k' a :: ys) := by simpa using hxy
    simp [hxy, this]
  ·have hb : (a == b) = false := by simpa using hab
   have : ¬ (Value.int k' a :: xs = Value.int k' b :: ys) := by simp [hab]
   simp [hb, this]
section
variable {C : Cx} {F : Fx} {l : Env} {rs rs' : List HP} {K : Act → World → Prop} {o : Oper} {Q : Exit → Act → World → Prop} {d : Nat}
theorem run_eqStruct {P : Program} {w : World} {t n : Nat} {xs ys : List Value} (ht : seB P t n = true) (hx : xs.length = n) (hy : ys.length = n) (hk : ∀ (i : Nat) (x y : Value), xs[i]? = some x → ys[i]? = some y → ∃ k a b, x = .int k a ∧ y = .int k b) :
  (Op.equalIn 10000 t (.agg xs.toArray) (.agg ys.toArray)).run P w = .ok (@decide (xs = ys) (Classical.propDecidable _)) w ∧ P.eqGuardType P.depth t = false := by
 unfold seB at ht
 split at ht
 ·rename_i fs hfs
  simp only [Bool.and_eq_true, Bool.not_eq_true'] at ht
  obtain ⟨⟨hp, hg⟩, hm⟩ := ht
  refine ⟨?_, hg⟩
  have hff : P.fieldsOf t = fs := by unfold Program.fieldsOf; rw [hfs]
  refine (run_equalIn_struct (P := P) w 9999 t xs.toArray ys.toArray (by rw [hff]; exact hfs) hp).trans ?_
  rw [hff]
  have hm2 := eq_of_beq hm
  have hlen : fs.toList.length = n := by have := congrArg List.length hm2; simpa using this
  refine run_eqFields_ints (P := P) (w := w) 9998 fs.toList 0 xs ys (by omega) (by omega) hk (fun i f hf => ?_) [] [] rfl rfl
  have h2 := congrArg (fun l => l[i]?) hm2
  simp only [List.getElem?_map, hf, Option.map_some] at h2
  have hi : i < n := by have := (List.getElem?_eq_some_iff.1 hf).1; omega
  rw [List.getElem?_range hi] at h2
  simp only [Option.map_some, Option.some.injEq, Prod.mk.injEq, Bool.and_eq_true] at h2
  obtain ⟨h3, h4, h5, h6⟩ := h2
  refine ⟨by omega, h4, h5, ?_⟩
  split at h6
  ·rename_i k hk'; exact ⟨k, hk'⟩
  ·cases h6
 ·cases ht
theorem P_neq_struct {t t' n : Nat} {x y : Operand} {xs ys : List Value} {b : Bool} (ho : o.op = .binOp .neq t x y t') (ht : seB C.P t n = true) (hx : ev l x = some (.agg xs.toArray)) (hy : ev l y = some (.agg ys.toArray)) (h1 : xs.length = n) (h2 : ys.length = n)
  (hk : ∀ (i : Nat) (x y : Value), xs[i]? = some x → ys[i]? = some y → ∃ k a b, x = .int k a ∧ y = .int k b) (hb : b = false ↔ xs = ys) : OpP C F l o (.bool b) := fun a w r => by
 obtain ⟨h3, hg⟩ := run_eqStruct (P := C.P) (w := w) ht h1 h2 hk
 have e : @decide (xs = ys) (Classical.propDecidable _) = !b := by
  by_cases h : xs = ys
  ·have := hb.2 h; rw [this]; simp [h]
  ·cases b with
   | false => exact absurd (hb.1 rfl) h
   | true => simp [h]
 rw [e] at h3
 simp only [execOp, ho, r.ev hx, r.ev hy, Sem.run_bind, run_eqGuard_agg w .neq t x y _ _ hg, Result.andThen_ok, run_neq_struct, h3, Sem.run_pure, Bool.not_not]
end
theorem Weak.keep_to {r s : HP} {rs : List HP} (t : ∀ h, r h → s h) : Weak (r :: rs) [s] := (Weak.turn .h0 t).trans (Weak.keep (Weak.nil _))
theorem ownS.to2 {T sz n n' : Nat} {v : Value} {cs cs' : List Value} {rs : List HP} (hn : n = n') (hc : cs = cs') : Weak (ownS T sz v n cs :: rs) [ownS T sz v n' cs'] := by subst hn; subst hc; exact Weak.keep (Weak.nil _)
theorem ownS.to1 {T sz n n' : Nat} {v : Value} {cs cs' : List Value} {rs : List HP} (hn : n = n') (hc : cs = cs') : Weak (ownS T sz v n cs :: rs) (ownS T sz v n' cs' :: rs) := by subst hn; subst hc; exact Weak.refl _
theorem Sn.rowAt0 {C : Cx} {F : Fx} {rs : List HP} {b j : Nat} {cs us : List Value} (s : Sn C F rs (some ⟨b, j, none⟩) cs) (hu : ∀ (i : Nat) (v : Value), us[i]? = some v → cs[i]? = some v) : ∀ w, Now C F rs w → RowAt w ⟨b, j, none⟩ us := fun w n i v hv => by
 obtain ⟨ad, e, hc⟩ := s.rw_ w n i v (hu i v hv)
 rw [Option.some.injEq] at e
 subst e; exact hc
end Go.Proofs.YtfhjhaogmdaepaaGreatDoor

/- The sixteenth part of the program logic: deferred calls. -/
set_option linter.unusedVariables false
set_option linter.unusedSimpArgs false
namespace Go.Proofs.YtfhjhaogmdaepaaGreatDoor
open Go Go.RowKit
/-- A function, called when its caller leaves. -/
def SpecD (C : Cx) (f : FuncId) (args : List Value) (pre : World → Heap → Prop) (R0 RS : List HP) : Prop :=
 ∀ w h, Sep R0 h → Sub C w h → pre w h → ∀ u, CallsD C.P f args.toArray u w (fun e u' w' => u' = u ∧ ∃ v h', e = .returned v ∧ Sep RS h' ∧ Move C w h w' h')
theorem SpecD.enter {C : Cx} {f : FuncId} {fn : Func} {c : Code} {args : List Value} {pre : World → Heap → Prop} {R0 RS : List HP} {post : Value → List HP → Prop}
  (hpost : ∀ v rs, post v rs → rs = RS) (hf : C.P.funcs[f]? = some fn) (hb : fn.body = some c) (n : Nat) (hn : fn.ntmps = n) (hle : Nat.ble args.length n = true)
  (h : ∀ w k, Sep R0 k → Sub C w k → pre w k → St C ⟨n, [], w, k⟩ (envOf 0 args) R0 (c.wp C.P (bodyPost C.P fn fun e w' => ∃ v rs h', e = .returned v ∧ post v rs ∧ Sep rs h' ∧ Move C w k w' h'))) : SpecD C f args pre R0 RS := by
 intro w k hs hu hp u
 refine CallsD.mono (callsD_of_wp (u := u) hf hb (h w k hs hu hp _ w ⟨?_, rfl, ?_⟩ ⟨k, hs, Move.start hu⟩)) ?_
 ·have := Nat.le_of_ble_eq_true hle
  simp [hn]; omega
 ·intro t v ht
  obtain ⟨_, h2⟩ := envOf_get args 0 t v ht
  have hlt := (List.getElem?_eq_some_iff.1 h2).1
  simp only [Nat.sub_zero] at h2 hlt
  rw [Array.getElem?_append, if_pos (by simpa using hlt)]
  simpa using h2
 ·rintro e u' w' ⟨h1, v, rs, h', e1, e2, e3, e4⟩
  obtain rfl := hpost v rs e2
  exact ⟨h1, v, h', e1, e3, e4⟩
section
variable {C : Cx} {F : Fx} {l : Env} {rs rs' : List HP} {K : Act → World → Prop} {o : Oper} {Q : Exit → Act → World → Prop} {d : Nat}
end
end Go.Proofs.YtfhjhaogmdaepaaGreatDoor

/- The eighteenth part of the program logic: bodies that defer calls, with regions of open order; bundles of resources. -/
set_option linter.unusedVariables false
set_option linter.unusedSimpArgs false
namespace Go.Proofs.YtfhjhaogmdaepaaGreatDoor
open Go Go.RowKit
section
variable {C : Cx} {F : Fx} {l : Env} {rs rs' : List HP} {K : Act → World → Prop} {o : Oper} {Q : Exit → Act → World → Prop} {d : Nat}
end
section
variable {C : Cx} {F : Fx} {l : Env} {rs : List HP} {o : Oper}
theorem P_ext {xs : List Operand} {ts : Array TypeId} {f : FuncId} {vs : List Value} {v : Value} (ho : o.op = .call { callee := .value (.func f), args := xs.toArray, argTypes := ts }) (hx : evL l xs = some vs) (he : ∀ w, (callFunc f vs.toArray).run C.P w = .ok (.value v) w) : OpP C F l o v := fun a w r => by
 unfold execOp
 have hg : a.eval (.func f) = .func (.func f) #[] #[] := rfl
 simp only [ho, resolve, hg, Deferred.ofValue, invoke, Sem.run_bind, Sem.run_pure, Result.andThen_ok, List.map_toArray, r.evL hx]
 simpa using he w
end
section
variable {C : Cx} {F : Fx} {l : Env} {rs rs' : List HP} {K : Act → World → Prop} {o : Oper} {Q : Exit → Act → World → Prop} {d : Nat}
end
section
variable {C : Cx} {F : Fx} {l : Env} {rs : List HP} {K : Act → World → Prop}
end
end Go.Proofs.YtfhjhaogmdaepaaGreatDoor

/- The nineteenth part of the program logic: two loud operations of which either may come first, with what is read kept apart from what is written. -/
set_option linter.unusedVariables false
set_option linter.unusedSimpArgs false
namespace Go.Proofs.YtfhjhaogmdaepaaGreatDoor
open Go Go.RowKit
section
variable {C : Cx} {F : Fx} {l : Env} {rs rs' rq : List HP} {o : Oper} {Q : Exit → Act → World → Prop} {ops : Array Oper} {d i : Nat} {v : Value} {tt tx ty : Sch} {j : Nat}
def StTQ (C : Cx) (F : Fx) (ops : Array Oper) (Q : Exit → Act → World → Prop) (t : Sch) (l : Env) (rq rs : List HP) : Prop := St C F l rs (wpT C.P ops Q t (Now C F rq))
theorem TQ_nil (h : St C F l rs (Q .normal)) : StTQ C F ops Q .nil l rq rs := h
theorem TQ_keep (ho : ops[i]? = some o) (hw : wantedE ops l o = true) (h : OpW C F l rs o (fun a w => ∃ S' : World → Prop, (∀ x, S' x → Now C F rq x) ∧ S' w ∧ wpT C.P ops Q tt S' a w) Q) : StTQ C F ops Q (.op i 2 tt) l rq rs := fun a w r n => by
 show wpOp C.P ops Q i _ a w
 unfold wpOp
 simp only [ho, wanted_of r hw, if_true]
 exact .inl (h a w r n)
theorem K_keepTQ {l2 : Env} (hw : Weak rs' rq) (k : StTQ C F ops Q tt l2 rq rs') : St C F l2 rs' (fun a w => ∃ S' : World → Prop, (∀ x, S' x → Now C F rq x) ∧ S' w ∧ wpT C.P ops Q tt S' a w) := fun a w r n => ⟨Now C F rq, fun _ h => h, n.weak hw, k a w r n⟩
end
end Go.Proofs.YtfhjhaogmdaepaaGreatDoor

/- Plain: accounts and releases: what is sound, searches by halves, sums. -/
set_option linter.unusedVariables false
set_option linter.unusedSimpArgs false
namespace Go.Proofs.YtfhjhaogmdaepaaGreatDoor
open Go Go.RowKit
/-- An account. -/
structure Acc where
 a : Int
 bal : Int
 bond : Int
 non : Int
 jail : Bool
def Acc.cells (x : Acc) : List Value := [.int .u64 x.a, .int .u64 x.bal, .int .u64 x.bond, .int .u64 x.non, .bool x.jail]
instance : Rec Acc := ⟨Acc.cells, 5, fun _ => rfl, fun x v hv => by
 simp only [Acc.cells, List.mem_cons, List.not_mem_nil, or_false] at hv
 rcases hv with rfl | rfl | rfl | rfl | rfl <;> rfl⟩
def acc0 : Acc := ⟨0, 0, 0, 0, false⟩
instance : Inhabited Acc := ⟨acc0⟩
theorem Acc.inj {x y : Acc} (h : x.cells = y.cells) : x = y := by
 obtain ⟨a, b, c, d, e⟩ := x; obtain ⟨a', b', c', d', e'⟩ := y
 simp only [Acc.cells, List.cons.injEq, Value.int.injEq, Value.bool.injEq, and_true, true_and] at h
 obtain ⟨rfl, rfl, rfl, rfl, rfl⟩ := h; rfl
/-- A row of bond that was let go. -/
structure Rel where
 h : Int
 a : Int
 born : Int
 amt : Int
def Rel.cells (x : Rel) : List Value := [.int .u64 x.h, .int .u64 x.a, .int .u64 x.born, .int .u64 x.amt]
instance : Rec Rel := ⟨Rel.cells, 4, fun _ => rfl, fun x v hv => by
 simp only [Rel.cells, List.mem_cons, List.not_mem_nil, or_false] at hv
 rcases hv with rfl | rfl | rfl | rfl <;> rfl⟩
def rel0 : Rel := ⟨0, 0, 0, 0⟩
instance : Inhabited Rel := ⟨rel0⟩
theorem Rel.inj {x y : Rel} (h : x.cells = y.cells) : x = y := by
 obtain ⟨a, b, c, d⟩ := x; obtain ⟨a', b', c', d'⟩ := y
 simp only [Rel.cells, List.cons.injEq, Value.int.injEq, and_true, true_and] at h
 obtain ⟨rfl, rfl, rfl, rfl⟩ := h; rfl
def u64 (x : Int) : Prop := 0 ≤ x ∧ x ≤ 18446744073709551615
def Acc.ok (x : Acc) : Prop := u64 x.a ∧ u64 x.bal ∧ u64 x.bond ∧ u64 x.non
def Rel.ok (x : Rel) : Prop := u64 x.h ∧ u64 x.a ∧ u64 x.born ∧ u64 x.amt
/-- A ledger: its lists, what was burnt, how much there was. -/
structure Led where
 acc : List Acc
 rel : List Rel
 burnt : Int
 sup : Int
def led0 : Led := ⟨[], [], 0, 0⟩
def Led.ok (l : Led) : Prop := (∀ x ∈ l.acc, x.ok) ∧ (∀ x ∈ l.rel, x.ok) ∧ u64 l.burnt ∧ u64 l.sup
/-! ### The first of many errors -/
def firstE (f : Nat → Int) : Nat → Int
 | 0 => 0
 | k + 1 => if firstE f k = 0 then f k else firstE f k
theorem firstE_next {f : Nat → Int} {i : Nat} (h0 : firstE f i = 0) (hb : f i = 0) : firstE f (i + 1) = 0 := by rw [firstE, if_pos h0, hb]
theorem firstE_stay {f : Nat → Int} {k : Nat} (h : firstE f k ≠ 0) : ∀ n, firstE f (k + n) = firstE f k
 | 0 => rfl
 | n + 1 => by
  have ih := firstE_stay h n
  show firstE f (k + n + 1) = _
  rw [firstE, if_neg (by rw [ih]; exact h), ih]
theorem firstE_hit {f : Nat → Int} {i n : Nat} {e : Int} (h0 : firstE f i = 0) (hb : f i = e) (he : e ≠ 0) (hi : i < n) : firstE f n = e := by
 have h1 : firstE f (i + 1) = e := by rw [firstE, if_pos h0, hb]
 have := firstE_stay (f := f) (k := i + 1) (by rw [h1]; exact he) (n - (i + 1))
 rwa [show i + 1 + (n - (i + 1)) = n by omega, h1] at this
theorem firstE_down {f : Nat → Int} {n : Nat} (h : firstE f n = 0) : ∀ k, k ≤ n → firstE f k = 0 := fun k hk => by
 cases Classical.em (firstE f k = 0) with
 | inl h0 => exact h0
 | inr h0 =>
  have := firstE_stay h0 (n - k)
  rw [show k + (n - k) = n by omega, h] at this
  exact absurd this.symm h0
theorem firstE_at {f : Nat → Int} {n : Nat} (h : firstE f n = 0) {k : Nat} (hk : k < n) : f k = 0 := by
 have h1 := firstE_down h k (by omega)
 have h2 := firstE_down h (k + 1) (by omega)
 rwa [firstE, if_pos h1] at h2
/-! ### Accounts -/
def MS : Int := 1152921504606846975
def accAt (l : List Acc) (i : Nat) : Acc := l.getD i acc0
def relAt (l : List Rel) (i : Nat) : Rel := l.getD i rel0
theorem accAt_of {l : List Acc} {i : Nat} {x : Acc} (h : l[i]? = some x) : accAt l i = x := by unfold accAt; rw [List.getD_eq_getElem?_getD, h]; rfl
theorem accAt_get {l : List Acc} {i : Nat} (h : i < l.length) : l[i]? = some (accAt l i) := by unfold accAt; rw [List.getD_eq_getElem?_getD, List.getElem?_eq_getElem h]; rfl
theorem relAt_get {l : List Rel} {i : Nat} (h : i < l.length) : l[i]? = some (relAt l i) := by unfold relAt; rw [List.getD_eq_getElem?_getD, List.getElem?_eq_getElem h]; rfl
def accBad (l : List Acc) (i : Nat) : Int := if (accAt l i).a = 0 then 85 else if 0 < i ∧ (accAt l i).a ≤ (accAt l (i - 1)).a then 42 else if MS < (accAt l i).bal ∨ MS < (accAt l i).bond then 87 else 0
def accE (l : List Acc) : Int := firstE (accBad l) l.length
def sumA (l : List Acc) : Int := (l.map fun x => x.bal + x.bond).sum
def sumR (l : List Rel) : Int := (l.map Rel.amt).sum
theorem sumA_snoc {l : List Acc} {i : Nat} {x : Acc} (h : l[i]? = some x) : sumA (l.take (i + 1)) = sumA (l.take i) + (x.bal + x.bond) := by
 rw [List.take_add_one, h]; simp [sumA]
theorem sumR_snoc {l : List Rel} {i : Nat} {x : Rel} (h : l[i]? = some x) : sumR (l.take (i + 1)) = sumR (l.take i) + x.amt := by
 rw [List.take_add_one, h]; simp [sumR]
theorem sumA_cons (x : Acc) (l : List Acc) : sumA (x :: l) = x.bal + x.bond + sumA l := by simp [sumA]
theorem sumR_cons (x : Rel) (l : List Rel) : sumR (x :: l) = x.amt + sumR l := by simp [sumR]
theorem sumA_nn {l : List Acc} (h : ∀ x ∈ l, x.ok) : 0 ≤ sumA l := by
 induction l with
 | nil => decide
 | cons x l ih =>
  rw [sumA_cons]
  have h1 := ih fun y hy => h y (by simp [hy])
  obtain ⟨_, ⟨h2, _⟩, ⟨h3, _⟩, _⟩ := h x (by simp)
  omega
theorem sumR_nn {l : List Rel} (h : ∀ x ∈ l, x.ok) : 0 ≤ sumR l := by
 induction l with
 | nil => decide
 | cons x l ih =>
  rw [sumR_cons]
  have h1 := ih fun y hy => h y (by simp [hy])
  obtain ⟨_, _, _, ⟨h3, _⟩⟩ := h x (by simp)
  omega
/-- So far each account has passed: the sum is not great. -/
theorem sumA_le {l : List Acc} : ∀ i, i ≤ l.length → firstE (accBad l) i = 0 → sumA (l.take i) ≤ 2 * MS * i
 | 0, _, _ => by simp [sumA]
 | i + 1, h, h0 => by
  have h1 := firstE_down h0 i (by omega)
  have h2 := firstE_at h0 (show i < i + 1 by omega)
  rw [sumA_snoc (accAt_get (by omega))]
  have h3 := sumA_le i (by omega) h1
  unfold accBad at h2
  split at h2
  ·omega
  ·split at h2
   ·omega
   ·split at h2
    ·omega
    ·have : (accAt l i).bal ≤ MS ∧ (accAt l i).bond ≤ MS := by omega
     push_cast
     rw [Int.mul_add]
     omega
structure AccFine (l : List Acc) : Prop where
 no0 : ∀ i, i < l.length → (accAt l i).a ≠ 0
 up : ∀ i, 0 < i → i < l.length → (accAt l (i - 1)).a < (accAt l i).a
 le : ∀ i, i < l.length → (accAt l i).bal ≤ MS ∧ (accAt l i).bond ≤ MS
theorem accFine_of {l : List Acc} (h : accE l = 0) : AccFine l := by
 have key : ∀ i, i < l.length → (accAt l i).a ≠ 0 ∧ (0 < i → (accAt l (i - 1)).a < (accAt l i).a) ∧ (accAt l i).bal ≤ MS ∧ (accAt l i).bond ≤ MS := fun i hi => by
  have h2 := firstE_at h hi
  unfold accBad at h2
  split at h2
  ·omega
  ·split at h2
   ·omega
   ·split at h2
    ·omega
    ·refine ⟨by assumption, fun hp => ?_, by omega, by omega⟩
     rename_i h4 _
     exact Int.not_le.1 fun h5 => h4 ⟨hp, h5⟩
 exact ⟨fun i hi => (key i hi).1, fun i h0 hi => (key i hi).2.1 h0, fun i hi => (key i hi).2.2⟩
theorem AccFine.mono {l : List Acc} (h : AccFine l) : ∀ i j, i < j → j < l.length → (accAt l i).a < (accAt l j).a := fun i j hij hj => by
 induction j with
 | zero => omega
 | succ j ih =>
  have h1 := h.up (j + 1) (by omega) hj
  rcases Nat.lt_or_ge i j with h2 | h2
  ·exact Int.lt_trans (ih h2 (by omega)) h1
  ·obtain rfl : i = j := by omega
   exact h1
/-- What New answers. -/
def newE (l : List Acc) : Int := if 65536 < l.length then 86 else if accE l ≠ 0 then accE l else if MS < sumA l then 87 else 0
def newL8 (l : List Acc) : Led := if newE l = 0 then ⟨l, [], 0, sumA l⟩ else led0
theorem newE_big {l : List Acc} (h : 65536 < l.length) : newE l = 86 := by rw [newE, if_pos h]
theorem newE_bad {l : List Acc} (h : ¬ 65536 < l.length) (hb : accE l ≠ 0) : newE l = accE l := by rw [newE, if_neg h, if_pos hb]
theorem newE_sum {l : List Acc} (h : ¬ 65536 < l.length) (hb : accE l = 0) (hs : MS < sumA l) : newE l = 87 := by rw [newE, if_neg h, if_neg (by rw [hb]; simp), if_pos hs]
theorem newE_fine {l : List Acc} (h : ¬ 65536 < l.length) (hb : accE l = 0) (hs : ¬ MS < sumA l) : newE l = 0 := by rw [newE, if_neg h, if_neg (by rw [hb]; simp), if_neg hs]
theorem newL8_bad {l : List Acc} (h : newE l ≠ 0) : newL8 l = led0 := if_neg h
theorem newL8_fine {l : List Acc} (h : newE l = 0) : newL8 l = ⟨l, [], 0, sumA l⟩ := if_pos h
/-! ### Sums that stop -/
def addC (t x : Int) : Int := if MS < t ∨ MS < x then MS + 1 else t + x
def capF (t : Int) : List Int → Int
 | [] => t
 | x :: l => capF (addC t x) l
theorem capF_app (t : Int) (l k : List Int) : capF t (l ++ k) = capF (capF t l) k := by
 induction l generalizing t with
 | nil => rfl
 | cons x l ih => exact ih _
theorem capF_big {t : Int} (h : MS < t) : ∀ l, MS < capF t l
 | [] => h
 | x :: l => capF_big (t := addC t x) (by unfold addC; rw [if_pos (.inl h)]; omega) l
theorem capF_spec {l : List Int} (h : ∀ x ∈ l, 0 ≤ x) : ∀ t, 0 ≤ t → (capF t l ≤ MS ↔ t + l.sum ≤ MS) ∧ (capF t l ≤ MS → capF t l = t + l.sum) := by
 induction l with
 | nil => intro t _; simp [capF]
 | cons x l ih =>
  intro t ht
  have hx := h x (by simp)
  have hs : 0 ≤ l.sum := by
   have : ∀ k : List Int, (∀ y ∈ k, 0 ≤ y) → 0 ≤ k.sum := by
    intro k
    induction k with
    | nil => intro _; decide
    | cons y k ihk => intro hk; rw [List.sum_cons]; have := ihk fun z hz => hk z (by simp [hz]); have := hk y (by simp); omega
   exact this l fun y hy => h y (by simp [hy])
  rw [List.sum_cons]
  show (capF (addC t x) l ≤ MS ↔ _) ∧ (capF (addC t x) l ≤ MS → capF (addC t x) l = _)
  unfold addC
  split
  ·have := capF_big (t := MS + 1) (by omega) l
   refine ⟨⟨fun h => by omega, fun h => by omega⟩, fun h => by omega⟩
  ·obtain ⟨h1, h2⟩ := ih (fun y hy => h y (by simp [hy])) (t + x) (by omega)
   rw [← Int.add_assoc]
   exact ⟨h1, h2⟩
/-! ### Searches by halves -/
def bsI (p : Nat → Bool) : Nat → Nat → Nat → Nat
 | 0, lo, _ => lo
 | f + 1, lo, hi => if lo < hi then (if p ((lo + hi) / 2) = true then bsI p f ((lo + hi) / 2 + 1) hi else bsI p f lo ((lo + hi) / 2)) else lo
theorem bsI_fuel (p : Nat → Bool) : ∀ (f g lo hi : Nat), hi - lo ≤ f → hi - lo ≤ g → bsI p f lo hi = bsI p g lo hi
 | 0, 0, _, _, _, _ => rfl
 | 0, g + 1, lo, hi, h, _ => by rw [bsI, bsI, if_neg (by omega)]
 | f + 1, 0, lo, hi, _, h => by rw [bsI, bsI, if_neg (by omega)]
 | f + 1, g + 1, lo, hi, h1, h2 => by
  rw [bsI, bsI]
  split
  ·split
   ·exact bsI_fuel p f g _ _ (by omega) (by omega)
   ·exact bsI_fuel p f g _ _ (by omega) (by omega)
  ·rfl
def bsN (p : Nat → Bool) (lo hi : Nat) : Nat := bsI p (hi - lo) lo hi
theorem bsN_end {p : Nat → Bool} {lo hi : Nat} (h : ¬ lo < hi) : bsN p lo hi = lo := by
 unfold bsN; rw [show hi - lo = 0 by omega]; rfl
theorem bsN_up {p : Nat → Bool} {lo hi : Nat} (h : lo < hi) (hp : p ((lo + hi) / 2) = true) : bsN p lo hi = bsN p ((lo + hi) / 2 + 1) hi := by
 unfold bsN
 obtain ⟨f, hf⟩ : ∃ f, hi - lo = f + 1 := ⟨hi - lo - 1, by omega⟩
 rw [hf, bsI, if_pos h, if_pos hp]
 exact bsI_fuel p _ _ _ _ (by omega) (by omega)
theorem bsN_down {p : Nat → Bool} {lo hi : Nat} (h : lo < hi) (hp : p ((lo + hi) / 2) = false) : bsN p lo hi = bsN p lo ((lo + hi) / 2) := by
 unfold bsN
 obtain ⟨f, hf⟩ : ∃ f, hi - lo = f + 1 := ⟨hi - lo - 1, by omega⟩
 rw [hf, bsI, if_pos h, if_neg (by rw [hp]; decide)]
 exact bsI_fuel p _ _ _ _ (by omega) (by omega)
/-- Where what is asked is true ahead of a place and false from there on, that place is found. -/
theorem bsN_spec {p : Nat → Bool} : ∀ (f lo hi : Nat), hi - lo ≤ f → lo ≤ hi → (∀ i j, lo ≤ i → i < j → j < hi → p j = true → p i = true) → (∀ i, lo ≤ i → i < bsN p lo hi → p i = true) ∧ (∀ i, bsN p lo hi ≤ i → i < hi → p i = false)
 | 0, lo, hi, h, h2, _ => by rw [bsN_end (by omega)]; exact ⟨fun i _ _ => by omega, fun i _ _ => by omega⟩
 | f + 1, lo, hi, h, h2, hm => by
  rcases Nat.lt_or_ge lo hi with hl | hl
  ·cases hp : p ((lo + hi) / 2) with
   | true =>
    rw [bsN_up hl hp]
    obtain ⟨h3, h4⟩ := bsN_spec f ((lo + hi) / 2 + 1) hi (by omega) (by omega) fun i j hi' => hm i j (by omega)
    refine ⟨fun i h5 h6 => ?_, h4⟩
    rcases Nat.lt_trichotomy i ((lo + hi) / 2) with h7 | h7 | h7
    ·exact hm i _ h5 h7 (by omega) hp
    ·rw [h7]; exact hp
    ·exact h3 i (by omega) h6
   | false =>
    rw [bsN_down hl hp]
    obtain ⟨h3, h4⟩ := bsN_spec f lo ((lo + hi) / 2) (by omega) (by omega) fun i j h1 h2' h3' => hm i j h1 h2' (by omega)
    refine ⟨h3, fun i h5 h6 => ?_⟩
    rcases Nat.lt_trichotomy i ((lo + hi) / 2) with h7 | h7 | h7
    ·exact h4 i h5 h7
    ·rw [h7]; exact hp
    ·cases hq : p i with
     | false => rfl
     | true => rw [hm ((lo + hi) / 2) i (by omega) h7 h6 hq] at hp; cases hp
  ·rw [bsN_end (by omega)]; exact ⟨fun i _ _ => by omega, fun i _ _ => by omega⟩
/-- Where an account stands, or would stand. -/
def spotI (l : List Acc) (a : Int) : Nat := bsN (fun i => decide ((accAt l i).a < a)) 0 l.length
def spotB (l : List Acc) (a : Int) : Bool := decide (spotI l a < l.length) && decide ((accAt l (spotI l a)).a = a)
def placeI (l : List Acc) (a : Int) : Int := if spotB l a = true then (spotI l a : Int) else -1
theorem spot_fine {l : List Acc} (h : AccFine l) (a : Int) : (∀ i, i < spotI l a → (accAt l i).a < a) ∧ (∀ i, spotI l a ≤ i → i < l.length → a ≤ (accAt l i).a) := by
 obtain ⟨h1, h2⟩ := bsN_spec (p := fun i => decide ((accAt l i).a < a)) l.length 0 l.length (Nat.le_refl _) (Nat.zero_le _) fun i j _ hij hj hp => decide_eq_true (Int.lt_trans (h.mono i j hij hj) (of_decide_eq_true hp))
 exact ⟨fun i hi => of_decide_eq_true (h1 i (Nat.zero_le _) hi), fun i hi hn => Int.not_lt.1 (of_decide_eq_false (h2 i hi hn))⟩
theorem spotB_iff {l : List Acc} (h : AccFine l) (a : Int) : spotB l a = true ↔ ∃ i, i < l.length ∧ (accAt l i).a = a := by
 unfold spotB
 rw [Bool.and_eq_true, decide_eq_true_eq, decide_eq_true_eq]
 refine ⟨fun ⟨h1, h2⟩ => ⟨_, h1, h2⟩, fun ⟨i, h1, h2⟩ => ?_⟩
 obtain ⟨h3, h4⟩ := spot_fine h a
 have h5 : spotI l a ≤ i := Nat.not_lt.1 fun h5 => by have := h3 i h5; omega
 have h6 : spotI l a < l.length := by omega
 refine ⟨h6, ?_⟩
 have h7 := h4 _ (Nat.le_refl _) h6
 rcases Nat.lt_or_ge (spotI l a) i with h8 | h8
 ·have := h.mono _ _ h8 h1; omega
 ·rw [show spotI l a = i by omega]; exact h2
theorem AccFine.uniq {l : List Acc} (h : AccFine l) {i j : Nat} (hi : i < l.length) (hj : j < l.length) (e : (accAt l i).a = (accAt l j).a) : i = j := by
 rcases Nat.lt_trichotomy i j with h1 | h1 | h1
 ·have := h.mono i j h1 hj; omega
 ·exact h1
 ·have := h.mono j i h1 hi; omega
theorem spotI_eq {l : List Acc} (h : AccFine l) {a : Int} {i : Nat} (hi : i < l.length) (e : (accAt l i).a = a) : spotI l a = i := by
 have hb := (spotB_iff h a).2 ⟨i, hi, e⟩
 unfold spotB at hb
 rw [Bool.and_eq_true, decide_eq_true_eq, decide_eq_true_eq] at hb
 exact h.uniq hb.1 hi (hb.2.trans e.symm)
/-! ### Releases -/
def laterB (x y : Rel) : Bool := decide (y.h < x.h) || (decide (x.h = y.h) && decide (y.a < x.a))
def relBad (l : List Acc) (r : List Rel) (i : Nat) : Int :=
 if spotB l (relAt r i).a = false then 85 else if 1099511627776 < (relAt r i).born ∨ (relAt r i).h < (relAt r i).born ∨ 1103806595072 < (relAt r i).h then 2
 else if 0 < i ∧ laterB (relAt r i) (relAt r (i - 1)) = false then 42 else if (relAt r i).amt = 0 ∨ MS < (relAt r i).amt then 87 else 0
def relE (l : List Acc) (r : List Rel) : Int := firstE (relBad l r) r.length
def lsoundE (l : Led) : Int := if 65536 < l.acc.length ∨ 65536 < l.rel.length then 86 else if accE l.acc ≠ 0 then accE l.acc else if relE l.acc l.rel ≠ 0 then relE l.acc l.rel
 else if MS < l.sup ∨ l.burnt + sumA l.acc + sumR l.rel ≠ l.sup then 87 else 0
theorem sumR_le {a : List Acc} {l : List Rel} : ∀ i, i ≤ l.length → firstE (relBad a l) i = 0 → sumR (l.take i) ≤ MS * i
 | 0, _, _ => by simp [sumR]
 | i + 1, h, h0 => by
  have h1 := firstE_down h0 i (by omega)
  have h2 := firstE_at h0 (show i < i + 1 by omega)
  rw [sumR_snoc (relAt_get (by omega))]
  have h3 := sumR_le i (by omega) h1
  have : (relAt l i).amt ≤ MS := by
   unfold relBad at h2
   split at h2
   ·omega
   ·split at h2
    ·omega
    ·split at h2
     ·omega
     ·split at h2 <;> omega
  push_cast
  rw [Int.mul_add]
  omega
structure LedFine (l : Led) : Prop where
 few : l.acc.length ≤ 65536
 few' : l.rel.length ≤ 65536
 acc : accE l.acc = 0
 rel : relE l.acc l.rel = 0
 sup : l.sup ≤ MS
 sum : l.burnt + sumA l.acc + sumR l.rel = l.sup
theorem ledFine_of {l : Led} (h : lsoundE l = 0) : LedFine l := by
 unfold lsoundE at h
 split at h
 ·omega
 ·split at h
  ·exact absurd h (by assumption)
  ·split at h
   ·exact absurd h (by assumption)
   ·split at h
    ·omega
    ·rename_i h1 h2 h3 h4
     exact ⟨by omega, by omega, Classical.not_not.1 h2, Classical.not_not.1 h3, by omega, Classical.not_not.1 fun h5 => h4 (.inr h5)⟩
theorem LedFine.zero {l : Led} (h : LedFine l) : lsoundE l = 0 := by
 unfold lsoundE
 rw [if_neg (by have := h.few; have := h.few'; omega), if_neg (by rw [h.acc]; simp), if_neg (by rw [h.rel]; simp), if_neg (by rw [h.sum]; have := h.sup; omega)]
end Go.Proofs.YtfhjhaogmdaepaaGreatDoor

/- Plain: turns by priorities: the highest is chosen and pays the total; how far apart the priorities can come. -/
set_option linter.unusedVariables false
set_option linter.unusedSimpArgs false
namespace Go.Proofs.YtfhjhaogmdaepaaGreatDoor

/-! ### Sums of the first n -/
def sumI : Nat → (Nat → Int) → Int
 | 0, _ => 0
 | k + 1, f => sumI k f + f k
theorem sumI_congr {n : Nat} {f g : Nat → Int} (h : ∀ i, i < n → f i = g i) : sumI n f = sumI n g := by
 induction n with
 | zero => rfl
 | succ n ih => simp only [sumI]; rw [ih fun i hi => h i (by omega), h n (by omega)]
theorem sumI_le {n : Nat} {f g : Nat → Int} (h : ∀ i, i < n → f i ≤ g i) : sumI n f ≤ sumI n g := by
 induction n with
 | zero => exact Int.le_refl _
 | succ n ih => simp only [sumI]; have := ih fun i hi => h i (by omega); have := h n (by omega); omega
theorem sumI_zero (n : Nat) : sumI n (fun _ => 0) = 0 := by
 induction n with
 | zero => rfl
 | succ n ih => simp only [sumI]; rw [ih]; rfl
theorem sumI_nonneg {n : Nat} {f : Nat → Int} (h : ∀ i, i < n → 0 ≤ f i) : 0 ≤ sumI n f := by
 have := sumI_le (f := fun _ => 0) h; rwa [sumI_zero] at this
theorem sumI_mul (n : Nat) (c : Int) (f : Nat → Int) : sumI n (fun i => c * f i) = c * sumI n f := by
 induction n with
 | zero => simp [sumI]
 | succ n ih => simp only [sumI]; rw [ih, Int.mul_add]
/-- The sum over a set. -/
def sumS (n : Nat) (S : Nat → Bool) (f : Nat → Int) : Int := sumI n fun i => if S i then f i else 0
theorem sumS_le {n : Nat} {S : Nat → Bool} {f g : Nat → Int} (h : ∀ i, i < n → S i = true → f i ≤ g i) : sumS n S f ≤ sumS n S g :=
 sumI_le fun i hi => by split; exact h i hi ‹_›; exact Int.le_refl _
theorem sumS_const (n : Nat) (S : Nat → Bool) (c : Int) : sumS n S (fun _ => c) = c * sumS n S (fun _ => 1) := by
 unfold sumS; rw [← sumI_mul]; exact sumI_congr fun i _ => by split <;> simp
/-! ### One turn -/
/-- The least multiple of all numbers up to 64. -/
def dK : Int := 1182266884102822267511361600
def dQ (j : Nat) : Int := dK / ((j : Int) + 1)
theorem dQ_all : ((List.range 64).all fun j => decide (((j : Int) + 1) * dQ j = dK) && decide (0 ≤ dQ j)) = true := by decide +kernel
theorem dQ_nn {j : Nat} (h : j < 64) : 0 ≤ dQ j := by
 have := List.all_eq_true.1 dQ_all j (by simpa using h)
 simp only [Bool.and_eq_true, decide_eq_true_eq] at this; exact this.2
/-- dK (1/(k+1) + .. + 1/n) -/
def hN (n k : Nat) : Int := sumI n fun j => if k ≤ j then dQ j else 0
theorem hN_nn {n k : Nat} (h : n ≤ 64) : 0 ≤ hN n k := sumI_nonneg fun j hj => by split; exact dQ_nn (by omega); exact Int.le_refl _
/-- Every k of them are together at most k (C + T (1/(k+1) + .. + 1/n)). -/
def Cup (n : Nat) (C T : Int) (q : Nat → Int) : Prop := ∀ (S : Nat → Bool) (k : Nat), sumS n S (fun _ => 1) = k → 1 ≤ k → dK * sumS n S q ≤ k * (C * dK + T * hN n k)
theorem Cup.start {n : Nat} {C T : Int} {q : Nat → Int} (hn : n ≤ 64) (hT : 0 ≤ T) (h : ∀ i, i < n → q i ≤ C) : Cup n C T q := fun S k hk h1 => by
 have h2 : sumS n S q ≤ C * k := by
  have := sumS_le (n := n) (S := S) (f := q) (g := fun _ => C) (fun i hi _ => h i hi)
  rwa [sumS_const, hk] at this
 have h3 : 0 ≤ (k : Int) * (T * hN n k) := Int.mul_nonneg (by omega) (Int.mul_nonneg hT (hN_nn hn))
 have h4 : dK * sumS n S q ≤ dK * (C * k) := Int.mul_le_mul_of_nonneg_left h2 (by decide)
 have h5 : dK * (C * k) = (k : Int) * (C * dK) := by rw [Int.mul_comm dK, Int.mul_comm C, Int.mul_assoc]
 rw [Int.mul_add]; omega
end Go.Proofs.YtfhjhaogmdaepaaGreatDoor

/- Plain: what is sound, who is chosen: the council's reckonings. -/
set_option linter.unusedVariables false
set_option linter.unusedSimpArgs false
namespace Go.Proofs.YtfhjhaogmdaepaaGreatDoor
open Go Go.RowKit
/-- A member: address, power, priority. -/
structure Mem where
 a : Int
 p : Int
 q : Int
def Mem.cells (m : Mem) : List Value := [.int .u64 m.a, .int .u64 m.p, .int .i64 m.q]
theorem Mem.cells_one (m : Mem) : ∀ v ∈ m.cells, v.oneCell' = true := fun v hv => by
 simp only [Mem.cells, List.mem_cons, List.not_mem_nil, or_false] at hv
 rcases hv with rfl | rfl | rfl <;> rfl
def Mem.ok (m : Mem) : Prop := (0 ≤ m.a ∧ m.a ≤ 18446744073709551615) ∧ (0 ≤ m.p ∧ m.p ≤ 18446744073709551615) ∧ (-9223372036854775808 ≤ m.q ∧ m.q ≤ 9223372036854775807)
/-! ### What is sound -/
def msK : Int := 1152921504606846975
def sumP (l : List Mem) : Int := (l.map Mem.p).sum
def mAt (l : List Mem) (i : Nat) : Mem := l.getD i ⟨0, 0, 0⟩
theorem mAt_of {l : List Mem} {i : Nat} {m : Mem} (h : l[i]? = some m) : mAt l i = m := by simp [mAt, List.getD, h]
def badAt (l : List Mem) (i : Nat) : Int := if (mAt l i).a = 0 then 85 else if 0 < i ∧ (mAt l i).a ≤ (mAt l (i - 1)).a then 52 else if (mAt l i).p = 0 ∨ msK < (mAt l i).p then 50 else 0
def bads (l : List Mem) : Nat → Int
 | 0 => 0
 | k + 1 => if bads l k = 0 then badAt l k else bads l k
theorem bads_stay {l : List Mem} {k : Nat} (h : bads l k ≠ 0) : ∀ n, bads l (k + n) = bads l k
 | 0 => rfl
 | n + 1 => by
  have ih := bads_stay h n
  show (if bads l (k + n) = 0 then badAt l (k + n) else bads l (k + n)) = _
  rw [ih, if_neg h]
structure Fine (l : List Mem) : Prop where
 pos : 0 < l.length
 few : l.length ≤ 64
 no : bads l l.length = 0
 tot : sumP l ≤ msK
theorem bads_down {l : List Mem} {n : Nat} (h : bads l n = 0) : ∀ k, k ≤ n → bads l k = 0 := fun k hk => by
 by_cases h0 : bads l k = 0
 ·exact h0
 ·have := bads_stay h0 (n - k)
  rw [show k + (n - k) = n by omega, h] at this
  exact this.symm
theorem Fine.badAt {l : List Mem} (h : Fine l) {i : Nat} (hi : i < l.length) : Go.Proofs.YtfhjhaogmdaepaaGreatDoor.badAt l i = 0 := by
 have h1 := bads_down h.no i (by omega)
 have h2 := bads_down h.no (i + 1) (by omega)
 have h3 : (if bads l i = 0 then Go.Proofs.YtfhjhaogmdaepaaGreatDoor.badAt l i else bads l i) = 0 := h2
 rwa [if_pos h1] at h3
theorem Fine.at_ {l : List Mem} (h : Fine l) {i : Nat} {m : Mem} (hm : l[i]? = some m) : m.a ≠ 0 ∧ m.p ≠ 0 ∧ m.p ≤ msK ∧ ∀ m', 0 < i → l[i - 1]? = some m' → m'.a < m.a := by
 have hb := h.badAt (List.getElem?_eq_some_iff.1 hm).1
 unfold Go.Proofs.YtfhjhaogmdaepaaGreatDoor.badAt at hb
 rw [mAt_of hm] at hb
 split at hb
 ·cases hb
 ·rename_i h1
  split at hb
  ·cases hb
  ·rename_i h2
   split at hb
   ·cases hb
   ·rename_i h3
    refine ⟨h1, by omega, by omega, fun m' hi hm' => ?_⟩
    rw [mAt_of hm'] at h2
    omega
/-! ### Searches -/
theorem drop_at {α : Type} {l : List α} {i : Nat} {x : α} (h : l[i]? = some x) : l.drop i = x :: l.drop (i + 1) := by
 have hlt := (List.getElem?_eq_some_iff.1 h).1
 rw [List.drop_eq_getElem_cons hlt]
 rw [List.getElem?_eq_getElem hlt, Option.some.injEq] at h
 rw [h]
end Go.Proofs.YtfhjhaogmdaepaaGreatDoor

/- Plain: who sits in a council. -/
set_option linter.unusedVariables false
set_option linter.unusedSimpArgs false
namespace Go.Proofs.YtfhjhaogmdaepaaGreatDoor
open Go Go.RowKit Go.Sort
instance : Rec Mem := ⟨Mem.cells, 3, fun _ => rfl, Mem.cells_one⟩
instance : Inhabited Mem := ⟨⟨0, 0, 0⟩⟩
/-- May an account sit? -/
def sits (mb : Int) (x : Acc) : Bool := !x.jail && (decide (mb ≤ x.bond) && decide (1 ≤ x.bond))
def memA (x : Acc) : Mem := ⟨x.a, x.bond, 0⟩
/-- All who may sit. -/
def candM (mb : Int) (l : List Acc) : List Mem := (l.filter (sits mb)).map memA
/-- Who comes first: more power, then the lesser address. -/
def bt (x y : Mem) : Bool := decide (y.p < x.p) || (decide (x.p = y.p) && decide (x.a < y.a))
theorem bt_iff {x y : Mem} : bt x y = true ↔ y.p < x.p ∨ (x.p = y.p ∧ x.a < y.a) := by
 unfold bt; rw [Bool.or_eq_true, Bool.and_eq_true, decide_eq_true_eq, decide_eq_true_eq, decide_eq_true_eq]
theorem bt_asymm {x y : Mem} (h : bt x y = true) : ¬ bt y x = true := by rw [bt_iff] at h ⊢; omega
theorem bt_no {x y : Mem} : bt x y = false ↔ ¬ (y.p < x.p ∨ (x.p = y.p ∧ x.a < y.a)) := by rw [← bt_iff, Bool.not_eq_true]
theorem bt_total {x y : Mem} (h : bt y x = false) (ha : x.a ≠ y.a) : bt x y = true := by rw [bt_iff]; rw [bt_no] at h; omega
theorem swo_bt : SWO bt where
 irrefl x := by rw [bt_no]; omega
 trans x y z h1 h2 := by rw [bt_iff] at h1 h2 ⊢; omega
 ntrans x y z h1 h2 := by rw [bt_no] at h1 h2 ⊢; omega
def ltA (x y : Mem) : Bool := decide (x.a < y.a)
theorem swo_ltA : SWO ltA where
 irrefl x := by unfold ltA; rw [decide_eq_false_iff_not]; omega
 trans x y z h1 h2 := by unfold ltA at *; rw [decide_eq_true_eq] at *; omega
 ntrans x y z h1 h2 := by unfold ltA at *; rw [decide_eq_false_iff_not] at *; omega
def mostN (seats : Int) (n : Nat) : Nat := min (min seats.toNat 64) n
/-- R are those who sit. -/
structure SeatsOf (mb seats : Int) (l : List Acc) (R : List Mem) : Prop where
 up : R.Pairwise fun x y => x.a < y.a
 mem : ∀ x ∈ R, x ∈ candM mb l
 len : R.length = mostN seats (candM mb l).length
 best : ∀ x ∈ R, ∀ y ∈ candM mb l, y ∉ R → bt x y = true
theorem nodup_up {R : List Mem} (h : R.Pairwise fun x y => x.a < y.a) : R.Nodup := h.imp fun {x y} h e => by subst e; omega
theorem SeatsOf.sub {mb seats : Int} {l : List Acc} {R R' : List Mem} (h : SeatsOf mb seats l R) (h' : SeatsOf mb seats l R') : ∀ x ∈ R, x ∈ R' := fun x hx => by
 refine Classical.byContradiction fun hn => ?_
 have : ¬ R' ⊆ R := fun hs => by
  have hnd : (x :: R').Nodup := List.nodup_cons.2 ⟨hn, nodup_up h'.up⟩
  have := hnd.length_le_of_subset (l₂ := R) fun y hy => by
   rcases List.mem_cons.1 hy with rfl | hy
   ·exact hx
   ·exact hs hy
  rw [List.length_cons, h.len, h'.len] at this
  omega
 have : ∃ y, y ∈ R' ∧ y ∉ R := Classical.byContradiction fun hh => this fun y hy => Classical.byContradiction fun hq => hh ⟨y, hy, hq⟩
 obtain ⟨y, hy, hy'⟩ := this
 exact bt_asymm (h.best x hx y (h'.mem y hy) hy') (h'.best y hy x (h.mem x hx) hn)
/-- There is but one such list. -/
theorem SeatsOf.uniq {mb seats : Int} {l : List Acc} {R R' : List Mem} (h : SeatsOf mb seats l R) (h' : SeatsOf mb seats l R') : R = R' :=
 List.Perm.eq_of_pairwise (le := fun x y : Mem => x.a < y.a) (fun a b _ _ h1 h2 => by omega) h.up h'.up ((List.perm_ext_iff_of_nodup (nodup_up h.up) (nodup_up h'.up)).2 fun x => ⟨h.sub h' x, h'.sub h x⟩)
theorem cand_up {mb : Int} {l : List Acc} (h : AccFine l) : (candM mb l).Pairwise fun x y => x.a < y.a := by
 unfold candM
 rw [List.pairwise_map]
 refine List.Pairwise.filter _ ?_
 rw [List.pairwise_iff_getElem]
 intro i j hi hj hij
 have := h.mono i j hij hj
 rw [accAt_of (List.getElem?_eq_getElem hi), accAt_of (List.getElem?_eq_getElem hj)] at this
 exact this
/-- What two sorts and a cut leave. -/
theorem seats_of {mb seats : Int} {l : List Acc} {S R : List Mem} (hf : AccFine l) (hp : S.Perm (candM mb l)) (hs : ∀ (i j : Nat) (hij : i < j) (hj : j < S.length), bt S[j] (S[i]'(by omega)) = false)
  (hr : R.Perm (S.take (mostN seats S.length))) (hq : ∀ (i j : Nat) (hij : i < j) (hj : j < R.length), ltA R[j] (R[i]'(by omega)) = false) : SeatsOf mb seats l R := by
 have hcn : ((candM mb l).map Mem.a).Nodup := by
  have := cand_up (mb := mb) hf
  rw [List.nodup_iff_pairwise_ne, List.pairwise_map]
  exact this.imp fun {x y} h => by omega
 have hsn : (S.map Mem.a).Nodup := (hp.map Mem.a).symm.nodup hcn
 have hsne : ∀ (i j : Nat) (hij : i < j) (hj : j < S.length), (S[i]'(by omega)).a ≠ S[j].a := fun i j hij hj => by
  rw [List.nodup_iff_pairwise_ne, List.pairwise_map, List.pairwise_iff_getElem] at hsn
  exact hsn i j (by omega) hj hij
 have hsp : S.Pairwise fun x y => bt x y = true := by
  rw [List.pairwise_iff_getElem]
  exact fun i j hi hj hij => bt_total (hs i j hij hj) (hsne i j hij hj)
 have htn : ((S.take (mostN seats S.length)).map Mem.a).Nodup := by
  rw [List.map_take]; exact List.Pairwise.sublist (List.take_sublist _ _) hsn
 have hrn : (R.map Mem.a).Nodup := (hr.map Mem.a).symm.nodup htn
 have hup : R.Pairwise fun x y => x.a < y.a := by
  rw [List.nodup_iff_pairwise_ne, List.pairwise_map, List.pairwise_iff_getElem] at hrn
  rw [List.pairwise_iff_getElem]
  intro i j hi hj hij
  have h1 := hq i j hij hj
  have h2 := hrn i j hi hj hij
  unfold ltA at h1
  rw [decide_eq_false_iff_not] at h1
  omega
 refine ⟨hup, fun x hx => hp.subset (List.mem_of_mem_take (hr.subset hx)), ?_, fun x hx y hy hn => ?_⟩
 ·rw [hr.length_eq, List.length_take, hp.length_eq]; unfold mostN; omega
 ·have hyS := hp.symm.subset hy
  rw [← List.take_append_drop (mostN seats S.length) S] at hyS hsp
  have hyd : y ∈ S.drop (mostN seats S.length) := by
   rcases List.mem_append.1 hyS with h | h
   ·exact absurd (hr.symm.subset h) hn
   ·exact h
  exact (List.pairwise_append.1 hsp).2.2 x (hr.subset hx) y hyd
/-! ### The document's choice -/
end Go.Proofs.YtfhjhaogmdaepaaGreatDoor

/- Plain: turns of a council. -/
set_option linter.unusedVariables false
set_option linter.unusedSimpArgs false
namespace Go.Proofs.YtfhjhaogmdaepaaGreatDoor
open Go Go.RowKit
def cmpI (x y : Int) : Int := if x < y then -1 else if y < x then 1 else 0
def orI (x y : Int) : Int := if x ≠ 0 then x else y
end Go.Proofs.YtfhjhaogmdaepaaGreatDoor

/- Walks: sums of two words, comparisons. Printed by gen.py. -/
set_option linter.unusedVariables false
set_option linter.unusedSimpArgs false
set_option maxRecDepth 100000
namespace Go.Proofs.YtfhjhaogmdaepaaGreatDoor
open Go Go.RowKit Go.Proofs
theorem cmpu_nan {gl : Nat → Obj} (x : Int) : SpecV (cx gl) 138 [.int .u64 x] noPre (.bool false) := by
 refine Spec.enter (C := cx gl) Tryz.func138 rfl 6 rfl rfl fun w0 h0 hsep hsub hpre => ?_
 obtain rfl : h0 = Heap.none := hsep
 show St (cx gl) _ [(0, .int .u64 x)] _ _
 refine R_seq ?_
 refine R_region ?_
 refine L_val rfl rfl rfl (OpP.v (P_assign rfl rfl)) ?_
 refine L_nil ?_
 refine Q_then ?_
 refine R_seq ?_
 refine R_region ?_
 refine L_val rfl rfl rfl (OpP.v (P_move rfl rfl)) ?_
 refine L_val rfl rfl rfl (OpP.v (P_move rfl rfl)) ?_
 refine L_val rfl rfl rfl (OpP.v (P_neq rfl rfl rfl)) ?_
 refine E_as (t := 5) (v' := .bool false) rfl (by rw [decide_eq_false (fun h => h rfl)]) ?_
 refine L_val rfl rfl rfl (OpP.v (P_assign rfl rfl)) ?_
 refine L_nil ?_
 refine St.env (.cons (t := 2) rfl .nil) ?_
 refine Q_then ?_
 refine R_ret ?_
 exact R_endV rfl rfl (.tmp rfl .nil) (rfl)
theorem cmpu_ok {gl : Nat → Obj} (x y : Int) : SpecV (cx gl) 86 [.int .u64 x, .int .u64 y] noPre (.int .i64 (cmpI x y)) := by
 refine Spec.enter (C := cx gl) Tryz.func86 rfl 20 rfl rfl fun w0 h0 hsep hsub hpre => ?_
 obtain rfl : h0 = Heap.none := hsep
 show St (cx gl) _ [(0, .int .u64 x), (1, .int .u64 y)] _ _
 refine R_seq ?_
 refine R_region ?_
 refine L_val rfl rfl rfl (OpP.v (P_assign rfl rfl)) ?_
 refine L_nil ?_
 refine Q_then ?_
 refine R_seq ?_
 refine R_region ?_
 refine L_val rfl rfl rfl (OpP.v (P_move rfl rfl)) ?_
 refine L_op rfl (W_callV rfl rfl rfl rfl fn_ca_138 (cmpu_nan x) (fun _ _ => trivial) ?_)
 refine L_val rfl rfl rfl (OpP.v (P_assign rfl rfl)) ?_
 refine E_false (t := 5) rfl (rfl) ?_
 refine L_nil ?_
 refine St.env (.cons (t := 0) rfl (.cons (t := 1) rfl (.cons (t := 4) rfl (.cons (t := 5) rfl .nil)))) ?_
 refine Q_then ?_
 refine R_seq ?_
 refine R_region ?_
 refine L_val rfl rfl rfl (OpP.v (P_move rfl rfl)) ?_
 refine L_op rfl (W_callV rfl rfl rfl rfl fn_ca_138 (cmpu_nan y) (fun _ _ => trivial) ?_)
 refine L_val rfl rfl rfl (OpP.v (P_assign rfl rfl)) ?_
 refine E_false (t := 6) rfl (rfl) ?_
 refine L_nil ?_
 refine St.env (.cons (t := 0) rfl (.cons (t := 1) rfl (.cons (t := 4) rfl (.cons (t := 5) rfl (.cons (t := 6) rfl .nil))))) ?_
 refine Q_then ?_
 refine R_seq ?_
 refine R_seq ?_
 refine R_region ?_
 refine L_val rfl rfl rfl (OpP.v (P_move rfl rfl)) ?_
 refine E_false (t := 11) rfl (rfl) ?_
 refine L_nil ?_
 refine St.env (.cons (t := 0) rfl (.cons (t := 1) rfl (.cons (t := 4) rfl (.cons (t := 6) rfl (.cons (t := 11) rfl .nil))))) ?_
 refine Q_then ?_
 refine R_condF rfl ?_
 refine R_skip ?_
 refine Q_then ?_
 refine R_seq ?_
 refine R_seq ?_
 refine R_region ?_
 refine L_val rfl rfl rfl (OpP.v (P_move rfl rfl)) ?_
 refine E_false (t := 13) rfl (rfl) ?_
 refine L_nil ?_
 refine St.env (.cons (t := 0) rfl (.cons (t := 1) rfl (.cons (t := 4) rfl (.cons (t := 13) rfl .nil)))) ?_
 refine Q_then ?_
 refine R_condF rfl ?_
 refine R_skip ?_
 refine Q_then ?_
 refine R_seq ?_
 refine R_seq ?_
 refine R_region ?_
 refine L_val rfl rfl rfl (OpP.v (P_move rfl rfl)) ?_
 refine L_val rfl rfl rfl (OpP.v (P_move rfl rfl)) ?_
 refine L_val rfl rfl rfl (OpP.v (P_lss rfl rfl rfl)) ?_
 refine L_nil ?_
 refine St.env (.cons (t := 0) rfl (.cons (t := 1) rfl (.cons (t := 4) rfl (.cons (t := 16) rfl .nil)))) ?_
 refine Q_then ?_
 refine R_condP rfl (fun h1 => ?_) (fun h1 => ?_)
 ·skip
  refine R_seq ?_
  refine R_region ?_
  refine L_val rfl rfl rfl (OpP.v (P_assign rfl rfl)) ?_
  refine L_nil ?_
  refine St.env (.cons (t := 0) rfl (.cons (t := 1) rfl (.cons (t := 4) rfl .nil))) ?_
  refine Q_then ?_
  refine R_ret ?_
  refine Q_then_ret ?_
  exact R_endV rfl rfl (.tmp rfl .nil) (by unfold cmpI; rw [if_pos h1]; rfl)
 ·skip
  refine R_skip ?_
  refine Q_then ?_
  refine R_seq ?_
  refine R_seq ?_
  refine R_region ?_
  refine L_val rfl rfl rfl (OpP.v (P_move rfl rfl)) ?_
  refine L_val rfl rfl rfl (OpP.v (P_move rfl rfl)) ?_
  refine L_val rfl rfl rfl (OpP.v (P_gtr rfl rfl rfl)) ?_
  refine L_nil ?_
  refine St.env (.cons (t := 4) rfl (.cons (t := 19) rfl .nil)) ?_
  refine Q_then ?_
  refine R_condP rfl (fun h2 => ?_) (fun h2 => ?_)
  ·skip
   refine R_seq ?_
   refine R_region ?_
   refine L_val rfl rfl rfl (OpP.v (P_assign rfl rfl)) ?_
   refine L_nil ?_
   refine St.env (.cons (t := 4) rfl .nil) ?_
   refine Q_then ?_
   refine R_ret ?_
   refine Q_then_ret ?_
   exact R_endV rfl rfl (.tmp rfl .nil) (by unfold cmpI; rw [if_neg h1, if_pos h2]; rfl)
  ·skip
   refine R_skip ?_
   refine Q_then ?_
   refine R_seq ?_
   refine R_region ?_
   refine L_val rfl rfl rfl (OpP.v (P_assign rfl rfl)) ?_
   refine L_nil ?_
   refine St.env (.cons (t := 4) rfl .nil) ?_
   refine Q_then ?_
   refine R_ret ?_
   exact R_endV rfl rfl (.tmp rfl .nil) (by unfold cmpI; rw [if_neg h1, if_neg h2]; rfl)
theorem cmpa_nan {gl : Nat → Obj} (x : Int) : SpecV (cx gl) 139 [.int .u64 x] noPre (.bool false) := by
 refine Spec.enter (C := cx gl) Tryz.func139 rfl 6 rfl rfl fun w0 h0 hsep hsub hpre => ?_
 obtain rfl : h0 = Heap.none := hsep
 show St (cx gl) _ [(0, .int .u64 x)] _ _
 refine R_seq ?_
 refine R_region ?_
 refine L_val rfl rfl rfl (OpP.v (P_assign rfl rfl)) ?_
 refine L_nil ?_
 refine Q_then ?_
 refine R_seq ?_
 refine R_region ?_
 refine L_val rfl rfl rfl (OpP.v (P_move rfl rfl)) ?_
 refine L_val rfl rfl rfl (OpP.v (P_move rfl rfl)) ?_
 refine L_val rfl rfl rfl (OpP.v (P_neq rfl rfl rfl)) ?_
 refine E_as (t := 5) (v' := .bool false) rfl (by rw [decide_eq_false (fun h => h rfl)]) ?_
 refine L_val rfl rfl rfl (OpP.v (P_assign rfl rfl)) ?_
 refine L_nil ?_
 refine St.env (.cons (t := 2) rfl .nil) ?_
 refine Q_then ?_
 refine R_ret ?_
 exact R_endV rfl rfl (.tmp rfl .nil) (rfl)
theorem cmpa_ok {gl : Nat → Obj} (x y : Int) : SpecV (cx gl) 87 [.int .u64 x, .int .u64 y] noPre (.int .i64 (cmpI x y)) := by
 refine Spec.enter (C := cx gl) Tryz.func87 rfl 20 rfl rfl fun w0 h0 hsep hsub hpre => ?_
 obtain rfl : h0 = Heap.none := hsep
 show St (cx gl) _ [(0, .int .u64 x), (1, .int .u64 y)] _ _
 refine R_seq ?_
 refine R_region ?_
 refine L_val rfl rfl rfl (OpP.v (P_assign rfl rfl)) ?_
 refine L_nil ?_
 refine Q_then ?_
 refine R_seq ?_
 refine R_region ?_
 refine L_val rfl rfl rfl (OpP.v (P_move rfl rfl)) ?_
 refine L_op rfl (W_callV rfl rfl rfl rfl fn_ca_139 (cmpa_nan x) (fun _ _ => trivial) ?_)
 refine L_val rfl rfl rfl (OpP.v (P_assign rfl rfl)) ?_
 refine E_false (t := 5) rfl (rfl) ?_
 refine L_nil ?_
 refine St.env (.cons (t := 0) rfl (.cons (t := 1) rfl (.cons (t := 4) rfl (.cons (t := 5) rfl .nil)))) ?_
 refine Q_then ?_
 refine R_seq ?_
 refine R_region ?_
 refine L_val rfl rfl rfl (OpP.v (P_move rfl rfl)) ?_
 refine L_op rfl (W_callV rfl rfl rfl rfl fn_ca_139 (cmpa_nan y) (fun _ _ => trivial) ?_)
 refine L_val rfl rfl rfl (OpP.v (P_assign rfl rfl)) ?_
 refine E_false (t := 6) rfl (rfl) ?_
 refine L_nil ?_
 refine St.env (.cons (t := 0) rfl (.cons (t := 1) rfl (.cons (t := 4) rfl (.cons (t := 5) rfl (.cons (t := 6) rfl .nil))))) ?_
 refine Q_then ?_
 refine R_seq ?_
 refine R_seq ?_
 refine R_region ?_
 refine L_val rfl rfl rfl (OpP.v (P_move rfl rfl)) ?_
 refine E_false (t := 11) rfl (rfl) ?_
 refine L_nil ?_
 refine St.env (.cons (t := 0) rfl (.cons (t := 1) rfl (.cons (t := 4) rfl (.cons (t := 6) rfl (.cons (t := 11) rfl .nil))))) ?_
 refine Q_then ?_
 refine R_condF rfl ?_
 refine R_skip ?_
 refine Q_then ?_
 refine R_seq ?_
 refine R_seq ?_
 refine R_region ?_
 refine L_val rfl rfl rfl (OpP.v (P_move rfl rfl)) ?_
 refine E_false (t := 13) rfl (rfl) ?_
 refine L_nil ?_
 refine St.env (.cons (t := 0) rfl (.cons (t := 1) rfl (.cons (t := 4) rfl (.cons (t := 13) rfl .nil)))) ?_
 refine Q_then ?_
 refine R_condF rfl ?_
 refine R_skip ?_
 refine Q_then ?_
 refine R_seq ?_
 refine R_seq ?_
 refine R_region ?_
 refine L_val rfl rfl rfl (OpP.v (P_move rfl rfl)) ?_
 refine L_val rfl rfl rfl (OpP.v (P_move rfl rfl)) ?_
 refine L_val rfl rfl rfl (OpP.v (P_lss rfl rfl rfl)) ?_
 refine L_nil ?_
 refine St.env (.cons (t := 0) rfl (.cons (t := 1) rfl (.cons (t := 4) rfl (.cons (t := 16) rfl .nil)))) ?_
 refine Q_then ?_
 refine R_condP rfl (fun h1 => ?_) (fun h1 => ?_)
 ·skip
  refine R_seq ?_
  refine R_region ?_
  refine L_val rfl rfl rfl (OpP.v (P_assign rfl rfl)) ?_
  refine L_nil ?_
  refine St.env (.cons (t := 0) rfl (.cons (t := 1) rfl (.cons (t := 4) rfl .nil))) ?_
  refine Q_then ?_
  refine R_ret ?_
  refine Q_then_ret ?_
  exact R_endV rfl rfl (.tmp rfl .nil) (by unfold cmpI; rw [if_pos h1]; rfl)
 ·skip
  refine R_skip ?_
  refine Q_then ?_
  refine R_seq ?_
  refine R_seq ?_
  refine R_region ?_
  refine L_val rfl rfl rfl (OpP.v (P_move rfl rfl)) ?_
  refine L_val rfl rfl rfl (OpP.v (P_move rfl rfl)) ?_
  refine L_val rfl rfl rfl (OpP.v (P_gtr rfl rfl rfl)) ?_
  refine L_nil ?_
  refine St.env (.cons (t := 4) rfl (.cons (t := 19) rfl .nil)) ?_
  refine Q_then ?_
  refine R_condP rfl (fun h2 => ?_) (fun h2 => ?_)
  ·skip
   refine R_seq ?_
   refine R_region ?_
   refine L_val rfl rfl rfl (OpP.v (P_assign rfl rfl)) ?_
   refine L_nil ?_
   refine St.env (.cons (t := 4) rfl .nil) ?_
   refine Q_then ?_
   refine R_ret ?_
   refine Q_then_ret ?_
   exact R_endV rfl rfl (.tmp rfl .nil) (by unfold cmpI; rw [if_neg h1, if_pos h2]; rfl)
  ·skip
   refine R_skip ?_
   refine Q_then ?_
   refine R_seq ?_
   refine R_region ?_
   refine L_val rfl rfl rfl (OpP.v (P_assign rfl rfl)) ?_
   refine L_nil ?_
   refine St.env (.cons (t := 4) rfl .nil) ?_
   refine Q_then ?_
   refine R_ret ?_
   exact R_endV rfl rfl (.tmp rfl .nil) (by unfold cmpI; rw [if_neg h1, if_neg h2]; rfl)
def orL : List Int → Int
 | [] => 0
 | x :: l => if x ≠ 0 then x else orL l
theorem orL_drop {l : List Int} {i : Nat} {x : Int} (h : l[i]? = some x) : orL (l.drop i) = if x ≠ 0 then x else orL (l.drop (i + 1)) := by rw [drop_at h]; rfl
theorem or_ok {gl : Nat → Obj} (b c : Nat) (l : List Int) (hl : l.length ≤ c) (hm : l.length ≤ 1000) : SpecV (cx gl) 85 [.slice (some ⟨b, 0, none⟩) l.length c] (fun w => RowAt w ⟨b, 0, none⟩ (ints .i64 l)) (.int .i64 (orL l)) := by
 refine Spec.enter (C := cx gl) Tryz.func85 rfl 18 rfl rfl fun w0 h0 hsep hsub hpre => ?_
 obtain rfl : h0 = Heap.none := hsep
 show St (cx gl) _ [(0, .slice (some ⟨b, 0, none⟩) l.length c)] _ _
 refine R_seq ?_
 refine R_region ?_
 refine L_val rfl rfl rfl (OpP.v (P_assign rfl rfl)) ?_
 refine L_nil ?_
 refine Q_then ?_
 refine R_seq ?_
 refine R_region ?_
 refine L_val rfl rfl rfl (OpP.v (P_assign rfl rfl)) ?_
 refine L_nil ?_
 refine Q_then ?_
 refine R_seq ?_
 refine R_seq ?_
 refine R_region ?_
 refine L_val rfl rfl rfl (OpP.v (P_move rfl rfl)) ?_
 refine L_val rfl rfl rfl (OpP.v (P_len rfl ty_sl_162 rfl)) ?_
 refine L_val rfl rfl rfl (OpP.v (P_move rfl rfl)) ?_
 refine L_nil ?_
 refine St.env (.cons (t := 2) rfl (.cons (t := 3) rfl (.cons (t := 6) rfl (.cons (t := 7) rfl (.cons (t := 8) rfl .nil))))) ?_
 refine Q_then ?_
 refine R_block ?_
 refine R_loopE (G := Nat) (.cons (t := 2) rfl (.cons (t := 3) rfl (.cons (t := 6) rfl (.cons (t := 7) rfl .nil)))) (fun g => [(8, .int .i64 (g : Int))]) (fun _ => _) (fun g => g ≤ l.length ∧ orL l = orL (l.drop g)) (fun g => l.length - g) (0) (by show (0) ≤ l.length ∧ orL l = orL (l.drop (0)); exact ⟨Nat.zero_le _, rfl⟩) (by repeat (first | exact .nil | refine .cons rfl ?_ | refine .consE rfl (by first | rfl | (congr 1; omega) | (congr 1; push_cast; omega)) ?_)) (Weak.refl _) ?_
 intro i hinv
 replace hinv : i ≤ l.length ∧ orL l = orL (l.drop i) := hinv
 show St (cx gl) _ ((8, .int .i64 (i : Int)) :: _) _ _
 obtain ⟨hi, ho⟩ := hinv
 refine R_seq ?_
 refine R_region ?_
 refine L_val rfl rfl rfl (OpP.v (P_lss rfl rfl rfl)) ?_
 refine L_nil ?_
 refine Q_then ?_
 refine R_seq ?_
 refine R_condP rfl (fun hlt => ?_) (fun hlt => ?_)
 ·skip
  obtain ⟨x, hx⟩ : ∃ x, l[i]? = some x := ⟨_, List.getElem?_eq_getElem (by omega)⟩
  refine R_skip ?_
  refine Q_then ?_
  refine R_seq ?_
  refine R_block ?_
  refine R_seq ?_
  refine R_region ?_
  refine L_val rfl rfl rfl (OpP.v (P_ixs (i) rfl ty_sl_162 rfl rfl (by first | rfl | omega) (by omega))) ?_
  refine L_val rfl rfl rfl (V_load rfl rfl ty_sc_3 (Rd.row hpre rfl (show (ints .i64 l)[i]? = some (.int .i64 x) by simp [ints, hx]))) ?_
  refine L_val rfl rfl rfl (OpP.v (P_assign rfl rfl)) ?_
  refine L_nil ?_
  refine Q_then ?_
  refine R_seq ?_
  refine R_region ?_
  refine L_val rfl rfl rfl (OpP.v (P_move rfl rfl)) ?_
  refine L_val rfl rfl rfl (OpP.v (P_move rfl rfl)) ?_
  refine L_val rfl rfl rfl (OpP.v (P_neq rfl rfl rfl)) ?_
  refine L_nil ?_
  refine Q_then ?_
  refine R_condP rfl (fun hz => ?_) (fun hz => ?_)
  ·skip
   refine R_seq ?_
   refine R_region ?_
   refine L_val rfl rfl rfl (OpP.v (P_move rfl rfl)) ?_
   refine L_val rfl rfl rfl (OpP.v (P_assign rfl rfl)) ?_
   refine L_nil ?_
   refine Q_then ?_
   refine R_ret ?_
   refine Q_block_ret ?_
   refine Q_then_ret ?_
   refine Q_then_ret ?_
   refine Q_block_ret ?_
   refine Q_then_ret ?_
   exact R_endV rfl rfl (.tmp rfl .nil) (by rw [ho, orL_drop hx, if_pos hz]; rfl)
  ·skip
   refine R_skip ?_
   refine Q_block ?_
   refine Q_then ?_
   refine R_region ?_
   first | (refine L_val rfl rfl rfl (OpP.v (P_addN rfl rfl rfl (by simp only [fits]; omega))) ?_) | (refine L_val rfl rfl rfl (OpP.v (P_add rfl rfl rfl)) ?_)
   refine L_val rfl rfl rfl (OpP.v (P_move rfl rfl)) ?_
   refine L_nil ?_
   exact Q_round (i + 1) (by show (i + 1) ≤ l.length ∧ orL l = orL (l.drop (i + 1)); exact ⟨by omega, by rw [ho, orL_drop hx, if_neg hz]⟩) (by show l.length - (i + 1) < l.length - i; omega) (by repeat (first | exact .nil | refine .cons rfl ?_ | refine .consE rfl (by first | rfl | (congr 1; omega) | (congr 1; push_cast; omega)) ?_)) (Weak.refl _)
 ·skip
  refine R_exit ?_
  refine Q_then_exit ?_
  refine Q_then_exit ?_
  refine Q_block_eq ?_
  refine St.env (.cons (t := 2) rfl (.cons (t := 3) rfl .nil)) ?_
  refine Q_then ?_
  refine R_seq ?_
  refine R_region ?_
  refine L_val rfl rfl rfl (OpP.v (P_move rfl rfl)) ?_
  refine L_val rfl rfl rfl (OpP.v (P_assign rfl rfl)) ?_
  refine L_nil ?_
  refine St.env (.cons (t := 2) rfl .nil) ?_
  refine Q_then ?_
  refine R_ret ?_
  exact R_endV rfl rfl (.tmp rfl .nil) (by rw [ho, List.drop_eq_nil_of_le (by omega)]; rfl)
theorem orL2 (x y : Int) : orL [x, y] = orI x y := by
 show (if x ≠ 0 then x else if y ≠ 0 then y else 0) = if x ≠ 0 then x else y
 split
 ·rfl
 ·split
  ·rfl
  ·omega
def laterI (x y : Rel) : Int := orI (cmpI x.h y.h) (cmpI x.a y.a)
def btI (x y : Mem) : Int := orI (cmpI y.p x.p) (cmpI x.a y.a)
theorem later_ok {gl : Nat → Obj} (x y : Rel) : SpecV (cx gl) 107 [.agg x.cells.toArray, .agg y.cells.toArray] noPre (.int .i64 (laterI x y)) := by
 refine Spec.enter (C := cx gl) Tryz.func107 rfl 17 rfl rfl fun w0 h0 hsep hsub hpre => ?_
 obtain rfl : h0 = Heap.none := hsep
 show St (cx gl) _ [(0, .agg x.cells.toArray), (1, .agg y.cells.toArray)] _ _
 refine R_seq ?_
 refine R_region ?_
 refine L_op rfl (W_box (x.cells) rfl rfl rfl rfl rfl fun b2 => ?_)
 refine L_op rfl (W_box (y.cells) rfl rfl rfl rfl rfl fun b3 => ?_)
 refine L_val rfl rfl rfl (OpP.v (P_assign rfl rfl)) ?_
 refine L_nil ?_
 refine St.env (.cons (t := 2) rfl (.cons (t := 3) rfl (.cons (t := 4) rfl .nil))) ?_
 refine Q_then ?_
 refine R_seq ?_
 refine R_open [(0, 0), (1, 1), (2, 0), (3, 1), (5, 0), (6, 1), (7, 0), (8, 1), (4, 2), (9, 2), (10, 2), (11, 2), (12, 0)] mixed (by kernel_rfl) (QOk.then QOk.body) ?_
 refine O_pure rfl rfl rfl rfl (P_fld0 rfl ty_fl_135_0 rfl) ?_
 refine O_val rfl rfl rfl rfl (V_load rfl rfl ty_sc_24 (Rd.blk .h1 rfl)) ?_
 refine O_pure rfl rfl rfl rfl (P_fld0 rfl ty_fl_135_0 rfl) ?_
 refine O_val rfl rfl rfl rfl (V_load rfl rfl ty_sc_24 (Rd.blk .h0 rfl)) ?_
 refine O_pure rfl rfl rfl rfl (P_fld0 rfl ty_fl_135_1 rfl) ?_
 refine O_val rfl rfl rfl rfl (V_load rfl rfl ty_sc_27 (Rd.blk .h1 rfl)) ?_
 refine O_pure rfl rfl rfl rfl (P_fld0 rfl ty_fl_135_1 rfl) ?_
 refine O_val rfl rfl rfl rfl (V_load rfl rfl ty_sc_27 (Rd.blk .h0 rfl)) ?_
 refine O_keep rfl rfl (W_callV rfl rfl rfl rfl fn_ca_86 (cmpu_ok _ _) (fun _ _ => trivial) (K_keep (Weak.refl _) ?_))
 refine O_keep rfl rfl (W_callV rfl rfl rfl rfl fn_ca_87 (cmpa_ok _ _) (fun _ _ => trivial) (K_keep (Weak.refl _) ?_))
 refine O_keep rfl rfl (W_lit (z := .nilIface) (ints .i64 [cmpI x.h y.h, cmpI x.a y.a]) rfl rfl rfl ty_sl_162 ty_lz_162 rfl rfl rfl (by decide) (by decide) (by simp [Value.cells]) (rfl) fun b15 => (K_keep (Weak.drop (Weak.refl _)) ?_))
 refine O_keep rfl rfl (W_callV rfl rfl rfl rfl fn_ca_85 (or_ok b15 2 [cmpI x.h y.h, cmpI x.a y.a] (Nat.le_refl 2) (show 2 ≤ 1000 by decide)) (fun w nw => (Sn.ofBlk .h0).rowAt0 (fun _ _ h => h) w nw) (K_keep (Weak.refl _) ?_))
 refine O_pure rfl rfl rfl rfl (P_assign rfl rfl) ?_
 refine O_nil ?_
 refine St.env (.cons (t := 4) rfl .nil) ?_
 refine Q_then ?_
 refine R_ret ?_
 exact R_endV rfl rfl (.tmp rfl .nil) (congrArg (Value.int .i64) (orL2 _ _))
theorem seats1_ok {gl : Nat → Obj} (x y : Mem) : SpecV (cx gl) 84 [.agg x.cells.toArray, .agg y.cells.toArray] noPre (.int .i64 (btI x y)) := by
 refine Spec.enter (C := cx gl) Tryz.func84 rfl 17 rfl rfl fun w0 h0 hsep hsub hpre => ?_
 obtain rfl : h0 = Heap.none := hsep
 show St (cx gl) _ [(0, .agg x.cells.toArray), (1, .agg y.cells.toArray)] _ _
 refine R_seq ?_
 refine R_region ?_
 refine L_op rfl (W_box (x.cells) rfl rfl rfl rfl rfl fun b2 => ?_)
 refine L_op rfl (W_box (y.cells) rfl rfl rfl rfl rfl fun b3 => ?_)
 refine L_val rfl rfl rfl (OpP.v (P_assign rfl rfl)) ?_
 refine L_nil ?_
 refine St.env (.cons (t := 2) rfl (.cons (t := 3) rfl (.cons (t := 4) rfl .nil))) ?_
 refine Q_then ?_
 refine R_seq ?_
 refine R_open [(0, 0), (1, 1), (2, 0), (3, 1), (5, 0), (6, 1), (7, 0), (8, 1), (4, 2), (9, 2), (10, 2), (11, 2), (12, 0)] mixed (by kernel_rfl) (QOk.then QOk.body) ?_
 refine O_pure rfl rfl rfl rfl (P_fld0 rfl ty_fl_76_1 rfl) ?_
 refine O_val rfl rfl rfl rfl (V_load rfl rfl ty_sc_24 (Rd.blk .h0 rfl)) ?_
 refine O_pure rfl rfl rfl rfl (P_fld0 rfl ty_fl_76_1 rfl) ?_
 refine O_val rfl rfl rfl rfl (V_load rfl rfl ty_sc_24 (Rd.blk .h1 rfl)) ?_
 refine O_pure rfl rfl rfl rfl (P_fld0 rfl ty_fl_76_0 rfl) ?_
 refine O_val rfl rfl rfl rfl (V_load rfl rfl ty_sc_27 (Rd.blk .h1 rfl)) ?_
 refine O_pure rfl rfl rfl rfl (P_fld0 rfl ty_fl_76_0 rfl) ?_
 refine O_val rfl rfl rfl rfl (V_load rfl rfl ty_sc_27 (Rd.blk .h0 rfl)) ?_
 refine O_keep rfl rfl (W_callV rfl rfl rfl rfl fn_ca_86 (cmpu_ok _ _) (fun _ _ => trivial) (K_keep (Weak.refl _) ?_))
 refine O_keep rfl rfl (W_callV rfl rfl rfl rfl fn_ca_87 (cmpa_ok _ _) (fun _ _ => trivial) (K_keep (Weak.refl _) ?_))
 refine O_keep rfl rfl (W_lit (z := .nilIface) (ints .i64 [cmpI y.p x.p, cmpI x.a y.a]) rfl rfl rfl ty_sl_162 ty_lz_162 rfl rfl rfl (by decide) (by decide) (by simp [Value.cells]) (rfl) fun b15 => (K_keep (Weak.drop (Weak.refl _)) ?_))
 refine O_keep rfl rfl (W_callV rfl rfl rfl rfl fn_ca_85 (or_ok b15 2 [cmpI y.p x.p, cmpI x.a y.a] (Nat.le_refl 2) (show 2 ≤ 1000 by decide)) (fun w nw => (Sn.ofBlk .h0).rowAt0 (fun _ _ h => h) w nw) (K_keep (Weak.refl _) ?_))
 refine O_pure rfl rfl rfl rfl (P_assign rfl rfl) ?_
 refine O_nil ?_
 refine St.env (.cons (t := 4) rfl .nil) ?_
 refine Q_then ?_
 refine R_ret ?_
 exact R_endV rfl rfl (.tmp rfl .nil) (congrArg (Value.int .i64) (orL2 _ _))
theorem seats2_ok {gl : Nat → Obj} (x y : Mem) : SpecV (cx gl) 89 [.agg x.cells.toArray, .agg y.cells.toArray] noPre (.int .i64 (cmpI x.a y.a)) := by
 refine Spec.enter (C := cx gl) Tryz.func89 rfl 10 rfl rfl fun w0 h0 hsep hsub hpre => ?_
 obtain rfl : h0 = Heap.none := hsep
 show St (cx gl) _ [(0, .agg x.cells.toArray), (1, .agg y.cells.toArray)] _ _
 refine R_seq ?_
 refine R_region ?_
 refine L_op rfl (W_box (x.cells) rfl rfl rfl rfl rfl fun b2 => ?_)
 refine L_op rfl (W_box (y.cells) rfl rfl rfl rfl rfl fun b3 => ?_)
 refine L_val rfl rfl rfl (OpP.v (P_assign rfl rfl)) ?_
 refine L_nil ?_
 refine St.env (.cons (t := 2) rfl (.cons (t := 3) rfl (.cons (t := 4) rfl .nil))) ?_
 refine Q_then ?_
 refine R_seq ?_
 refine R_region ?_
 refine L_val rfl rfl rfl (OpP.v (P_fld0 rfl ty_fl_76_0 rfl)) ?_
 refine L_val rfl rfl rfl (V_load rfl rfl ty_sc_27 (Rd.blk .h1 rfl)) ?_
 refine L_val rfl rfl rfl (OpP.v (P_fld0 rfl ty_fl_76_0 rfl)) ?_
 refine L_val rfl rfl rfl (V_load rfl rfl ty_sc_27 (Rd.blk .h0 rfl)) ?_
 refine L_op rfl (W_callV rfl rfl rfl rfl fn_ca_87 (cmpa_ok _ _) (fun _ _ => trivial) ?_)
 refine L_val rfl rfl rfl (OpP.v (P_assign rfl rfl)) ?_
 refine L_nil ?_
 refine St.env (.cons (t := 4) rfl .nil) ?_
 refine Q_then ?_
 refine R_ret ?_
 exact R_endV rfl rfl (.tmp rfl .nil) (rfl)
end Go.Proofs.YtfhjhaogmdaepaaGreatDoor

/- Go's sorts of members. Printed by gen.py. -/
set_option linter.unusedVariables false
set_option linter.unusedSimpArgs false
set_option maxRecDepth 100000
namespace Go.Proofs.YtfhjhaogmdaepaaGreatDoor
open Go Go.RowKit Go.Proofs Go.Sort Go.Shelf
def sortM_ren : Go.Shelf.Ren := ⟨fun | 6 => 88 | 15 => 141 | 14 => 140 | 28 => 190 | 29 => 191 | 20 => 181 | 21 => 183 | 22 => 184 | 23 => 185 | 24 => 186 | 25 => 187 | 26 => 188 | 27 => 189 | 46 => 214 | 47 => 215 | 48 => 216 | 49 => 217 | 50 => 218 | 57 => 233 | n => n, fun | 22 => 68 | 24 => 76 | 25 => 157 | 3 => 3 | 39 => 133 | 0 => 0 | 53 => 108 | 55 => 24 | 4 => 4 | 46 => 272 | 45 => 271 | 50 => 158 | 5 => 5 | 9 => 9 | 66 => 296 | 70 => 300 | 76 => 314 | 77 => 315 | n => n, fun | n => n⟩
theorem sortM : Go.Proofs.SlLaysF0.n6 Tryz.prog sortM_ren := {
 mixed := by kernel_rfl
 f6 := ⟨Tryz.f88.name, by decide, Tryz.func88.trans (congrArg some (by kernel_rfl))⟩
 f14 := ⟨Tryz.f140.name, by decide, Tryz.func140.trans (congrArg some (by kernel_rfl))⟩
 f15 := Tryz.func141.trans (congrArg some (by kernel_rfl))
 f20 := ⟨Tryz.f181.name, by decide, Tryz.func181.trans (congrArg some (by kernel_rfl))⟩
 f21 := ⟨Tryz.f183.name, by decide, Tryz.func183.trans (congrArg some (by kernel_rfl))⟩
 f22 := ⟨Tryz.f184.name, by decide, Tryz.func184.trans (congrArg some (by kernel_rfl))⟩
 f23 := ⟨Tryz.f185.name, by decide, Tryz.func185.trans (congrArg some (by kernel_rfl))⟩
 f24 := ⟨Tryz.f186.name, by decide, Tryz.func186.trans (congrArg some (by kernel_rfl))⟩
 f25 := ⟨Tryz.f187.name, by decide, Tryz.func187.trans (congrArg some (by kernel_rfl))⟩
 f26 := ⟨Tryz.f188.name, by decide, Tryz.func188.trans (congrArg some (by kernel_rfl))⟩
 f27 := ⟨Tryz.f189.name, by decide, Tryz.func189.trans (congrArg some (by kernel_rfl))⟩
 f28 := Tryz.func190.trans (congrArg some (by kernel_rfl))
 f29 := Tryz.func191.trans (congrArg some (by kernel_rfl))
 f46 := ⟨Tryz.f214.name, by decide, Tryz.func214.trans (congrArg some (by kernel_rfl))⟩
 f47 := Tryz.func215.trans (congrArg some (by kernel_rfl))
 f48 := Tryz.func216.trans (congrArg some (by kernel_rfl))
 f49 := ⟨Tryz.f217.name, by decide, Tryz.func217.trans (congrArg some (by kernel_rfl))⟩
 f50 := ⟨Tryz.f218.name, by decide, Tryz.func218.trans (congrArg some (by kernel_rfl))⟩
 f57 := ⟨Tryz.f233.name, by decide, Tryz.func233.trans (congrArg some (by kernel_rfl))⟩
 t0 := Tryz.underlying0
 a0 := Tryz.isAgg0
 z0 := Tryz.sizeOf0
 v0 := Tryz.zeroValue0
 t3 := Tryz.underlying3
 a3 := Tryz.isAgg3
 z3 := Tryz.sizeOf3
 v3 := Tryz.zeroValue3
 t4 := Tryz.underlying4
 a4 := Tryz.isAgg4
 z4 := Tryz.sizeOf4
 v4 := Tryz.zeroValue4
 t5 := Tryz.underlying5
 a5 := Tryz.isAgg5
 z5 := Tryz.sizeOf5
 v5 := Tryz.zeroValue5
 t9 := Tryz.underlying9
 a9 := Tryz.isAgg9
 z9 := Tryz.sizeOf9
 v9 := Tryz.zeroValue9
 t22 := Tryz.underlying68
 a22 := Tryz.isAgg68
 z22 := Tryz.sizeOf68
 v22 := Tryz.zeroValue68
 t25 := Tryz.underlying157
 a25 := Tryz.isAgg157
 z25 := Tryz.sizeOf157
 v25 := Tryz.zeroValue157
 t39 := Tryz.underlying133
 a39 := Tryz.isAgg133
 z39 := Tryz.sizeOf133
 v39 := Tryz.zeroValue133
 t45 := Tryz.underlying271
 a45 := Tryz.isAgg271
 z45 := Tryz.sizeOf271
 v45 := Tryz.zeroValue271
 t46 := Tryz.underlying272
 a46 := Tryz.isAgg272
 z46 := Tryz.sizeOf272
 v46 := Tryz.zeroValue272
 t50 := Tryz.underlying158
 a50 := Tryz.isAgg158
 z50 := Tryz.sizeOf158
 v50 := Tryz.zeroValue158
 t53 := Tryz.underlying108
 a53 := Tryz.isAgg108
 z53 := Tryz.sizeOf108
 v53 := Tryz.zeroValue108
 t55 := Tryz.underlying24
 a55 := Tryz.isAgg24
 z55 := Tryz.sizeOf24
 v55 := Tryz.zeroValue24
 t66 := Tryz.underlying296
 a66 := Tryz.isAgg296
 z66 := Tryz.sizeOf296
 v66 := Tryz.zeroValue296
 t70 := Tryz.underlying300
 a70 := Tryz.isAgg300
 z70 := Tryz.sizeOf300
 v70 := Tryz.zeroValue300
 t76 := Tryz.underlying314
 a76 := Tryz.isAgg314
 z76 := Tryz.sizeOf314
 v76 := Tryz.zeroValue314
 t77 := Tryz.underlying315
 a77 := Tryz.isAgg315
 z77 := Tryz.sizeOf315
 v77 := Tryz.zeroValue315 }
theorem ltOf_cmpA : ltOf (fun x y : Mem => cmpI x.a y.a) = ltA := by
 funext x y
 show decide (cmpI x.a y.a < 0) = decide (x.a < y.a)
 rw [decide_eq_decide]; unfold cmpI; split
 ·exact ⟨fun _ => by assumption, fun _ => by decide⟩
 ·split
  ·exact ⟨fun h => absurd h (by decide), fun h => by omega⟩
  ·exact ⟨fun h => absurd h (by decide), fun h => by omega⟩
theorem cmpI_neg (x y : Int) : cmpI x y < 0 ↔ x < y := by
 unfold cmpI; split
 ·exact ⟨fun _ => by assumption, fun _ => by decide⟩
 ·split
  ·exact ⟨fun h => absurd h (by decide), fun h => by omega⟩
  ·exact ⟨fun h => absurd h (by decide), fun h => by omega⟩
theorem cmpI_zero (x y : Int) : cmpI x y = 0 ↔ x = y := by
 unfold cmpI; split
 ·exact ⟨fun h => absurd h (by decide), fun h => by omega⟩
 ·split
  ·exact ⟨fun h => absurd h (by decide), fun h => by omega⟩
  ·exact ⟨fun _ => by omega, fun _ => rfl⟩
theorem btI_neg (x y : Mem) : btI x y < 0 ↔ bt x y = true := by
 rw [bt_iff]
 unfold btI orI
 split
 ·rename_i h; rw [cmpI_neg]; rw [ne_eq, cmpI_zero] at h; omega
 ·rename_i h; rw [cmpI_neg]; rw [ne_eq, cmpI_zero, Classical.not_not] at h; omega
theorem ltOf_bt : ltOf btI = bt := by
 funext x y
 show decide (btI x y < 0) = bt x y
 cases h : bt x y with
 | true => exact decide_eq_true ((btI_neg x y).2 h)
 | false => exact decide_eq_false fun h2 => by rw [(btI_neg x y).1 h2] at h; cases h
theorem half_nat (n : Nat) : shrI .u64 (n : Int) 1 = ((n / 2 : Nat) : Int) := by
 show (n : Int).fdiv (2 ^ 1) = _
 rw [Int.fdiv_eq_ediv_of_nonneg _ (by decide)]; omega
theorem sortM_ok {gl : Nat → Obj} (base : Option Addr) (cap : Nat) (d : Array Mem) (hsz : d.size < 4611686018427387904) : Spec (cx gl) 88 [.slice base d.size cap, .func (.func 89) #[] #[]] (fun _ _ => True) [ownS 76 3 (.slice base d.size cap) d.size (rc (d).toList)] (fun u rs => u = .tuple #[] ∧ ∃ d' : Array Mem, PermIn 0 d.size d d' ∧ SortedIn ltA 0 d.size d' ∧ rs = [ownS 76 3 (.slice base d.size cap) d.size (rc (d').toList)]) := by
 have h := sortFunc_of (C := cx gl) (α := Mem) sortM Tryz.isAgg76 Tryz.sizeOf76 fn_ca_89 (by rw [ltOf_cmpA]; exact swo_ltA) (fun x y => seats2_ok (gl := gl) x y) 76 base cap d hsz
 rw [ltOf_cmpA] at h
 exact h
theorem insM_ok {gl : Nat → Obj} (base : Option Addr) (cap : Nat) (d : Array Mem) (a b : Nat) (hab : a ≤ b) (hb : b ≤ d.size) (hsz : d.size < 4611686018427387904) : Spec (cx gl) 181 [.slice base d.size cap, .int .i64 a, .int .i64 b, .func (.func 84) #[] #[]] (fun _ _ => True) [ownS 76 3 (.slice base d.size cap) d.size (rc (d).toList)] (fun u rs => u = .tuple #[] ∧ ∃ d' : Array Mem, PermIn a b d d' ∧ SortedIn bt a b d' ∧ rs = [ownS 76 3 (.slice base d.size cap) d.size (rc (d').toList)]) := by
 have h := insertion_of (C := cx gl) (α := Mem) (ρ := sortM_ren) { sortM with } Tryz.isAgg76 Tryz.sizeOf76 fn_ca_84 (by rw [ltOf_bt]; exact swo_bt) (fun x y => seats1_ok (gl := gl) x y) 76 base cap d a b hab hb hsz
 rw [ltOf_bt] at h
 exact h
end Go.Proofs.YtfhjhaogmdaepaaGreatDoor

/- Go's stable sort: exchanges and rotations. Printed by gen.py. -/
set_option linter.unusedVariables false
set_option linter.unusedSimpArgs false
set_option maxRecDepth 100000
namespace Go.Proofs.YtfhjhaogmdaepaaGreatDoor
open Go Go.RowKit Go.Proofs Go.Sort
theorem swR_ok {gl : Nat → Obj} (b0 cap : Nat) (d : Array Mem) (a b n : Nat) (h1 : a + n ≤ b) (h2 : b + n ≤ d.size) (hsz : d.size ≤ 4611686018427387) (hcap : d.size ≤ cap) (fv : Value) : SpecR (cx gl) 232 [.slice (some ⟨b0, 0, none⟩) d.size cap, .int .i64 ((a : Nat) : Int), .int .i64 ((b : Nat) : Int), .int .i64 ((n : Nat) : Int), fv] (fun _ _ => True) [ownS 76 3 (.slice (some ⟨b0, 0, none⟩) d.size cap) d.size (rc (d).toList)] (.tuple #[]) [ownS 76 3 (.slice (some ⟨b0, 0, none⟩) d.size cap) d.size (rc (swR d a b n).toList)] := by
 refine Spec.enter (C := cx gl) Tryz.func232 rfl 38 rfl rfl fun w0 h0 hsep hsub hpre => ?_
 show St (cx gl) _ [(0, .slice (some ⟨b0, 0, none⟩) d.size cap), (1, .int .i64 ((a : Nat) : Int)), (2, .int .i64 ((b : Nat) : Int)), (3, .int .i64 ((n : Nat) : Int)), (4, fv)] _ _
 refine R_seq ?_
 refine R_region ?_
 refine L_val rfl rfl rfl (OpP.v (P_assign rfl rfl)) ?_
 refine L_nil ?_
 refine St.env (.cons (t := 0) rfl (.cons (t := 1) rfl (.cons (t := 2) rfl (.cons (t := 3) rfl (.cons (t := 10) rfl .nil))))) ?_
 refine Q_then ?_
 refine R_block ?_
 refine R_loopE (G := Nat) (.cons (t := 0) rfl (.cons (t := 1) rfl (.cons (t := 2) rfl (.cons (t := 3) rfl .nil)))) (fun g => [(10, .int .i64 (g : Int))]) (fun g => [ownS 76 3 (.slice (some ⟨b0, 0, none⟩) d.size cap) d.size (rc (swR d a b g).toList)]) (fun g => g ≤ n) (fun g => n - g) (0) (Nat.zero_le _) (by repeat (first | exact .nil | refine .cons rfl ?_ | refine .consE rfl (by first | rfl | (congr 1; omega) | (congr 1; push_cast; omega)) ?_)) (Weak.refl _) ?_
 intro i hinv
 replace hinv : i ≤ n := hinv
 show St (cx gl) _ ((10, .int .i64 (i : Int)) :: _) [ownS 76 3 (.slice (some ⟨b0, 0, none⟩) d.size cap) d.size (rc (swR d a b i).toList)] _
 refine R_seq ?_
 refine R_seq ?_
 refine R_region ?_
 refine L_val rfl rfl rfl (OpP.v (P_move rfl rfl)) ?_
 refine L_val rfl rfl rfl (OpP.v (P_move rfl rfl)) ?_
 refine L_val rfl rfl rfl (OpP.v (P_lss rfl rfl rfl)) ?_
 refine L_nil ?_
 refine Q_then ?_
 refine R_condP rfl (fun hlt => ?_) (fun hlt => ?_)
 ·skip
  have hs := swR_size d a b i
  have hgj := arr_get (d := swR d a b i) (i := b + i) (by omega)
  have hgi := arr_get (d := swR d a b i) (i := a + i) (by omega)
  refine R_skip ?_
  refine Q_then ?_
  refine R_seq ?_
  refine R_block ?_
  refine R_open [(0, 0), (1, 0), (2, 0), (3, 0), (4, 0), (5, 0), (6, 0), (7, 0), (8, 0), (9, 0), (10, 0), (11, 0), (12, 0), (13, 1), (14, 0), (15, 0), (16, 0), (17, 0), (18, 0), (19, 1), (20, 0), (21, 3), (22, 0), (23, 3)] mixed (by kernel_rfl) (QOk.block (QOk.then (QOk.then (QOk.block QOk.body)))) ?_
  refine O_pure rfl rfl rfl rfl (P_move rfl rfl) ?_
  refine O_pure rfl rfl rfl rfl (P_move rfl rfl) ?_
  refine O_pure rfl rfl rfl rfl (P_move rfl rfl) ?_
  first | (refine O_pure rfl rfl rfl rfl (P_addN rfl rfl rfl (by simp only [fits]; omega)) ?_) | (refine O_pure rfl rfl rfl rfl (P_add rfl rfl rfl) ?_)
  refine O_pure rfl rfl rfl rfl (P_move rfl rfl) ?_
  refine O_pure rfl rfl rfl rfl (P_move rfl rfl) ?_
  refine O_pure rfl rfl rfl rfl (P_move rfl rfl) ?_
  first | (refine O_pure rfl rfl rfl rfl (P_addN rfl rfl rfl (by simp only [fits]; omega)) ?_) | (refine O_pure rfl rfl rfl rfl (P_add rfl rfl rfl) ?_)
  refine O_pure rfl rfl rfl rfl (P_move rfl rfl) ?_
  refine O_pure rfl rfl rfl rfl (P_move rfl rfl) ?_
  refine O_pure rfl rfl rfl rfl (P_move rfl rfl) ?_
  first | (refine O_pure rfl rfl rfl rfl (P_addN rfl rfl rfl (by simp only [fits]; omega)) ?_) | (refine O_pure rfl rfl rfl rfl (P_add rfl rfl rfl) ?_)
  refine O_pure rfl rfl rfl rfl (P_ixs (b + i) rfl ty_sl_68 rfl rfl (by first | rfl | omega) (by omega)) ?_
  refine O_val rfl rfl rfl rfl (V_loadAgg rfl rfl ty_ag_76 (rds_rc (rds_own .h0) hgj) (rfl)) ?_
  refine O_pure rfl rfl rfl rfl (P_move rfl rfl) ?_
  refine O_pure rfl rfl rfl rfl (P_move rfl rfl) ?_
  refine O_pure rfl rfl rfl rfl (P_move rfl rfl) ?_
  first | (refine O_pure rfl rfl rfl rfl (P_addN rfl rfl rfl (by simp only [fits]; omega)) ?_) | (refine O_pure rfl rfl rfl rfl (P_add rfl rfl rfl) ?_)
  refine O_pure rfl rfl rfl rfl (P_ixs (a + i) rfl ty_sl_68 rfl rfl (by first | rfl | omega) (by omega)) ?_
  refine O_val rfl rfl rfl rfl (V_loadAgg rfl rfl ty_ag_76 (rds_rc (rds_own .h0) hgi) (rfl)) ?_
  refine O_pure rfl rfl rfl rfl (P_ixs (a + i) rfl ty_sl_68 rfl rfl (by first | rfl | omega) (by omega)) ?_
  refine O_new rfl rfl (W_storeOwn (T := 76) (sz := 3) (n := d.size) (c := cap) (cs := rc (swR d a b i).toList) rfl rfl rfl rfl ty_ag_76 rfl (Mem.cells_one _) .h0 (by rw [rc_length]; simp only [Array.length_toList]; show 0 + (a + i) * 3 + 3 ≤ _ * 3; omega) ?_)
  refine St.res (rs' := [ownS 76 3 (.slice (some ⟨b0, 0, none⟩) d.size cap) d.size (rc ((swR d a b i).toList.set (a + i) (swR d a b i)[b + i]!))]) ((by have h9 := rc_splice (l := (swR d a b i).toList) (i := a + i) (swR d a b i)[b + i]! (by simp only [Array.length_toList]; omega); rw [show Rec.n Mem = 3 from rfl] at h9; rw [Nat.zero_add, h9]; exact Weak.refl _)) ?_
  refine K_new ?_
  refine O_pure rfl rfl rfl rfl (P_ixs (b + i) rfl ty_sl_68 rfl rfl (by first | rfl | omega) (by omega)) ?_
  refine O_new rfl rfl (W_storeOwn (T := 76) (sz := 3) (n := d.size) (c := cap) (cs := rc ((swR d a b i).toList.set (a + i) (swR d a b i)[b + i]!)) rfl rfl rfl rfl ty_ag_76 rfl (Mem.cells_one _) .h0 (by rw [rc_length]; rw [List.length_set]; simp only [Array.length_toList]; show 0 + (b + i) * 3 + 3 ≤ _ * 3; omega) ?_)
  refine St.res (rs' := [ownS 76 3 (.slice (some ⟨b0, 0, none⟩) d.size cap) d.size (rc (swp (swR d a b i) (a + i) (b + i)).toList)]) ((by have h9 := rc_splice (l := (swR d a b i).toList.set (a + i) (swR d a b i)[b + i]!) (i := b + i) (swR d a b i)[a + i]! (by rw [List.length_set]; simp only [Array.length_toList]; omega); rw [show Rec.n Mem = 3 from rfl] at h9; rw [Nat.zero_add, h9, ← swp_toList]; exact Weak.refl _)) ?_
  refine K_new ?_
  refine O_nil ?_
  refine Q_block ?_
  refine Q_then ?_
  refine R_region ?_
  refine L_val rfl rfl rfl (OpP.v (P_move rfl rfl)) ?_
  first | (refine L_val rfl rfl rfl (OpP.v (P_addN rfl rfl rfl (by simp only [fits]; omega))) ?_) | (refine L_val rfl rfl rfl (OpP.v (P_add rfl rfl rfl)) ?_)
  refine L_val rfl rfl rfl (OpP.v (P_assign rfl rfl)) ?_
  refine L_nil ?_
  exact Q_round (i + 1) (by omega) (by show n - (i + 1) < n - i; omega) (by repeat (first | exact .nil | refine .cons rfl ?_ | refine .consE rfl (by first | rfl | (congr 1; omega) | (congr 1; push_cast; omega)) ?_)) (Weak.refl _)
 ·skip
  have hin : i = n := by omega
  rw [hin]
  refine R_exit ?_
  refine Q_then_exit ?_
  refine Q_then_exit ?_
  refine Q_block_eq ?_
  refine St.env (.nil) ?_
  exact R_end0 (rs2 := _) rfl rfl (.nil) (⟨rfl, rfl⟩) (Weak.refl _)
theorem rot_ok {gl : Nat → Obj} (b0 cap : Nat) (d : Array Mem) (a m b : Nat) (ham : a < m) (hmb : m < b) (hb : b ≤ d.size) (hsz : d.size ≤ 4611686018427387) (hcap : d.size ≤ cap) (fv : Value) : Spec (cx gl) 213 [.slice (some ⟨b0, 0, none⟩) d.size cap, .int .i64 ((a : Nat) : Int), .int .i64 ((m : Nat) : Int), .int .i64 ((b : Nat) : Int), fv] (fun _ _ => True) [ownS 76 3 (.slice (some ⟨b0, 0, none⟩) d.size cap) d.size (rc (d).toList)] (fun u rs => u = .tuple #[] ∧ ∃ d' : Array Mem, (Rot a m b d d' ∧ PermIn a b d d') ∧ rs = [ownS 76 3 (.slice (some ⟨b0, 0, none⟩) d.size cap) d.size (rc (d').toList)]) := by
 refine Spec.enter (C := cx gl) Tryz.func213 rfl 58 rfl rfl fun w0 h0 hsep hsub hpre => ?_
 show St (cx gl) _ [(0, .slice (some ⟨b0, 0, none⟩) d.size cap), (1, .int .i64 ((a : Nat) : Int)), (2, .int .i64 ((m : Nat) : Int)), (3, .int .i64 ((b : Nat) : Int)), (4, fv)] _ _
 refine R_seq ?_
 refine R_region ?_
 refine L_val rfl rfl rfl (OpP.v (P_move rfl rfl)) ?_
 refine L_val rfl rfl rfl (OpP.v (P_move rfl rfl)) ?_
 first | (refine L_val rfl rfl rfl (OpP.v (P_subN rfl rfl rfl (by simp only [fits]; omega))) ?_) | (refine L_val rfl rfl rfl (OpP.v (P_sub rfl rfl rfl)) ?_)
 refine E_as (t := 14) (v' := .int .i64 ((m - a : Nat) : Int)) rfl (by congr 1; omega) ?_
 refine L_val rfl rfl rfl (OpP.v (P_assign rfl rfl)) ?_
 refine L_nil ?_
 refine St.env (.cons (t := 0) rfl (.cons (t := 2) rfl (.cons (t := 3) rfl (.cons (t := 4) rfl (.cons (t := 10) rfl .nil))))) ?_
 refine Q_then ?_
 refine R_seq ?_
 refine R_region ?_
 refine L_val rfl rfl rfl (OpP.v (P_move rfl rfl)) ?_
 refine L_val rfl rfl rfl (OpP.v (P_move rfl rfl)) ?_
 first | (refine L_val rfl rfl rfl (OpP.v (P_subN rfl rfl rfl (by simp only [fits]; omega))) ?_) | (refine L_val rfl rfl rfl (OpP.v (P_sub rfl rfl rfl)) ?_)
 refine E_as (t := 17) (v' := .int .i64 ((b - m : Nat) : Int)) rfl (by congr 1; omega) ?_
 refine L_val rfl rfl rfl (OpP.v (P_assign rfl rfl)) ?_
 refine L_nil ?_
 refine St.env (.cons (t := 0) rfl (.cons (t := 2) rfl (.cons (t := 4) rfl (.cons (t := 10) rfl (.cons (t := 11) rfl .nil))))) ?_
 refine Q_then ?_
 refine R_seq ?_
 refine R_block ?_
 refine R_loopE (G := Nat × Nat × Array Mem) (.cons (t := 0) rfl (.cons (t := 2) rfl (.cons (t := 4) rfl .nil))) (fun g => [(10, .int .i64 ((g.1 : Nat) : Int)), (11, .int .i64 ((g.2.1 : Nat) : Int))]) (fun g => [ownS 76 3 (.slice (some ⟨b0, 0, none⟩) d.size cap) d.size (rc (g.2.2).toList)]) (fun g => 0 < g.1 ∧ 0 < g.2.1 ∧ a + g.1 ≤ m ∧ m + g.2.1 ≤ b ∧ g.2.2.size = d.size ∧ PermIn a b d g.2.2 ∧ ∀ d', Rot (m - g.1) m (m + g.2.1) g.2.2 d' → Rot a m b d d') (fun g => g.1 + g.2.1) (m - a, b - m, d) (by show 0 < (m - a) ∧ 0 < (b - m) ∧ a + (m - a) ≤ m ∧ m + (b - m) ≤ b ∧ (d).size = d.size ∧ PermIn a b d (d) ∧ ∀ d', Rot (m - (m - a)) m (m + (b - m)) (d) d' → Rot a m b d d'; exact ⟨by omega, by omega, by omega, by omega, rfl, permIn_refl _ _ _, fun d' h => by rwa [show m - (m - a) = a by omega, show m + (b - m) = b by omega] at h⟩) (by repeat (first | exact .nil | refine .cons rfl ?_ | refine .consE rfl (by first | rfl | (congr 1; omega) | (congr 1; push_cast; omega)) ?_)) (Weak.refl _) ?_
 rintro ⟨i, j, e⟩ hinv
 replace hinv : 0 < i ∧ 0 < j ∧ a + i ≤ m ∧ m + j ≤ b ∧ e.size = d.size ∧ PermIn a b d e ∧ ∀ d', Rot (m - i) m (m + j) e d' → Rot a m b d d' := hinv
 show St (cx gl) _ ((10, .int .i64 ((i : Nat) : Int)) :: (11, .int .i64 ((j : Nat) : Int)) :: _) [ownS 76 3 (.slice (some ⟨b0, 0, none⟩) d.size cap) d.size (rc (e).toList)] _
 obtain ⟨hi0, hj0, hai, hbj, hes, hpe, hrot⟩ := hinv
 refine R_seq ?_
 refine R_seq ?_
 refine R_region ?_
 refine L_val rfl rfl rfl (OpP.v (P_move rfl rfl)) ?_
 refine L_val rfl rfl rfl (OpP.v (P_move rfl rfl)) ?_
 refine L_val rfl rfl rfl (OpP.v (P_neq rfl rfl rfl)) ?_
 refine L_nil ?_
 refine Q_then ?_
 refine R_condP rfl (fun hne => ?_) (fun hne => ?_)
 ·skip
  have hne : i ≠ j := by intro h; apply hne; rw [h]
  have hsw : ∀ x y n, x + n ≤ y → y + n ≤ d.size → SpecR (cx gl) 232 [.slice (some ⟨b0, 0, none⟩) d.size cap, .int .i64 ((x : Nat) : Int), .int .i64 ((y : Nat) : Int), .int .i64 ((n : Nat) : Int), fv] (fun _ _ => True) [ownS 76 3 (.slice (some ⟨b0, 0, none⟩) d.size cap) d.size (rc (e).toList)] (.tuple #[]) [ownS 76 3 (.slice (some ⟨b0, 0, none⟩) d.size cap) d.size (rc (swR e x y n).toList)] := fun x y n hx hy => by have h9 := swR_ok (gl := gl) b0 cap e x y n hx (by omega) (by omega) (by omega) fv; rw [hes] at h9; exact h9
  refine R_skip ?_
  refine Q_then ?_
  refine R_block ?_
  refine R_seq ?_
  refine R_region ?_
  refine L_val rfl rfl rfl (OpP.v (P_move rfl rfl)) ?_
  refine L_val rfl rfl rfl (OpP.v (P_move rfl rfl)) ?_
  refine L_val rfl rfl rfl (OpP.v (P_gtr rfl rfl rfl)) ?_
  refine L_nil ?_
  refine Q_then ?_
  refine R_condP rfl (fun hgt => ?_) (fun hgt => ?_)
  ·skip
   have hgt : j < i := by omega
   refine R_seq ?_
   refine R_region ?_
   refine L_val rfl rfl rfl (OpP.v (P_move rfl rfl)) ?_
   refine L_val rfl rfl rfl (OpP.v (P_move rfl rfl)) ?_
   refine L_val rfl rfl rfl (OpP.v (P_move rfl rfl)) ?_
   first | (refine L_val rfl rfl rfl (OpP.v (P_subN rfl rfl rfl (by simp only [fits]; omega))) ?_) | (refine L_val rfl rfl rfl (OpP.v (P_sub rfl rfl rfl)) ?_)
   refine E_as (t := 27) (v' := .int .i64 ((m - i : Nat) : Int)) rfl (by congr 1; omega) ?_
   refine L_val rfl rfl rfl (OpP.v (P_move rfl rfl)) ?_
   refine L_val rfl rfl rfl (OpP.v (P_move rfl rfl)) ?_
   refine L_val rfl rfl rfl (OpP.v (P_move rfl rfl)) ?_
   refine L_op rfl (W_call rfl rfl rfl rfl fn_ca_232 (hsw (m - i) (m) (j) (by omega) (by omega)) (Split.one (p := [])) (fun _ _ _ _ _ _ _ => trivial) fun vv rs1 ⟨e1, e2⟩ => ?_)
   subst e1; subst e2
   refine St.res (rs' := [ownS 76 3 (.slice (some ⟨b0, 0, none⟩) d.size cap) d.size (rc (swR e (m - i) (m) (j)).toList)]) (Weak.refl _) ?_
   refine L_nil ?_
   refine St.env (.cons (t := 0) rfl (.cons (t := 2) rfl (.cons (t := 4) rfl (.cons (t := 10) rfl (.cons (t := 11) rfl (.cons (t := 18) rfl (.cons (t := 19) rfl (.cons (t := 20) rfl (.cons (t := 21) rfl (.cons (t := 22) rfl (.cons (t := 23) rfl (.cons (t := 24) rfl (.cons (t := 25) rfl (.cons (t := 26) rfl (.cons (t := 27) rfl (.cons (t := 28) rfl (.cons (t := 29) rfl (.cons (t := 30) rfl .nil)))))))))))))))))) ?_
   refine Q_then ?_
   refine R_region ?_
   refine L_val rfl rfl rfl (OpP.v (P_move rfl rfl)) ?_
   refine L_val rfl rfl rfl (OpP.v (P_move rfl rfl)) ?_
   first | (refine L_val rfl rfl rfl (OpP.v (P_subN rfl rfl rfl (by simp only [fits]; omega))) ?_) | (refine L_val rfl rfl rfl (OpP.v (P_sub rfl rfl rfl)) ?_)
   refine E_as (t := 34) (v' := .int .i64 ((i - j : Nat) : Int)) rfl (by congr 1; omega) ?_
   refine L_val rfl rfl rfl (OpP.v (P_assign rfl rfl)) ?_
   refine L_nil ?_
   refine Q_block ?_
   exact Q_round (i - j, j, swR e (m - i) m j) (by show 0 < (i - j) ∧ 0 < (j) ∧ a + (i - j) ≤ m ∧ m + (j) ≤ b ∧ (swR e (m - i) m j).size = d.size ∧ PermIn a b d (swR e (m - i) m j) ∧ ∀ d', Rot (m - (i - j)) m (m + (j)) (swR e (m - i) m j) d' → Rot a m b d d'; exact ⟨by omega, hj0, by omega, hbj, by rw [swR_size]; exact hes, permTr hpe (swR_perm e (m - i) m a b (by omega) (by omega) j (by omega) (by omega)), fun d' h => hrot d' (Rot.left hj0 (by omega) (by omega) (by omega) h)⟩) (by show i - j + j < i + j; omega) (by repeat (first | exact .nil | refine .cons rfl ?_ | refine .consE rfl (by first | rfl | (congr 1; omega) | (congr 1; push_cast; omega)) ?_)) (Weak.refl _)
  ·skip
   have hgt : i < j := by omega
   refine R_seq ?_
   refine R_region ?_
   refine L_val rfl rfl rfl (OpP.v (P_move rfl rfl)) ?_
   refine L_val rfl rfl rfl (OpP.v (P_move rfl rfl)) ?_
   refine L_val rfl rfl rfl (OpP.v (P_move rfl rfl)) ?_
   first | (refine L_val rfl rfl rfl (OpP.v (P_subN rfl rfl rfl (by simp only [fits]; omega))) ?_) | (refine L_val rfl rfl rfl (OpP.v (P_sub rfl rfl rfl)) ?_)
   refine E_as (t := 38) (v' := .int .i64 ((m - i : Nat) : Int)) rfl (by congr 1; omega) ?_
   refine L_val rfl rfl rfl (OpP.v (P_move rfl rfl)) ?_
   refine L_val rfl rfl rfl (OpP.v (P_move rfl rfl)) ?_
   first | (refine L_val rfl rfl rfl (OpP.v (P_addN rfl rfl rfl (by simp only [fits]; omega))) ?_) | (refine L_val rfl rfl rfl (OpP.v (P_add rfl rfl rfl)) ?_)
   refine L_val rfl rfl rfl (OpP.v (P_move rfl rfl)) ?_
   first | (refine L_val rfl rfl rfl (OpP.v (P_subN rfl rfl rfl (by simp only [fits]; omega))) ?_) | (refine L_val rfl rfl rfl (OpP.v (P_sub rfl rfl rfl)) ?_)
   refine E_as (t := 43) (v' := .int .i64 ((m + j - i : Nat) : Int)) rfl (by congr 1; omega) ?_
   refine L_val rfl rfl rfl (OpP.v (P_move rfl rfl)) ?_
   refine L_val rfl rfl rfl (OpP.v (P_move rfl rfl)) ?_
   refine L_op rfl (W_call rfl rfl rfl rfl fn_ca_232 (hsw (m - i) (m + j - i) (i) (by omega) (by omega)) (Split.one (p := [])) (fun _ _ _ _ _ _ _ => trivial) fun vv rs1 ⟨e1, e2⟩ => ?_)
   subst e1; subst e2
   refine St.res (rs' := [ownS 76 3 (.slice (some ⟨b0, 0, none⟩) d.size cap) d.size (rc (swR e (m - i) (m + j - i) (i)).toList)]) (Weak.refl _) ?_
   refine L_nil ?_
   refine St.env (.cons (t := 0) rfl (.cons (t := 2) rfl (.cons (t := 4) rfl (.cons (t := 10) rfl (.cons (t := 11) rfl (.cons (t := 18) rfl (.cons (t := 19) rfl (.cons (t := 20) rfl (.cons (t := 21) rfl (.cons (t := 22) rfl (.cons (t := 23) rfl (.cons (t := 35) rfl (.cons (t := 36) rfl (.cons (t := 37) rfl (.cons (t := 38) rfl (.cons (t := 39) rfl (.cons (t := 40) rfl (.cons (t := 41) rfl (.cons (t := 42) rfl (.cons (t := 43) rfl (.cons (t := 44) rfl (.cons (t := 45) rfl .nil)))))))))))))))))))))) ?_
   refine Q_then ?_
   refine R_region ?_
   refine L_val rfl rfl rfl (OpP.v (P_move rfl rfl)) ?_
   refine L_val rfl rfl rfl (OpP.v (P_move rfl rfl)) ?_
   first | (refine L_val rfl rfl rfl (OpP.v (P_subN rfl rfl rfl (by simp only [fits]; omega))) ?_) | (refine L_val rfl rfl rfl (OpP.v (P_sub rfl rfl rfl)) ?_)
   refine E_as (t := 49) (v' := .int .i64 ((j - i : Nat) : Int)) rfl (by congr 1; omega) ?_
   refine L_val rfl rfl rfl (OpP.v (P_assign rfl rfl)) ?_
   refine L_nil ?_
   refine Q_block ?_
   exact Q_round (i, j - i, swR e (m - i) (m + j - i) i) (by show 0 < (i) ∧ 0 < (j - i) ∧ a + (i) ≤ m ∧ m + (j - i) ≤ b ∧ (swR e (m - i) (m + j - i) i).size = d.size ∧ PermIn a b d (swR e (m - i) (m + j - i) i) ∧ ∀ d', Rot (m - (i)) m (m + (j - i)) (swR e (m - i) (m + j - i) i) d' → Rot a m b d d'; exact ⟨hi0, by omega, hai, by omega, by rw [swR_size]; exact hes, permTr hpe (swR_perm e (m - i) (m + j - i) a b (by omega) (by omega) i (by omega) (by omega)), fun d' h => hrot d' (Rot.right hi0 (by omega) (by omega) (by omega) h)⟩) (by show i + (j - i) < i + j; omega) (by repeat (first | exact .nil | refine .cons rfl ?_ | refine .consE rfl (by first | rfl | (congr 1; omega) | (congr 1; push_cast; omega)) ?_)) (Weak.refl _)
 ·skip
  have hij : i = j := by omega
  rw [← hij]
  have hsw : ∀ x y n, x + n ≤ y → y + n ≤ d.size → SpecR (cx gl) 232 [.slice (some ⟨b0, 0, none⟩) d.size cap, .int .i64 ((x : Nat) : Int), .int .i64 ((y : Nat) : Int), .int .i64 ((n : Nat) : Int), fv] (fun _ _ => True) [ownS 76 3 (.slice (some ⟨b0, 0, none⟩) d.size cap) d.size (rc (e).toList)] (.tuple #[]) [ownS 76 3 (.slice (some ⟨b0, 0, none⟩) d.size cap) d.size (rc (swR e x y n).toList)] := fun x y n hx hy => by have h9 := swR_ok (gl := gl) b0 cap e x y n hx (by omega) (by omega) (by omega) fv; rw [hes] at h9; exact h9
  refine R_exit ?_
  refine Q_then_exit ?_
  refine Q_then_exit ?_
  refine Q_block_eq ?_
  refine St.env (.cons (t := 0) rfl (.cons (t := 2) rfl (.cons (t := 4) rfl (.cons (t := 10) rfl .nil)))) ?_
  refine Q_then ?_
  refine R_region ?_
  refine L_val rfl rfl rfl (OpP.v (P_move rfl rfl)) ?_
  refine L_val rfl rfl rfl (OpP.v (P_move rfl rfl)) ?_
  refine L_val rfl rfl rfl (OpP.v (P_move rfl rfl)) ?_
  first | (refine L_val rfl rfl rfl (OpP.v (P_subN rfl rfl rfl (by simp only [fits]; omega))) ?_) | (refine L_val rfl rfl rfl (OpP.v (P_sub rfl rfl rfl)) ?_)
  refine E_as (t := 53) (v' := .int .i64 ((m - i : Nat) : Int)) rfl (by congr 1; omega) ?_
  refine L_val rfl rfl rfl (OpP.v (P_move rfl rfl)) ?_
  refine L_val rfl rfl rfl (OpP.v (P_move rfl rfl)) ?_
  refine L_val rfl rfl rfl (OpP.v (P_move rfl rfl)) ?_
  refine L_op rfl (W_call rfl rfl rfl rfl fn_ca_232 (hsw (m - i) (m) (i) (by omega) (by omega)) (Split.one (p := [])) (fun _ _ _ _ _ _ _ => trivial) fun vv rs1 ⟨e1, e2⟩ => ?_)
  subst e1; subst e2
  refine St.res (rs' := [ownS 76 3 (.slice (some ⟨b0, 0, none⟩) d.size cap) d.size (rc (swR e (m - i) (m) (i)).toList)]) (Weak.refl _) ?_
  refine L_nil ?_
  refine St.env (.nil) ?_
  exact R_end0 (rs2 := _) rfl rfl (.nil) (⟨rfl, _, ⟨hrot _ (by rw [← hij]; exact Rot.same (by omega) (by omega)), permTr hpe (swR_perm e (m - i) m a b (by omega) (by omega) i (by omega) (by omega))⟩, rfl⟩) (Weak.refl _)
end Go.Proofs.YtfhjhaogmdaepaaGreatDoor

/- Go's stable sort: merging. Printed by gen.py. -/
set_option linter.unusedVariables false
set_option linter.unusedSimpArgs false
set_option maxRecDepth 100000
namespace Go.Proofs.YtfhjhaogmdaepaaGreatDoor
open Go Go.RowKit Go.Proofs Go.Sort
def SymOk (gl : Nat → Obj) (N : Nat) : Prop := ∀ (b0 cap : Nat) (d : Array Mem) (a m b : Nat), b - a ≤ N → a < m → m < b → b ≤ d.size → d.size ≤ 4611686018427387 → d.size ≤ cap → SortedIn bt a m d → SortedIn bt m b d → Spec (cx gl) 182 [.slice (some ⟨b0, 0, none⟩) d.size cap, .int .i64 ((a : Nat) : Int), .int .i64 ((m : Nat) : Int), .int .i64 ((b : Nat) : Int), .func (.func 84) #[] #[]] (fun _ _ => True) [ownS 76 3 (.slice (some ⟨b0, 0, none⟩) d.size cap) d.size (rc (d).toList)] (fun u rs => u = .tuple #[] ∧ ∃ d' : Array Mem, (PermIn a b d d' ∧ SortedIn bt a b d') ∧ rs = [ownS 76 3 (.slice (some ⟨b0, 0, none⟩) d.size cap) d.size (rc (d').toList)])
theorem up_all {lo i : Nat} {p : Nat → Prop} (_ : ∀ c, lo ≤ c → c < i → p c) (m : Nat) (k : ∀ c, lo ≤ c → c ≤ m → p c) : ∀ c, lo ≤ c → c < m + 1 → p c := fun c h1 h2 => k c h1 (by omega)
theorem down_all {j hi : Nat} {p : Nat → Prop} (_ : ∀ c, j ≤ c → c < hi → p c) (m : Nat) (k : ∀ c, m ≤ c → c < hi → p c) : ∀ c, m ≤ c → c < hi → p c := k
section
variable {d : Array Mem} {a m b h c mid : Nat}
theorem le_sorted {lo hi : Nat} (hs : SortedIn bt lo hi d) {i j : Nat} (h1 : lo ≤ i) (h2 : i ≤ j) (h3 : j < hi) : bt d[j]! d[i]! = false := by
 rcases Nat.lt_or_ge i j with h | h
 ·exact hs i j h1 h h3
 ·rw [show i = j by omega]; exact swo_bt.irrefl _
theorem up_1 (hs : SortedIn bt m b d) (h1 : m ≤ c) (h2 : c ≤ h) (h3 : h < b) (hb : bt d[h]! d[a]! = true) : bt d[c]! d[a]! = true := lt_down swo_bt (le_sorted hs h1 h2 h3) hb
theorem down_1 (hs : SortedIn bt m b d) (h1 : m ≤ h) (h2 : h ≤ c) (h3 : c < b) (hb : bt d[h]! d[a]! = false) : bt d[c]! d[a]! = false := swo_bt.ntrans _ _ _ (le_sorted hs h1 h2 h3) hb
theorem up_2 (hs : SortedIn bt a m d) (h1 : a ≤ c) (h2 : c ≤ h) (h3 : h < m) (hb : bt d[m]! d[h]! = false) : bt d[m]! d[c]! = false := swo_bt.ntrans _ _ _ hb (le_sorted hs h1 h2 h3)
theorem down_2 (hs : SortedIn bt a m d) (h1 : a ≤ h) (h2 : h ≤ c) (h3 : c < m) (hb : bt d[m]! d[h]! = true) : bt d[m]! d[c]! = true := lt_up swo_bt (le_sorted hs h1 h2 h3) hb
theorem search_mono' (hL : SortedIn bt a m d) (hR : SortedIn bt m b d) (h1 : a ≤ h) (h2 : h ≤ c) (h3 : c < m) (h4 : m ≤ mid + m - 1 - c) (h5 : mid + m - 1 - h < b) (hb : bt d[mid + m - 1 - h]! d[h]! = true) : bt d[mid + m - 1 - c]! d[c]! = true :=
 lt_down swo_bt (le_sorted hR h4 (by omega) h5) (lt_up swo_bt (le_sorted hL h1 h2 h3) hb)
theorem up_3 (hL : SortedIn bt a m d) (hR : SortedIn bt m b d) (h1 : a ≤ c) (h2 : c ≤ h) (h3 : h < m) (h4 : m ≤ mid + m - 1 - h) (h5 : mid + m - 1 - c < b) (hb : bt d[mid + m - 1 - h]! d[h]! = false) : bt d[mid + m - 1 - c]! d[c]! = false := by
 cases hc : bt d[mid + m - 1 - c]! d[c]! with
 | false => rfl
 | true => rw [search_mono' hL hR h1 h2 h3 h4 h5 hc] at hb; cases hb
theorem sort_edge {s : Nat} (h1 : SortedIn bt a s d) (h2 : SortedIn bt s mid d) (h : s ≤ a ∨ mid ≤ s) : SortedIn bt a mid d := by
 rcases h with h | h
 ·exact sortSub h2 h (Nat.le_refl _)
 ·exact sortSub h1 (Nat.le_refl _) h
end
set_option maxHeartbeats 4000000 in
theorem sym_step {gl : Nat → Obj} (N : Nat) (hih : SymOk gl N) (b0 cap : Nat) (d : Array Mem) (a m b : Nat) (hN : b - a ≤ N + 1) (ham : a < m) (hmb : m < b) (hb : b ≤ d.size) (hsz : d.size ≤ 4611686018427387) (hcap : d.size ≤ cap) (hSL : SortedIn bt a m d) (hSR : SortedIn bt m b d) : Spec (cx gl) 182 [.slice (some ⟨b0, 0, none⟩) d.size cap, .int .i64 ((a : Nat) : Int), .int .i64 ((m : Nat) : Int), .int .i64 ((b : Nat) : Int), .func (.func 84) #[] #[]] (fun _ _ => True) [ownS 76 3 (.slice (some ⟨b0, 0, none⟩) d.size cap) d.size (rc (d).toList)] (fun u rs => u = .tuple #[] ∧ ∃ d' : Array Mem, (PermIn a b d d' ∧ SortedIn bt a b d') ∧ rs = [ownS 76 3 (.slice (some ⟨b0, 0, none⟩) d.size cap) d.size (rc (d').toList)]) := by
 have hrec : ∀ (e : Array Mem), e.size = d.size → ∀ a m b, b - a ≤ N → a < m → m < b → b ≤ d.size → SortedIn bt a m e → SortedIn bt m b e → Spec (cx gl) 182 [.slice (some ⟨b0, 0, none⟩) d.size cap, .int .i64 ((a : Nat) : Int), .int .i64 ((m : Nat) : Int), .int .i64 ((b : Nat) : Int), .func (.func 84) #[] #[]] (fun _ _ => True) [ownS 76 3 (.slice (some ⟨b0, 0, none⟩) d.size cap) d.size (rc (e).toList)] (fun u rs => u = .tuple #[] ∧ ∃ d' : Array Mem, (PermIn a b e d' ∧ SortedIn bt a b d') ∧ rs = [ownS 76 3 (.slice (some ⟨b0, 0, none⟩) d.size cap) d.size (rc (d').toList)]) := fun e he a m b h1 h2 h3 h4 h5 h6 => by have h9 := hih b0 cap e a m b h1 h2 h3 (by omega) (by omega) (by omega) h5 h6; rw [he] at h9; exact h9
 refine Spec.enter (C := cx gl) Tryz.func182 rfl 220 rfl rfl fun w0 h0 hsep hsub hpre => ?_
 show St (cx gl) _ [(0, .slice (some ⟨b0, 0, none⟩) d.size cap), (1, .int .i64 ((a : Nat) : Int)), (2, .int .i64 ((m : Nat) : Int)), (3, .int .i64 ((b : Nat) : Int)), (4, .func (.func 84) #[] #[])] _ _
 refine R_seq ?_
 refine R_seq ?_
 refine R_region ?_
 refine L_val rfl rfl rfl (OpP.v (P_move rfl rfl)) ?_
 refine L_val rfl rfl rfl (OpP.v (P_move rfl rfl)) ?_
 first | (refine L_val rfl rfl rfl (OpP.v (P_subN rfl rfl rfl (by simp only [fits]; omega))) ?_) | (refine L_val rfl rfl rfl (OpP.v (P_sub rfl rfl rfl)) ?_)
 refine E_as (t := 27) (v' := .int .i64 ((m - a : Nat) : Int)) rfl (by congr 1; omega) ?_
 refine L_val rfl rfl rfl (OpP.v (P_eql rfl rfl rfl)) ?_
 refine L_nil ?_
 refine St.env (.cons (t := 0) rfl (.cons (t := 1) rfl (.cons (t := 2) rfl (.cons (t := 3) rfl (.cons (t := 4) rfl (.cons (t := 28) rfl .nil)))))) ?_
 refine Q_then ?_
 refine R_condP rfl (fun h1 => ?_) (fun h1 => ?_)
 ·skip
  have hm1 : m = a + 1 := by omega
  have hga := arr_get (d := d) (i := a) (by omega)
  refine R_seq ?_
  refine R_region ?_
  refine L_val rfl rfl rfl (OpP.v (P_move rfl rfl)) ?_
  refine L_val rfl rfl rfl (OpP.v (P_assign rfl rfl)) ?_
  refine L_nil ?_
  refine St.env (.cons (t := 0) rfl (.cons (t := 1) rfl (.cons (t := 2) rfl (.cons (t := 3) rfl (.cons (t := 4) rfl (.cons (t := 10) rfl .nil)))))) ?_
  refine Q_then ?_
  refine R_seq ?_
  refine R_region ?_
  refine L_val rfl rfl rfl (OpP.v (P_move rfl rfl)) ?_
  refine L_val rfl rfl rfl (OpP.v (P_assign rfl rfl)) ?_
  refine L_nil ?_
  refine St.env (.cons (t := 0) rfl (.cons (t := 1) rfl (.cons (t := 2) rfl (.cons (t := 3) rfl (.cons (t := 4) rfl (.cons (t := 10) rfl (.cons (t := 11) rfl .nil))))))) ?_
  refine Q_then ?_
  refine R_seq ?_
  refine R_block ?_
  refine R_loopE (G := Nat × Nat) (.cons (t := 0) rfl (.cons (t := 1) rfl (.cons (t := 2) rfl (.cons (t := 3) rfl (.cons (t := 4) rfl .nil))))) (fun g => [(10, .int .i64 ((g.1 : Nat) : Int)), (11, .int .i64 ((g.2 : Nat) : Int))]) (fun _ => _) (fun g => m ≤ g.1 ∧ g.1 ≤ g.2 ∧ g.2 ≤ b ∧ (∀ c, m ≤ c → c < g.1 → bt d[c]! d[a]! = true) ∧ (∀ c, g.2 ≤ c → c < b → bt d[c]! d[a]! = false)) (fun g => g.2 - g.1) (m, b) (by show m ≤ (m) ∧ (m) ≤ (b) ∧ (b) ≤ b ∧ (∀ c, m ≤ c → c < (m) → bt d[c]! d[a]! = true) ∧ (∀ c, (b) ≤ c → c < b → bt d[c]! d[a]! = false); exact ⟨Nat.le_refl _, by omega, Nat.le_refl _, fun c _ _ => by omega, fun c _ _ => by omega⟩) (by repeat (first | exact .nil | refine .cons rfl ?_ | refine .consE rfl (by first | rfl | (congr 1; omega) | (congr 1; push_cast; omega)) ?_)) (Weak.refl _) ?_
  rintro ⟨i, j⟩ hinv
  replace hinv : m ≤ i ∧ i ≤ j ∧ j ≤ b ∧ (∀ c, m ≤ c → c < i → bt d[c]! d[a]! = true) ∧ (∀ c, j ≤ c → c < b → bt d[c]! d[a]! = false) := hinv
  show St (cx gl) _ ((10, .int .i64 ((i : Nat) : Int)) :: (11, .int .i64 ((j : Nat) : Int)) :: _) _ _
  obtain ⟨hmi, hij, hjb, hl, hr⟩ := hinv
  refine R_seq ?_
  refine R_seq ?_
  refine R_region ?_
  refine L_val rfl rfl rfl (OpP.v (P_move rfl rfl)) ?_
  refine L_val rfl rfl rfl (OpP.v (P_move rfl rfl)) ?_
  refine L_val rfl rfl rfl (OpP.v (P_lss rfl rfl rfl)) ?_
  refine L_nil ?_
  refine Q_then ?_
  refine R_condP rfl (fun hlt => ?_) (fun hlt => ?_)
  ·skip
   have hgh := arr_get (d := d) (i := (i + j) / 2) (by omega)
   refine R_skip ?_
   refine Q_then ?_
   refine R_block ?_
   refine R_seq ?_
   refine R_region ?_
   refine L_val rfl rfl rfl (OpP.v (P_move rfl rfl)) ?_
   refine L_val rfl rfl rfl (OpP.v (P_move rfl rfl)) ?_
   first | (refine L_val rfl rfl rfl (OpP.v (P_addN rfl rfl rfl (by simp only [fits]; omega))) ?_) | (refine L_val rfl rfl rfl (OpP.v (P_add rfl rfl rfl)) ?_)
   first | (refine L_val rfl rfl rfl (OpP.v (P_convN rfl ty_int_3 ty_int_133 rfl (by simp only [fits]; omega))) ?_) | (refine L_val rfl rfl rfl (OpP.v (P_conv rfl ty_int_3 ty_int_133 rfl)) ?_)
   refine L_val rfl rfl rfl (OpP.v (P_shr rfl rfl rfl (by omega))) ?_
   refine E_as (t := 38) (v' := .int .u64 (((i + j) / 2 : Nat) : Int)) rfl (by have h9 := half_nat (i + j); push_cast at h9 ⊢; rw [h9]) ?_
   first | (refine L_val rfl rfl rfl (OpP.v (P_convN rfl ty_int_133 ty_int_3 rfl (by simp only [fits]; omega))) ?_) | (refine L_val rfl rfl rfl (OpP.v (P_conv rfl ty_int_133 ty_int_3 rfl)) ?_)
   refine L_val rfl rfl rfl (OpP.v (P_assign rfl rfl)) ?_
   refine L_nil ?_
   refine Q_then ?_
   refine R_seq ?_
   refine R_open [(0, 0), (1, 0), (2, 0), (3, 0), (4, 1), (5, 0), (6, 0), (7, 0), (8, 1), (9, 2), (10, 0)] mixed (by kernel_rfl) (QOk.then (QOk.block (QOk.then (QOk.block (QOk.then (QOk.then QOk.body)))))) ?_
   refine O_pure rfl rfl rfl rfl (P_move rfl rfl) ?_
   refine O_pure rfl rfl rfl rfl (P_move rfl rfl) ?_
   refine O_pure rfl rfl rfl rfl (P_move rfl rfl) ?_
   refine O_pure rfl rfl rfl rfl (P_ixs ((i + j) / 2) rfl ty_sl_68 rfl rfl (by first | rfl | omega) (by omega)) ?_
   refine O_val rfl rfl rfl rfl (V_loadAgg rfl rfl ty_ag_76 (rds_rc (rds_own .h0) hgh) (rfl)) ?_
   refine O_pure rfl rfl rfl rfl (P_move rfl rfl) ?_
   refine O_pure rfl rfl rfl rfl (P_move rfl rfl) ?_
   refine O_pure rfl rfl rfl rfl (P_ixs (a) rfl ty_sl_68 rfl rfl (by first | rfl | omega) (by omega)) ?_
   refine O_val rfl rfl rfl rfl (V_loadAgg rfl rfl ty_ag_76 (rds_rc (rds_own .h0) hga) (rfl)) ?_
   refine O_keep rfl rfl (W_callFV (fi := []) (ca := []) rfl rfl rfl rfl rfl rfl fn_ca_84 (seats1_ok (d[(i + j) / 2]!) (d[a]!)) (fun _ _ => trivial) (K_keep (Weak.refl _) ?_))
   refine O_pure rfl rfl rfl rfl (P_lss rfl rfl rfl) ?_
   refine E_as (t := 50) (v' := .bool (bt (d[(i + j) / 2]!) (d[a]!))) rfl (by rw [← ltOf_bt]; rfl) ?_
   refine O_nil ?_
   refine Q_then ?_
   refine R_cond rfl (fun hb => ?_) (fun hb => ?_)
   ·skip
    refine R_region ?_
    refine L_val rfl rfl rfl (OpP.v (P_move rfl rfl)) ?_
    first | (refine L_val rfl rfl rfl (OpP.v (P_addN rfl rfl rfl (by simp only [fits]; omega))) ?_) | (refine L_val rfl rfl rfl (OpP.v (P_add rfl rfl rfl)) ?_)
    refine L_val rfl rfl rfl (OpP.v (P_assign rfl rfl)) ?_
    refine L_nil ?_
    refine Q_block ?_
    exact Q_round ((i + j) / 2 + 1, j) (by show m ≤ ((i + j) / 2 + 1) ∧ ((i + j) / 2 + 1) ≤ (j) ∧ (j) ≤ b ∧ (∀ c, m ≤ c → c < ((i + j) / 2 + 1) → bt d[c]! d[a]! = true) ∧ (∀ c, (j) ≤ c → c < b → bt d[c]! d[a]! = false); exact ⟨by omega, by omega, hjb, up_all hl ((i + j) / 2) fun c hc1 hc2 => up_1 hSR (by omega) hc2 (by omega) hb, hr⟩) (by show j - ((i + j) / 2 + 1) < j - i; omega) (by repeat (first | exact .nil | refine .cons rfl ?_ | refine .consE rfl (by first | rfl | (congr 1; omega) | (congr 1; push_cast; omega)) ?_)) (Weak.refl _)
   ·skip
    refine R_region ?_
    refine L_val rfl rfl rfl (OpP.v (P_move rfl rfl)) ?_
    refine L_val rfl rfl rfl (OpP.v (P_assign rfl rfl)) ?_
    refine L_nil ?_
    refine Q_block ?_
    exact Q_round (i, (i + j) / 2) (by show m ≤ (i) ∧ (i) ≤ ((i + j) / 2) ∧ ((i + j) / 2) ≤ b ∧ (∀ c, m ≤ c → c < (i) → bt d[c]! d[a]! = true) ∧ (∀ c, ((i + j) / 2) ≤ c → c < b → bt d[c]! d[a]! = false); exact ⟨hmi, by omega, by omega, hl, down_all hr ((i + j) / 2) fun c hc1 hc2 => down_1 hSR (by omega) hc1 (by omega) hb⟩) (by show (i + j) / 2 - i < j - i; omega) (by repeat (first | exact .nil | refine .cons rfl ?_ | refine .consE rfl (by first | rfl | (congr 1; omega) | (congr 1; push_cast; omega)) ?_)) (Weak.refl _)
  ·skip
   have hin : i = j := by omega
   rw [← hin] at hr
   refine R_exit ?_
   refine Q_then_exit ?_
   refine Q_then_exit ?_
   refine Q_block_eq ?_
   refine St.env (.cons (t := 0) rfl (.cons (t := 1) rfl (.cons (t := 2) rfl (.cons (t := 3) rfl (.cons (t := 4) rfl (.cons (t := 10) rfl .nil)))))) ?_
   refine Q_then ?_
   refine R_seq ?_
   refine R_seq ?_
   refine R_region ?_
   refine L_val rfl rfl rfl (OpP.v (P_move rfl rfl)) ?_
   refine L_val rfl rfl rfl (OpP.v (P_assign rfl rfl)) ?_
   refine L_nil ?_
   refine St.env (.cons (t := 0) rfl (.cons (t := 1) rfl (.cons (t := 2) rfl (.cons (t := 3) rfl (.cons (t := 4) rfl (.cons (t := 10) rfl (.cons (t := 13) rfl .nil))))))) ?_
   refine Q_then ?_
   refine R_block ?_
   refine R_loopE (G := Nat) (.cons (t := 0) rfl (.cons (t := 1) rfl (.cons (t := 2) rfl (.cons (t := 3) rfl (.cons (t := 4) rfl (.cons (t := 10) rfl .nil)))))) (fun g => [(13, .int .i64 ((a + g : Nat) : Int))]) (fun g => [ownS 76 3 (.slice (some ⟨b0, 0, none⟩) d.size cap) d.size (rc (shR d a g).toList)]) (fun g => g ≤ i - 1 - a) (fun g => i - 1 - a - g) (0) (Nat.zero_le _) (by repeat (first | exact .nil | refine .cons rfl ?_ | refine .consE rfl (by first | rfl | (congr 1; omega) | (congr 1; push_cast; omega)) ?_)) (Weak.refl _) ?_
   intro n hinv
   replace hinv : n ≤ i - 1 - a := hinv
   show St (cx gl) _ ((13, .int .i64 ((a + n : Nat) : Int)) :: _) [ownS 76 3 (.slice (some ⟨b0, 0, none⟩) d.size cap) d.size (rc (shR d a n).toList)] _
   refine R_seq ?_
   refine R_seq ?_
   refine R_region ?_
   refine L_val rfl rfl rfl (OpP.v (P_move rfl rfl)) ?_
   refine L_val rfl rfl rfl (OpP.v (P_move rfl rfl)) ?_
   first | (refine L_val rfl rfl rfl (OpP.v (P_subN rfl rfl rfl (by simp only [fits]; omega))) ?_) | (refine L_val rfl rfl rfl (OpP.v (P_sub rfl rfl rfl)) ?_)
   refine E_as (t := 57) (v' := .int .i64 ((i - 1 : Nat) : Int)) rfl (by congr 1; omega) ?_
   refine L_val rfl rfl rfl (OpP.v (P_lss rfl rfl rfl)) ?_
   refine L_nil ?_
   refine Q_then ?_
   refine R_condP rfl (fun hlt2 => ?_) (fun hlt2 => ?_)
   ·skip
    have hes := shR_size d a n
    have hgj := arr_get (d := shR d a n) (i := a + n + 1) (by omega)
    have hgi := arr_get (d := shR d a n) (i := a + n) (by omega)
    refine R_skip ?_
    refine Q_then ?_
    refine R_seq ?_
    refine R_block ?_
    refine R_open [(0, 0), (1, 0), (2, 0), (3, 0), (4, 0), (5, 0), (6, 0), (7, 0), (8, 0), (9, 1), (10, 0), (11, 0), (12, 0), (13, 1), (14, 0), (15, 3), (16, 0), (17, 3)] mixed (by kernel_rfl) (QOk.block (QOk.then (QOk.then (QOk.block (QOk.then (QOk.then QOk.body)))))) ?_
    refine O_pure rfl rfl rfl rfl (P_move rfl rfl) ?_
    refine O_pure rfl rfl rfl rfl (P_move rfl rfl) ?_
    refine O_pure rfl rfl rfl rfl (P_move rfl rfl) ?_
    refine O_pure rfl rfl rfl rfl (P_move rfl rfl) ?_
    first | (refine O_pure rfl rfl rfl rfl (P_addN rfl rfl rfl (by simp only [fits]; omega)) ?_) | (refine O_pure rfl rfl rfl rfl (P_add rfl rfl rfl) ?_)
    refine O_pure rfl rfl rfl rfl (P_move rfl rfl) ?_
    refine O_pure rfl rfl rfl rfl (P_move rfl rfl) ?_
    first | (refine O_pure rfl rfl rfl rfl (P_addN rfl rfl rfl (by simp only [fits]; omega)) ?_) | (refine O_pure rfl rfl rfl rfl (P_add rfl rfl rfl) ?_)
    refine O_pure rfl rfl rfl rfl (P_ixs (a + n + 1) rfl ty_sl_68 rfl rfl (by first | rfl | omega) (by omega)) ?_
    refine O_val rfl rfl rfl rfl (V_loadAgg rfl rfl ty_ag_76 (rds_rc (rds_own .h0) hgj) (rfl)) ?_
    refine O_pure rfl rfl rfl rfl (P_move rfl rfl) ?_
    refine O_pure rfl rfl rfl rfl (P_move rfl rfl) ?_
    refine O_pure rfl rfl rfl rfl (P_ixs (a + n) rfl ty_sl_68 rfl rfl (by first | rfl | omega) (by omega)) ?_
    refine O_val rfl rfl rfl rfl (V_loadAgg rfl rfl ty_ag_76 (rds_rc (rds_own .h0) hgi) (rfl)) ?_
    refine O_pure rfl rfl rfl rfl (P_ixs (a + n) rfl ty_sl_68 rfl rfl (by first | rfl | omega) (by omega)) ?_
    refine O_new rfl rfl (W_storeOwn (T := 76) (sz := 3) (n := d.size) (c := cap) (cs := rc (shR d a n).toList) rfl rfl rfl rfl ty_ag_76 rfl (Mem.cells_one _) .h0 (by rw [rc_length]; simp only [Array.length_toList]; show 0 + (a + n) * 3 + 3 ≤ _ * 3; omega) ?_)
    refine St.res (rs' := [ownS 76 3 (.slice (some ⟨b0, 0, none⟩) d.size cap) d.size (rc ((shR d a n).toList.set (a + n) (shR d a n)[a + n + 1]!))]) ((by have h9 := rc_splice (l := (shR d a n).toList) (i := a + n) (shR d a n)[a + n + 1]! (by simp only [Array.length_toList]; omega); rw [show Rec.n Mem = 3 from rfl] at h9; rw [Nat.zero_add, h9]; exact Weak.refl _)) ?_
    refine K_new ?_
    refine O_pure rfl rfl rfl rfl (P_ixs (a + n + 1) rfl ty_sl_68 rfl rfl (by first | rfl | omega) (by omega)) ?_
    refine O_new rfl rfl (W_storeOwn (T := 76) (sz := 3) (n := d.size) (c := cap) (cs := rc ((shR d a n).toList.set (a + n) (shR d a n)[a + n + 1]!)) rfl rfl rfl rfl ty_ag_76 rfl (Mem.cells_one _) .h0 (by rw [rc_length]; rw [List.length_set]; simp only [Array.length_toList]; show 0 + (a + n + 1) * 3 + 3 ≤ _ * 3; omega) ?_)
    refine St.res (rs' := [ownS 76 3 (.slice (some ⟨b0, 0, none⟩) d.size cap) d.size (rc (swp (shR d a n) (a + n) (a + n + 1)).toList)]) ((by have h9 := rc_splice (l := (shR d a n).toList.set (a + n) (shR d a n)[a + n + 1]!) (i := a + n + 1) (shR d a n)[a + n]! (by rw [List.length_set]; simp only [Array.length_toList]; omega); rw [show Rec.n Mem = 3 from rfl] at h9; rw [Nat.zero_add, h9, ← swp_toList]; exact Weak.refl _)) ?_
    refine K_new ?_
    refine O_nil ?_
    refine Q_block ?_
    refine Q_then ?_
    refine R_region ?_
    refine L_val rfl rfl rfl (OpP.v (P_move rfl rfl)) ?_
    first | (refine L_val rfl rfl rfl (OpP.v (P_addN rfl rfl rfl (by simp only [fits]; omega))) ?_) | (refine L_val rfl rfl rfl (OpP.v (P_add rfl rfl rfl)) ?_)
    refine L_val rfl rfl rfl (OpP.v (P_assign rfl rfl)) ?_
    refine L_nil ?_
    exact Q_round (n + 1) (by omega) (by show i - 1 - a - (n + 1) < i - 1 - a - n; omega) (by repeat (first | exact .nil | refine .cons rfl ?_ | refine .consE rfl (by first | rfl | (congr 1; omega) | (congr 1; push_cast; omega)) ?_)) (Weak.refl _)
   ·skip
    have hn : n = i - 1 - a := by omega
    have hsg := fun k => shR_get d a n k (by omega)
    refine R_exit ?_
    refine Q_then_exit ?_
    refine Q_then_exit ?_
    refine Q_block_eq ?_
    refine St.env (.cons (t := 0) rfl (.cons (t := 1) rfl (.cons (t := 2) rfl (.cons (t := 3) rfl (.cons (t := 4) rfl .nil))))) ?_
    refine Q_then ?_
    refine R_ret ?_
    refine Q_then_ret ?_
    exact R_end (rs2 := _) rfl rfl (.nil) (⟨rfl, _, ⟨shR_perm d a a b (Nat.le_refl _) (by omega) n (by omega), merge_one swo_bt (i := i) (by omega) (by omega) (by rw [← hm1]; exact hSR) (fun c h5 h6 => hl c (by omega) h6) hr (fun k h5 h6 => by rw [hsg, if_pos ⟨h5, by omega⟩]) (by rw [hsg, if_neg (by omega), if_pos (by omega)]) (fun k h5 h6 => by rw [hsg, if_neg (by omega), if_neg (by omega)])⟩, rfl⟩) (Weak.refl _)
 ·skip
  have h1 : a + 1 < m := by omega
  refine R_skip ?_
  refine Q_then ?_
  refine R_seq ?_
  refine R_seq ?_
  refine R_region ?_
  refine L_val rfl rfl rfl (OpP.v (P_move rfl rfl)) ?_
  refine L_val rfl rfl rfl (OpP.v (P_move rfl rfl)) ?_
  first | (refine L_val rfl rfl rfl (OpP.v (P_subN rfl rfl rfl (by simp only [fits]; omega))) ?_) | (refine L_val rfl rfl rfl (OpP.v (P_sub rfl rfl rfl)) ?_)
  refine E_as (t := 79) (v' := .int .i64 ((b - m : Nat) : Int)) rfl (by congr 1; omega) ?_
  refine L_val rfl rfl rfl (OpP.v (P_eql rfl rfl rfl)) ?_
  refine L_nil ?_
  refine St.env (.cons (t := 0) rfl (.cons (t := 1) rfl (.cons (t := 2) rfl (.cons (t := 3) rfl (.cons (t := 4) rfl (.cons (t := 80) rfl .nil)))))) ?_
  refine Q_then ?_
  refine R_condP rfl (fun h2 => ?_) (fun h2 => ?_)
  ·skip
   have hb1 : b = m + 1 := by omega
   have hga := arr_get (d := d) (i := m) (by omega)
   refine R_seq ?_
   refine R_region ?_
   refine L_val rfl rfl rfl (OpP.v (P_move rfl rfl)) ?_
   refine L_val rfl rfl rfl (OpP.v (P_assign rfl rfl)) ?_
   refine L_nil ?_
   refine St.env (.cons (t := 0) rfl (.cons (t := 1) rfl (.cons (t := 2) rfl (.cons (t := 3) rfl (.cons (t := 4) rfl (.cons (t := 14) rfl .nil)))))) ?_
   refine Q_then ?_
   refine R_seq ?_
   refine R_region ?_
   refine L_val rfl rfl rfl (OpP.v (P_move rfl rfl)) ?_
   refine L_val rfl rfl rfl (OpP.v (P_assign rfl rfl)) ?_
   refine L_nil ?_
   refine St.env (.cons (t := 0) rfl (.cons (t := 1) rfl (.cons (t := 2) rfl (.cons (t := 3) rfl (.cons (t := 4) rfl (.cons (t := 14) rfl (.cons (t := 15) rfl .nil))))))) ?_
   refine Q_then ?_
   refine R_seq ?_
   refine R_block ?_
   refine R_loopE (G := Nat × Nat) (.cons (t := 0) rfl (.cons (t := 1) rfl (.cons (t := 2) rfl (.cons (t := 3) rfl (.cons (t := 4) rfl .nil))))) (fun g => [(14, .int .i64 ((g.1 : Nat) : Int)), (15, .int .i64 ((g.2 : Nat) : Int))]) (fun _ => _) (fun g => a ≤ g.1 ∧ g.1 ≤ g.2 ∧ g.2 ≤ m ∧ (∀ c, a ≤ c → c < g.1 → bt d[m]! d[c]! = false) ∧ (∀ c, g.2 ≤ c → c < m → bt d[m]! d[c]! = true)) (fun g => g.2 - g.1) (a, m) (by show a ≤ (a) ∧ (a) ≤ (m) ∧ (m) ≤ m ∧ (∀ c, a ≤ c → c < (a) → bt d[m]! d[c]! = false) ∧ (∀ c, (m) ≤ c → c < m → bt d[m]! d[c]! = true); exact ⟨Nat.le_refl _, by omega, Nat.le_refl _, fun c _ _ => by omega, fun c _ _ => by omega⟩) (by repeat (first | exact .nil | refine .cons rfl ?_ | refine .consE rfl (by first | rfl | (congr 1; omega) | (congr 1; push_cast; omega)) ?_)) (Weak.refl _) ?_
   rintro ⟨i, j⟩ hinv
   replace hinv : a ≤ i ∧ i ≤ j ∧ j ≤ m ∧ (∀ c, a ≤ c → c < i → bt d[m]! d[c]! = false) ∧ (∀ c, j ≤ c → c < m → bt d[m]! d[c]! = true) := hinv
   show St (cx gl) _ ((14, .int .i64 ((i : Nat) : Int)) :: (15, .int .i64 ((j : Nat) : Int)) :: _) _ _
   obtain ⟨hmi, hij, hjb, hl, hr⟩ := hinv
   refine R_seq ?_
   refine R_seq ?_
   refine R_region ?_
   refine L_val rfl rfl rfl (OpP.v (P_move rfl rfl)) ?_
   refine L_val rfl rfl rfl (OpP.v (P_move rfl rfl)) ?_
   refine L_val rfl rfl rfl (OpP.v (P_lss rfl rfl rfl)) ?_
   refine L_nil ?_
   refine Q_then ?_
   refine R_condP rfl (fun hlt => ?_) (fun hlt => ?_)
   ·skip
    have hgh := arr_get (d := d) (i := (i + j) / 2) (by omega)
    refine R_skip ?_
    refine Q_then ?_
    refine R_block ?_
    refine R_seq ?_
    refine R_region ?_
    refine L_val rfl rfl rfl (OpP.v (P_move rfl rfl)) ?_
    refine L_val rfl rfl rfl (OpP.v (P_move rfl rfl)) ?_
    first | (refine L_val rfl rfl rfl (OpP.v (P_addN rfl rfl rfl (by simp only [fits]; omega))) ?_) | (refine L_val rfl rfl rfl (OpP.v (P_add rfl rfl rfl)) ?_)
    first | (refine L_val rfl rfl rfl (OpP.v (P_convN rfl ty_int_3 ty_int_133 rfl (by simp only [fits]; omega))) ?_) | (refine L_val rfl rfl rfl (OpP.v (P_conv rfl ty_int_3 ty_int_133 rfl)) ?_)
    refine L_val rfl rfl rfl (OpP.v (P_shr rfl rfl rfl (by omega))) ?_
    refine E_as (t := 90) (v' := .int .u64 (((i + j) / 2 : Nat) : Int)) rfl (by have h9 := half_nat (i + j); push_cast at h9 ⊢; rw [h9]) ?_
    first | (refine L_val rfl rfl rfl (OpP.v (P_convN rfl ty_int_133 ty_int_3 rfl (by simp only [fits]; omega))) ?_) | (refine L_val rfl rfl rfl (OpP.v (P_conv rfl ty_int_133 ty_int_3 rfl)) ?_)
    refine L_val rfl rfl rfl (OpP.v (P_assign rfl rfl)) ?_
    refine L_nil ?_
    refine Q_then ?_
    refine R_seq ?_
    refine R_open [(0, 0), (1, 0), (2, 0), (3, 0), (4, 1), (5, 0), (6, 0), (7, 0), (8, 1), (9, 2), (10, 0), (11, 0)] mixed (by kernel_rfl) (QOk.then (QOk.block (QOk.then (QOk.block (QOk.then (QOk.then QOk.body)))))) ?_
    refine O_pure rfl rfl rfl rfl (P_move rfl rfl) ?_
    refine O_pure rfl rfl rfl rfl (P_move rfl rfl) ?_
    refine O_pure rfl rfl rfl rfl (P_move rfl rfl) ?_
    refine O_pure rfl rfl rfl rfl (P_ixs (m) rfl ty_sl_68 rfl rfl (by first | rfl | omega) (by omega)) ?_
    refine O_val rfl rfl rfl rfl (V_loadAgg rfl rfl ty_ag_76 (rds_rc (rds_own .h0) hga) (rfl)) ?_
    refine O_pure rfl rfl rfl rfl (P_move rfl rfl) ?_
    refine O_pure rfl rfl rfl rfl (P_move rfl rfl) ?_
    refine O_pure rfl rfl rfl rfl (P_ixs ((i + j) / 2) rfl ty_sl_68 rfl rfl (by first | rfl | omega) (by omega)) ?_
    refine O_val rfl rfl rfl rfl (V_loadAgg rfl rfl ty_ag_76 (rds_rc (rds_own .h0) hgh) (rfl)) ?_
    refine O_keep rfl rfl (W_callFV (fi := []) (ca := []) rfl rfl rfl rfl rfl rfl fn_ca_84 (seats1_ok (d[m]!) (d[(i + j) / 2]!)) (fun _ _ => trivial) (K_keep (Weak.refl _) ?_))
    refine O_pure rfl rfl rfl rfl (P_lss rfl rfl rfl) ?_
    refine E_as (t := 102) (v' := .bool (bt (d[m]!) (d[(i + j) / 2]!))) rfl (by rw [← ltOf_bt]; rfl) ?_
    refine O_pure rfl rfl rfl rfl (P_not rfl rfl) ?_
    refine O_nil ?_
    refine Q_then ?_
    refine R_cond rfl (fun hb => ?_) (fun hb => ?_)
    ·skip
     have hb : bt d[m]! d[(i + j) / 2]! = false := by simpa using hb
     refine R_region ?_
     refine L_val rfl rfl rfl (OpP.v (P_move rfl rfl)) ?_
     first | (refine L_val rfl rfl rfl (OpP.v (P_addN rfl rfl rfl (by simp only [fits]; omega))) ?_) | (refine L_val rfl rfl rfl (OpP.v (P_add rfl rfl rfl)) ?_)
     refine L_val rfl rfl rfl (OpP.v (P_assign rfl rfl)) ?_
     refine L_nil ?_
     refine Q_block ?_
     exact Q_round ((i + j) / 2 + 1, j) (by show a ≤ ((i + j) / 2 + 1) ∧ ((i + j) / 2 + 1) ≤ (j) ∧ (j) ≤ m ∧ (∀ c, a ≤ c → c < ((i + j) / 2 + 1) → bt d[m]! d[c]! = false) ∧ (∀ c, (j) ≤ c → c < m → bt d[m]! d[c]! = true); exact ⟨by omega, by omega, hjb, up_all hl ((i + j) / 2) fun c hc1 hc2 => up_2 hSL hc1 hc2 (by omega) hb, hr⟩) (by show j - ((i + j) / 2 + 1) < j - i; omega) (by repeat (first | exact .nil | refine .cons rfl ?_ | refine .consE rfl (by first | rfl | (congr 1; omega) | (congr 1; push_cast; omega)) ?_)) (Weak.refl _)
    ·skip
     have hb : bt d[m]! d[(i + j) / 2]! = true := by simpa using hb
     refine R_region ?_
     refine L_val rfl rfl rfl (OpP.v (P_move rfl rfl)) ?_
     refine L_val rfl rfl rfl (OpP.v (P_assign rfl rfl)) ?_
     refine L_nil ?_
     refine Q_block ?_
     exact Q_round (i, (i + j) / 2) (by show a ≤ (i) ∧ (i) ≤ ((i + j) / 2) ∧ ((i + j) / 2) ≤ m ∧ (∀ c, a ≤ c → c < (i) → bt d[m]! d[c]! = false) ∧ (∀ c, ((i + j) / 2) ≤ c → c < m → bt d[m]! d[c]! = true); exact ⟨hmi, by omega, by omega, hl, down_all hr ((i + j) / 2) fun c hc1 hc2 => down_2 hSL (by omega) hc1 (by omega) hb⟩) (by show (i + j) / 2 - i < j - i; omega) (by repeat (first | exact .nil | refine .cons rfl ?_ | refine .consE rfl (by first | rfl | (congr 1; omega) | (congr 1; push_cast; omega)) ?_)) (Weak.refl _)
   ·skip
    have hin : i = j := by omega
    rw [← hin] at hr
    refine R_exit ?_
    refine Q_then_exit ?_
    refine Q_then_exit ?_
    refine Q_block_eq ?_
    refine St.env (.cons (t := 0) rfl (.cons (t := 1) rfl (.cons (t := 2) rfl (.cons (t := 3) rfl (.cons (t := 4) rfl (.cons (t := 14) rfl .nil)))))) ?_
    refine Q_then ?_
    refine R_seq ?_
    refine R_seq ?_
    refine R_region ?_
    refine L_val rfl rfl rfl (OpP.v (P_move rfl rfl)) ?_
    refine L_val rfl rfl rfl (OpP.v (P_assign rfl rfl)) ?_
    refine L_nil ?_
    refine St.env (.cons (t := 0) rfl (.cons (t := 1) rfl (.cons (t := 2) rfl (.cons (t := 3) rfl (.cons (t := 4) rfl (.cons (t := 14) rfl (.cons (t := 17) rfl .nil))))))) ?_
    refine Q_then ?_
    refine R_block ?_
    refine R_loopE (G := Nat) (.cons (t := 0) rfl (.cons (t := 1) rfl (.cons (t := 2) rfl (.cons (t := 3) rfl (.cons (t := 4) rfl (.cons (t := 14) rfl .nil)))))) (fun g => [(17, .int .i64 ((m - g : Nat) : Int))]) (fun g => [ownS 76 3 (.slice (some ⟨b0, 0, none⟩) d.size cap) d.size (rc (shL d m g).toList)]) (fun g => g ≤ m - i) (fun g => m - i - g) (0) (Nat.zero_le _) (by repeat (first | exact .nil | refine .cons rfl ?_ | refine .consE rfl (by first | rfl | (congr 1; omega) | (congr 1; push_cast; omega)) ?_)) (Weak.refl _) ?_
    intro n hinv
    replace hinv : n ≤ m - i := hinv
    show St (cx gl) _ ((17, .int .i64 ((m - n : Nat) : Int)) :: _) [ownS 76 3 (.slice (some ⟨b0, 0, none⟩) d.size cap) d.size (rc (shL d m n).toList)] _
    refine R_seq ?_
    refine R_seq ?_
    refine R_region ?_
    refine L_val rfl rfl rfl (OpP.v (P_move rfl rfl)) ?_
    refine L_val rfl rfl rfl (OpP.v (P_move rfl rfl)) ?_
    refine L_val rfl rfl rfl (OpP.v (P_gtr rfl rfl rfl)) ?_
    refine L_nil ?_
    refine Q_then ?_
    refine R_condP rfl (fun hlt2 => ?_) (fun hlt2 => ?_)
    ·skip
     have hes := shL_size d m n
     have hgj := arr_get (d := shL d m n) (i := m - n - 1) (by omega)
     have hgi := arr_get (d := shL d m n) (i := m - n) (by omega)
     refine R_skip ?_
     refine Q_then ?_
     refine R_seq ?_
     refine R_block ?_
     refine R_open [(0, 0), (1, 0), (2, 0), (3, 0), (4, 0), (5, 0), (6, 0), (7, 0), (8, 0), (9, 1), (10, 0), (11, 0), (12, 0), (13, 1), (14, 0), (15, 3), (16, 0), (17, 3)] mixed (by kernel_rfl) (QOk.block (QOk.then (QOk.then (QOk.block (QOk.then (QOk.then QOk.body)))))) ?_
     refine O_pure rfl rfl rfl rfl (P_move rfl rfl) ?_
     refine O_pure rfl rfl rfl rfl (P_move rfl rfl) ?_
     refine O_pure rfl rfl rfl rfl (P_move rfl rfl) ?_
     refine O_pure rfl rfl rfl rfl (P_move rfl rfl) ?_
     first | (refine O_pure rfl rfl rfl rfl (P_subN rfl rfl rfl (by simp only [fits]; omega)) ?_) | (refine O_pure rfl rfl rfl rfl (P_sub rfl rfl rfl) ?_)
     refine E_as (t := 117) (v' := .int .i64 ((m - n - 1 : Nat) : Int)) rfl (by congr 1; omega) ?_
     refine O_pure rfl rfl rfl rfl (P_move rfl rfl) ?_
     refine O_pure rfl rfl rfl rfl (P_move rfl rfl) ?_
     first | (refine O_pure rfl rfl rfl rfl (P_subN rfl rfl rfl (by simp only [fits]; omega)) ?_) | (refine O_pure rfl rfl rfl rfl (P_sub rfl rfl rfl) ?_)
     refine E_as (t := 120) (v' := .int .i64 ((m - n - 1 : Nat) : Int)) rfl (by congr 1; omega) ?_
     refine O_pure rfl rfl rfl rfl (P_ixs (m - n - 1) rfl ty_sl_68 rfl rfl (by first | rfl | omega) (by omega)) ?_
     refine O_val rfl rfl rfl rfl (V_loadAgg rfl rfl ty_ag_76 (rds_rc (rds_own .h0) hgj) (rfl)) ?_
     refine O_pure rfl rfl rfl rfl (P_move rfl rfl) ?_
     refine O_pure rfl rfl rfl rfl (P_move rfl rfl) ?_
     refine O_pure rfl rfl rfl rfl (P_ixs (m - n) rfl ty_sl_68 rfl rfl (by first | rfl | omega) (by omega)) ?_
     refine O_val rfl rfl rfl rfl (V_loadAgg rfl rfl ty_ag_76 (rds_rc (rds_own .h0) hgi) (rfl)) ?_
     refine O_pure rfl rfl rfl rfl (P_ixs (m - n) rfl ty_sl_68 rfl rfl (by first | rfl | omega) (by omega)) ?_
     refine O_new rfl rfl (W_storeOwn (T := 76) (sz := 3) (n := d.size) (c := cap) (cs := rc (shL d m n).toList) rfl rfl rfl rfl ty_ag_76 rfl (Mem.cells_one _) .h0 (by rw [rc_length]; simp only [Array.length_toList]; show 0 + (m - n) * 3 + 3 ≤ _ * 3; omega) ?_)
     refine St.res (rs' := [ownS 76 3 (.slice (some ⟨b0, 0, none⟩) d.size cap) d.size (rc ((shL d m n).toList.set (m - n) (shL d m n)[m - n - 1]!))]) ((by have h9 := rc_splice (l := (shL d m n).toList) (i := m - n) (shL d m n)[m - n - 1]! (by simp only [Array.length_toList]; omega); rw [show Rec.n Mem = 3 from rfl] at h9; rw [Nat.zero_add, h9]; exact Weak.refl _)) ?_
     refine K_new ?_
     refine O_pure rfl rfl rfl rfl (P_ixs (m - n - 1) rfl ty_sl_68 rfl rfl (by first | rfl | omega) (by omega)) ?_
     refine O_new rfl rfl (W_storeOwn (T := 76) (sz := 3) (n := d.size) (c := cap) (cs := rc ((shL d m n).toList.set (m - n) (shL d m n)[m - n - 1]!)) rfl rfl rfl rfl ty_ag_76 rfl (Mem.cells_one _) .h0 (by rw [rc_length]; rw [List.length_set]; simp only [Array.length_toList]; show 0 + (m - n - 1) * 3 + 3 ≤ _ * 3; omega) ?_)
     refine St.res (rs' := [ownS 76 3 (.slice (some ⟨b0, 0, none⟩) d.size cap) d.size (rc (swp (shL d m n) (m - n) (m - n - 1)).toList)]) ((by have h9 := rc_splice (l := (shL d m n).toList.set (m - n) (shL d m n)[m - n - 1]!) (i := m - n - 1) (shL d m n)[m - n]! (by rw [List.length_set]; simp only [Array.length_toList]; omega); rw [show Rec.n Mem = 3 from rfl] at h9; rw [Nat.zero_add, h9, ← swp_toList]; exact Weak.refl _)) ?_
     refine K_new ?_
     refine O_nil ?_
     refine Q_block ?_
     refine Q_then ?_
     refine R_region ?_
     refine L_val rfl rfl rfl (OpP.v (P_move rfl rfl)) ?_
     first | (refine L_val rfl rfl rfl (OpP.v (P_subN rfl rfl rfl (by simp only [fits]; omega))) ?_) | (refine L_val rfl rfl rfl (OpP.v (P_sub rfl rfl rfl)) ?_)
     refine E_as (t := 112) (v' := .int .i64 ((m - (n + 1) : Nat) : Int)) rfl (by congr 1; omega) ?_
     refine L_val rfl rfl rfl (OpP.v (P_assign rfl rfl)) ?_
     refine L_nil ?_
     exact Q_round (n + 1) (by omega) (by show m - i - (n + 1) < m - i - n; omega) (by repeat (first | exact .nil | refine .cons rfl ?_ | refine .consE rfl (by first | rfl | (congr 1; omega) | (congr 1; push_cast; omega)) ?_)) (Weak.refl _)
    ·skip
     have hn : n = m - i := by omega
     have hsg := fun k => shL_get d m n k (by omega) (by omega)
     refine R_exit ?_
     refine Q_then_exit ?_
     refine Q_then_exit ?_
     refine Q_block_eq ?_
     refine St.env (.cons (t := 0) rfl (.cons (t := 1) rfl (.cons (t := 2) rfl (.cons (t := 3) rfl (.cons (t := 4) rfl .nil))))) ?_
     refine Q_then ?_
     refine R_ret ?_
     refine Q_then_ret ?_
     exact R_end (rs2 := _) rfl rfl (.nil) (⟨rfl, _, ⟨shL_perm d m a b (by omega) (by omega) n (by omega), by rw [hb1]; exact merge_last swo_bt (i := i) (by omega) (by omega) hSL hl hr (fun k h5 h6 => by rw [hsg, if_pos ⟨by omega, h6⟩]) (by rw [hsg, if_neg (by omega), if_pos (by omega)]) (fun k h5 h6 => by rw [hsg, if_neg (by omega), if_neg (by omega)])⟩, rfl⟩) (Weak.refl _)
  ·skip
   have h2 : m + 1 < b := by omega
   refine R_skip ?_
   refine Q_then ?_
   refine R_seq ?_
   obtain ⟨mid, hmid⟩ : ∃ x, x = (a + b) / 2 := ⟨_, rfl⟩
   obtain ⟨s0, hs0⟩ : ∃ x, x = (if m > mid then mid + m - b else a) := ⟨_, rfl⟩
   obtain ⟨r0, hr0⟩ : ∃ x, x = (if m > mid then mid else m) := ⟨_, rfl⟩
   refine R_region ?_
   refine L_val rfl rfl rfl (OpP.v (P_move rfl rfl)) ?_
   refine L_val rfl rfl rfl (OpP.v (P_move rfl rfl)) ?_
   first | (refine L_val rfl rfl rfl (OpP.v (P_addN rfl rfl rfl (by simp only [fits]; omega))) ?_) | (refine L_val rfl rfl rfl (OpP.v (P_add rfl rfl rfl)) ?_)
   first | (refine L_val rfl rfl rfl (OpP.v (P_convN rfl ty_int_3 ty_int_133 rfl (by simp only [fits]; omega))) ?_) | (refine L_val rfl rfl rfl (OpP.v (P_conv rfl ty_int_3 ty_int_133 rfl)) ?_)
   refine L_val rfl rfl rfl (OpP.v (P_shr rfl rfl rfl (by omega))) ?_
   refine E_as (t := 133) (v' := .int .u64 (((a + b) / 2 : Nat) : Int)) rfl (by have h9 := half_nat (a + b); push_cast at h9 ⊢; rw [h9]) ?_
   first | (refine L_val rfl rfl rfl (OpP.v (P_convN rfl ty_int_133 ty_int_3 rfl (by simp only [fits]; omega))) ?_) | (refine L_val rfl rfl rfl (OpP.v (P_conv rfl ty_int_133 ty_int_3 rfl)) ?_)
   refine E_as (t := 134) (v' := .int .i64 ((mid : Nat) : Int)) rfl (by rw [hmid]) ?_
   refine L_val rfl rfl rfl (OpP.v (P_assign rfl rfl)) ?_
   refine L_nil ?_
   refine St.env (.cons (t := 0) rfl (.cons (t := 1) rfl (.cons (t := 2) rfl (.cons (t := 3) rfl (.cons (t := 4) rfl (.cons (t := 18) rfl .nil)))))) ?_
   refine Q_then ?_
   refine R_seq ?_
   refine R_region ?_
   refine L_val rfl rfl rfl (OpP.v (P_move rfl rfl)) ?_
   refine L_val rfl rfl rfl (OpP.v (P_move rfl rfl)) ?_
   first | (refine L_val rfl rfl rfl (OpP.v (P_addN rfl rfl rfl (by simp only [fits]; omega))) ?_) | (refine L_val rfl rfl rfl (OpP.v (P_add rfl rfl rfl)) ?_)
   refine L_val rfl rfl rfl (OpP.v (P_assign rfl rfl)) ?_
   refine L_nil ?_
   refine St.env (.cons (t := 0) rfl (.cons (t := 1) rfl (.cons (t := 2) rfl (.cons (t := 3) rfl (.cons (t := 4) rfl (.cons (t := 18) rfl (.cons (t := 19) rfl .nil))))))) ?_
   refine Q_then ?_
   refine R_seq ?_
   refine R_region ?_
   refine L_val rfl rfl rfl (OpP.v (P_assign rfl rfl)) ?_
   refine L_val rfl rfl rfl (OpP.v (P_assign rfl rfl)) ?_
   refine L_nil ?_
   refine Q_then ?_
   refine R_joinE0 (G := Unit) (.cons (t := 0) rfl (.cons (t := 1) rfl (.cons (t := 2) rfl (.cons (t := 3) rfl (.cons (t := 4) rfl (.cons (t := 18) rfl (.cons (t := 19) rfl .nil))))))) (fun g => [(20, .int .i64 ((s0 : Nat) : Int)), (21, .int .i64 ((r0 : Nat) : Int))]) (fun g => True) ?_ ?_
   ·skip
    refine R_seq ?_
    refine R_region ?_
    refine L_val rfl rfl rfl (OpP.v (P_move rfl rfl)) ?_
    refine L_val rfl rfl rfl (OpP.v (P_move rfl rfl)) ?_
    refine L_val rfl rfl rfl (OpP.v (P_gtr rfl rfl rfl)) ?_
    refine L_nil ?_
    refine St.env (.cons (t := 0) rfl (.cons (t := 1) rfl (.cons (t := 2) rfl (.cons (t := 3) rfl (.cons (t := 4) rfl (.cons (t := 18) rfl (.cons (t := 19) rfl (.cons (t := 20) rfl (.cons (t := 21) rfl (.cons (t := 140) rfl .nil)))))))))) ?_
    refine Q_then ?_
    refine R_condP rfl (fun hgt => ?_) (fun hgt => ?_)
    ·skip
     refine R_seq ?_
     refine R_region ?_
     refine L_val rfl rfl rfl (OpP.v (P_move rfl rfl)) ?_
     refine L_val rfl rfl rfl (OpP.v (P_move rfl rfl)) ?_
     first | (refine L_val rfl rfl rfl (OpP.v (P_subN rfl rfl rfl (by simp only [fits]; omega))) ?_) | (refine L_val rfl rfl rfl (OpP.v (P_sub rfl rfl rfl)) ?_)
     refine E_as (t := 143) (v' := .int .i64 ((s0 : Nat) : Int)) rfl (by congr 1; rw [hs0, if_pos (by omega)]; omega) ?_
     refine L_val rfl rfl rfl (OpP.v (P_assign rfl rfl)) ?_
     refine L_nil ?_
     refine St.env (.cons (t := 0) rfl (.cons (t := 1) rfl (.cons (t := 2) rfl (.cons (t := 3) rfl (.cons (t := 4) rfl (.cons (t := 18) rfl (.cons (t := 19) rfl (.cons (t := 20) rfl (.cons (t := 21) rfl .nil))))))))) ?_
     refine Q_then ?_
     refine R_region ?_
     refine L_val rfl rfl rfl (OpP.v (P_move rfl rfl)) ?_
     refine L_val rfl rfl rfl (OpP.v (P_assign rfl rfl)) ?_
     refine L_nil ?_
     refine St.env (.cons (t := 0) rfl (.cons (t := 1) rfl (.cons (t := 2) rfl (.cons (t := 3) rfl (.cons (t := 4) rfl (.cons (t := 18) rfl (.cons (t := 19) rfl (.cons (t := 20) rfl (.cons (t := 21) rfl .nil))))))))) ?_
     refine E_as (t := 20) (v' := .int .i64 ((s0 : Nat) : Int)) rfl (rfl) ?_
     refine E_as (t := 21) (v' := .int .i64 ((r0 : Nat) : Int)) rfl (by congr 1; rw [hr0, if_pos (by omega)]) ?_
     exact Q_meet () (trivial) (by repeat (first | exact .nil | refine .cons rfl ?_ | refine .consE rfl (by first | rfl | (congr 1; omega) | (congr 1; push_cast; omega)) ?_)) (Weak.refl _)
    ·skip
     refine R_seq ?_
     refine R_region ?_
     refine L_val rfl rfl rfl (OpP.v (P_move rfl rfl)) ?_
     refine L_val rfl rfl rfl (OpP.v (P_assign rfl rfl)) ?_
     refine L_nil ?_
     refine St.env (.cons (t := 0) rfl (.cons (t := 1) rfl (.cons (t := 2) rfl (.cons (t := 3) rfl (.cons (t := 4) rfl (.cons (t := 18) rfl (.cons (t := 19) rfl (.cons (t := 20) rfl (.cons (t := 21) rfl .nil))))))))) ?_
     refine Q_then ?_
     refine R_region ?_
     refine L_val rfl rfl rfl (OpP.v (P_move rfl rfl)) ?_
     refine L_val rfl rfl rfl (OpP.v (P_assign rfl rfl)) ?_
     refine L_nil ?_
     refine St.env (.cons (t := 0) rfl (.cons (t := 1) rfl (.cons (t := 2) rfl (.cons (t := 3) rfl (.cons (t := 4) rfl (.cons (t := 18) rfl (.cons (t := 19) rfl (.cons (t := 20) rfl (.cons (t := 21) rfl .nil))))))))) ?_
     refine E_as (t := 20) (v' := .int .i64 ((s0 : Nat) : Int)) rfl (by congr 1; rw [hs0, if_neg (by omega)]) ?_
     refine E_as (t := 21) (v' := .int .i64 ((r0 : Nat) : Int)) rfl (by congr 1; rw [hr0, if_neg (by omega)]) ?_
     exact Q_meet () (trivial) (by repeat (first | exact .nil | refine .cons rfl ?_ | refine .consE rfl (by first | rfl | (congr 1; omega) | (congr 1; push_cast; omega)) ?_)) (Weak.refl _)
   ·rintro ⟨⟩ hinv
    replace hinv : True := hinv
    show St (cx gl) _ ((20, .int .i64 ((s0 : Nat) : Int)) :: (21, .int .i64 ((r0 : Nat) : Int)) :: _) _ _
    have hb0 : s0 ≤ r0 ∧ a ≤ s0 ∧ r0 ≤ m ∧ r0 ≤ mid := by rw [hs0, hr0]; (repeat' split) <;> omega
    have hb9 : mid + m ≤ s0 + b ∧ m ≤ mid + m - r0 := by rw [hs0, hr0]; (repeat' split) <;> omega
    refine R_seq ?_
    refine R_region ?_
    refine L_val rfl rfl rfl (OpP.v (P_move rfl rfl)) ?_
    first | (refine L_val rfl rfl rfl (OpP.v (P_subN rfl rfl rfl (by simp only [fits]; omega))) ?_) | (refine L_val rfl rfl rfl (OpP.v (P_sub rfl rfl rfl)) ?_)
    refine E_as (t := 148) (v' := .int .i64 ((mid + m - 1 : Nat) : Int)) rfl (by congr 1; omega) ?_
    refine L_val rfl rfl rfl (OpP.v (P_assign rfl rfl)) ?_
    refine L_nil ?_
    refine St.env (.cons (t := 0) rfl (.cons (t := 1) rfl (.cons (t := 2) rfl (.cons (t := 3) rfl (.cons (t := 4) rfl (.cons (t := 18) rfl (.cons (t := 19) rfl (.cons (t := 20) rfl (.cons (t := 21) rfl (.cons (t := 22) rfl .nil)))))))))) ?_
    refine Q_then ?_
    refine R_seq ?_
    refine R_block ?_
    refine R_loopE (G := Nat × Nat) (.cons (t := 0) rfl (.cons (t := 1) rfl (.cons (t := 2) rfl (.cons (t := 3) rfl (.cons (t := 4) rfl (.cons (t := 18) rfl (.cons (t := 19) rfl (.cons (t := 22) rfl .nil)))))))) (fun g => [(20, .int .i64 ((g.1 : Nat) : Int)), (21, .int .i64 ((g.2 : Nat) : Int))]) (fun _ => _) (fun g => s0 ≤ g.1 ∧ g.1 ≤ g.2 ∧ g.2 ≤ r0 ∧ (∀ c, s0 ≤ c → c < g.1 → bt d[mid + m - 1 - c]! d[c]! = false) ∧ (∀ c, g.2 ≤ c → c < r0 → bt d[mid + m - 1 - c]! d[c]! = true)) (fun g => g.2 - g.1) (s0, r0) (by show s0 ≤ (s0) ∧ (s0) ≤ (r0) ∧ (r0) ≤ r0 ∧ (∀ c, s0 ≤ c → c < (s0) → bt d[mid + m - 1 - c]! d[c]! = false) ∧ (∀ c, (r0) ≤ c → c < r0 → bt d[mid + m - 1 - c]! d[c]! = true); exact ⟨Nat.le_refl _, by omega, Nat.le_refl _, fun c _ _ => by omega, fun c _ _ => by omega⟩) (by repeat (first | exact .nil | refine .cons rfl ?_ | refine .consE rfl (by first | rfl | (congr 1; omega) | (congr 1; push_cast; omega)) ?_)) (Weak.refl _) ?_
    rintro ⟨s, r⟩ hinv
    replace hinv : s0 ≤ s ∧ s ≤ r ∧ r ≤ r0 ∧ (∀ c, s0 ≤ c → c < s → bt d[mid + m - 1 - c]! d[c]! = false) ∧ (∀ c, r ≤ c → c < r0 → bt d[mid + m - 1 - c]! d[c]! = true) := hinv
    show St (cx gl) _ ((20, .int .i64 ((s : Nat) : Int)) :: (21, .int .i64 ((r : Nat) : Int)) :: _) _ _
    obtain ⟨hsi, hsr, hrr, hl, hr⟩ := hinv
    refine R_seq ?_
    refine R_seq ?_
    refine R_region ?_
    refine L_val rfl rfl rfl (OpP.v (P_move rfl rfl)) ?_
    refine L_val rfl rfl rfl (OpP.v (P_move rfl rfl)) ?_
    refine L_val rfl rfl rfl (OpP.v (P_lss rfl rfl rfl)) ?_
    refine L_nil ?_
    refine Q_then ?_
    refine R_condP rfl (fun hlt => ?_) (fun hlt => ?_)
    ·skip
     have hgh := arr_get (d := d) (i := (s + r) / 2) (by omega)
     have hga := arr_get (d := d) (i := mid + m - 1 - (s + r) / 2) (by omega)
     refine R_skip ?_
     refine Q_then ?_
     refine R_block ?_
     refine R_seq ?_
     refine R_region ?_
     refine L_val rfl rfl rfl (OpP.v (P_move rfl rfl)) ?_
     refine L_val rfl rfl rfl (OpP.v (P_move rfl rfl)) ?_
     first | (refine L_val rfl rfl rfl (OpP.v (P_addN rfl rfl rfl (by simp only [fits]; omega))) ?_) | (refine L_val rfl rfl rfl (OpP.v (P_add rfl rfl rfl)) ?_)
     first | (refine L_val rfl rfl rfl (OpP.v (P_convN rfl ty_int_3 ty_int_133 rfl (by simp only [fits]; omega))) ?_) | (refine L_val rfl rfl rfl (OpP.v (P_conv rfl ty_int_3 ty_int_133 rfl)) ?_)
     refine L_val rfl rfl rfl (OpP.v (P_shr rfl rfl rfl (by omega))) ?_
     refine E_as (t := 156) (v' := .int .u64 (((s + r) / 2 : Nat) : Int)) rfl (by have h9 := half_nat (s + r); push_cast at h9 ⊢; rw [h9]) ?_
     first | (refine L_val rfl rfl rfl (OpP.v (P_convN rfl ty_int_133 ty_int_3 rfl (by simp only [fits]; omega))) ?_) | (refine L_val rfl rfl rfl (OpP.v (P_conv rfl ty_int_133 ty_int_3 rfl)) ?_)
     refine L_val rfl rfl rfl (OpP.v (P_assign rfl rfl)) ?_
     refine L_nil ?_
     refine Q_then ?_
     refine R_seq ?_
     refine R_open [(0, 0), (1, 0), (2, 0), (3, 0), (4, 0), (5, 0), (6, 1), (7, 0), (8, 0), (9, 0), (10, 1), (11, 2), (12, 0), (13, 0)] mixed (by kernel_rfl) (QOk.then (QOk.block (QOk.then (QOk.block (QOk.then QOk.body))))) ?_
     refine O_pure rfl rfl rfl rfl (P_move rfl rfl) ?_
     refine O_pure rfl rfl rfl rfl (P_move rfl rfl) ?_
     refine O_pure rfl rfl rfl rfl (P_move rfl rfl) ?_
     refine O_pure rfl rfl rfl rfl (P_move rfl rfl) ?_
     first | (refine O_pure rfl rfl rfl rfl (P_subN rfl rfl rfl (by simp only [fits]; omega)) ?_) | (refine O_pure rfl rfl rfl rfl (P_sub rfl rfl rfl) ?_)
     refine E_as (t := 162) (v' := .int .i64 ((mid + m - 1 - (s + r) / 2 : Nat) : Int)) rfl (by congr 1; omega) ?_
     refine O_pure rfl rfl rfl rfl (P_ixs (mid + m - 1 - (s + r) / 2) rfl ty_sl_68 rfl rfl (by first | rfl | omega) (by omega)) ?_
     refine O_val rfl rfl rfl rfl (V_loadAgg rfl rfl ty_ag_76 (rds_rc (rds_own .h0) hga) (rfl)) ?_
     refine O_pure rfl rfl rfl rfl (P_move rfl rfl) ?_
     refine O_pure rfl rfl rfl rfl (P_move rfl rfl) ?_
     refine O_pure rfl rfl rfl rfl (P_ixs ((s + r) / 2) rfl ty_sl_68 rfl rfl (by first | rfl | omega) (by omega)) ?_
     refine O_val rfl rfl rfl rfl (V_loadAgg rfl rfl ty_ag_76 (rds_rc (rds_own .h0) hgh) (rfl)) ?_
     refine O_keep rfl rfl (W_callFV (fi := []) (ca := []) rfl rfl rfl rfl rfl rfl fn_ca_84 (seats1_ok (d[mid + m - 1 - (s + r) / 2]!) (d[(s + r) / 2]!)) (fun _ _ => trivial) (K_keep (Weak.refl _) ?_))
     refine O_pure rfl rfl rfl rfl (P_lss rfl rfl rfl) ?_
     refine E_as (t := 170) (v' := .bool (bt (d[mid + m - 1 - (s + r) / 2]!) (d[(s + r) / 2]!))) rfl (by rw [← ltOf_bt]; rfl) ?_
     refine O_pure rfl rfl rfl rfl (P_not rfl rfl) ?_
     refine O_nil ?_
     refine Q_then ?_
     refine R_cond rfl (fun hb => ?_) (fun hb => ?_)
     ·skip
      have hb : bt d[mid + m - 1 - (s + r) / 2]! d[(s + r) / 2]! = false := by simpa using hb
      refine R_region ?_
      refine L_val rfl rfl rfl (OpP.v (P_move rfl rfl)) ?_
      first | (refine L_val rfl rfl rfl (OpP.v (P_addN rfl rfl rfl (by simp only [fits]; omega))) ?_) | (refine L_val rfl rfl rfl (OpP.v (P_add rfl rfl rfl)) ?_)
      refine L_val rfl rfl rfl (OpP.v (P_assign rfl rfl)) ?_
      refine L_nil ?_
      refine Q_block ?_
      exact Q_round ((s + r) / 2 + 1, r) (by show s0 ≤ ((s + r) / 2 + 1) ∧ ((s + r) / 2 + 1) ≤ (r) ∧ (r) ≤ r0 ∧ (∀ c, s0 ≤ c → c < ((s + r) / 2 + 1) → bt d[mid + m - 1 - c]! d[c]! = false) ∧ (∀ c, (r) ≤ c → c < r0 → bt d[mid + m - 1 - c]! d[c]! = true); exact ⟨by omega, by omega, hrr, up_all hl ((s + r) / 2) fun c hc1 hc2 => up_3 (mid := mid) hSL hSR (by omega) hc2 (by omega) (by omega) (by omega) hb, hr⟩) (by show r - ((s + r) / 2 + 1) < r - s; omega) (by repeat (first | exact .nil | refine .cons rfl ?_ | refine .consE rfl (by first | rfl | (congr 1; omega) | (congr 1; push_cast; omega)) ?_)) (Weak.refl _)
     ·skip
      have hb : bt d[mid + m - 1 - (s + r) / 2]! d[(s + r) / 2]! = true := by simpa using hb
      refine R_region ?_
      refine L_val rfl rfl rfl (OpP.v (P_move rfl rfl)) ?_
      refine L_val rfl rfl rfl (OpP.v (P_assign rfl rfl)) ?_
      refine L_nil ?_
      refine Q_block ?_
      exact Q_round (s, (s + r) / 2) (by show s0 ≤ (s) ∧ (s) ≤ ((s + r) / 2) ∧ ((s + r) / 2) ≤ r0 ∧ (∀ c, s0 ≤ c → c < (s) → bt d[mid + m - 1 - c]! d[c]! = false) ∧ (∀ c, ((s + r) / 2) ≤ c → c < r0 → bt d[mid + m - 1 - c]! d[c]! = true); exact ⟨hsi, by omega, by omega, hl, down_all hr ((s + r) / 2) fun c hc1 hc2 => search_mono' (mid := mid) hSL hSR (by omega) hc1 (by omega) (by omega) (by omega) hb⟩) (by show (s + r) / 2 - s < r - s; omega) (by repeat (first | exact .nil | refine .cons rfl ?_ | refine .consE rfl (by first | rfl | (congr 1; omega) | (congr 1; push_cast; omega)) ?_)) (Weak.refl _)
    ·skip
     have hin : s = r := by omega
     subst hin
     refine R_exit ?_
     refine Q_then_exit ?_
     refine Q_then_exit ?_
     refine Q_block_eq ?_
     refine St.env (.cons (t := 0) rfl (.cons (t := 1) rfl (.cons (t := 2) rfl (.cons (t := 3) rfl (.cons (t := 4) rfl (.cons (t := 18) rfl (.cons (t := 19) rfl (.cons (t := 20) rfl .nil)))))))) ?_
     refine Q_then ?_
     refine R_seq ?_
     refine R_region ?_
     refine L_val rfl rfl rfl (OpP.v (P_move rfl rfl)) ?_
     refine L_val rfl rfl rfl (OpP.v (P_move rfl rfl)) ?_
     first | (refine L_val rfl rfl rfl (OpP.v (P_subN rfl rfl rfl (by simp only [fits]; omega))) ?_) | (refine L_val rfl rfl rfl (OpP.v (P_sub rfl rfl rfl)) ?_)
     refine E_as (t := 177) (v' := .int .i64 ((mid + m - s : Nat) : Int)) rfl (by congr 1; omega) ?_
     refine L_val rfl rfl rfl (OpP.v (P_assign rfl rfl)) ?_
     refine L_nil ?_
     refine St.env (.cons (t := 0) rfl (.cons (t := 1) rfl (.cons (t := 2) rfl (.cons (t := 3) rfl (.cons (t := 4) rfl (.cons (t := 18) rfl (.cons (t := 20) rfl (.cons (t := 24) rfl .nil)))))))) ?_
     refine Q_then ?_
     refine R_joinE (G := Array Mem) (.cons (t := 0) rfl (.cons (t := 1) rfl (.cons (t := 3) rfl (.cons (t := 4) rfl (.cons (t := 18) rfl (.cons (t := 20) rfl (.cons (t := 24) rfl .nil))))))) (fun g => []) (fun g => [ownS 76 3 (.slice (some ⟨b0, 0, none⟩) d.size cap) d.size (rc (g).toList)]) (fun g => g.size = d.size ∧ PermIn a b d g ∧ Rot s m (mid + m - s) d g) ?_ ?_
     ·skip
      refine R_seq ?_
      refine R_region ?_
      refine L_val rfl rfl rfl (OpP.v (P_move rfl rfl)) ?_
      refine L_val rfl rfl rfl (OpP.v (P_move rfl rfl)) ?_
      refine L_val rfl rfl rfl (OpP.v (P_lss rfl rfl rfl)) ?_
      refine E_bool (t := 180) rfl (fun hp => ?_) (fun hp => ?_)
      ·skip
       have hp := of_decide_eq_true hp
       refine L_val rfl rfl rfl (OpP.v (P_move rfl rfl)) ?_
       refine L_val rfl rfl rfl (OpP.v (P_move rfl rfl)) ?_
       refine L_val rfl rfl rfl (OpP.v (P_move rfl rfl)) ?_
       refine L_val rfl rfl rfl (OpP.v (P_lss rfl rfl rfl)) ?_
       refine L_val rfl rfl rfl (OpP.v (P_pick rfl rfl rfl)) ?_
       refine L_nil ?_
       refine St.env (.cons (t := 0) rfl (.cons (t := 1) rfl (.cons (t := 2) rfl (.cons (t := 3) rfl (.cons (t := 4) rfl (.cons (t := 18) rfl (.cons (t := 20) rfl (.cons (t := 24) rfl (.cons (t := 185) rfl .nil))))))))) ?_
       refine Q_then ?_
       refine R_condP rfl (fun hq => ?_) (fun hq => ?_)
       ·skip
        refine R_region ?_
        refine L_val rfl rfl rfl (OpP.v (P_move rfl rfl)) ?_
        refine L_val rfl rfl rfl (OpP.v (P_move rfl rfl)) ?_
        refine L_val rfl rfl rfl (OpP.v (P_move rfl rfl)) ?_
        refine L_val rfl rfl rfl (OpP.v (P_move rfl rfl)) ?_
        refine L_val rfl rfl rfl (OpP.v (P_move rfl rfl)) ?_
        refine L_op rfl (W_call rfl rfl rfl rfl fn_ca_213 (rot_ok b0 cap d s m (mid + m - s) (by omega) (by omega) (by omega) hsz hcap (.func (.func 84) #[] #[])) (Split.one (p := [])) (fun _ _ _ _ _ _ _ => trivial) fun vv rs1 ⟨z1, e1, ⟨hr1, hp1⟩, z2⟩ => ?_)
        subst z1; subst z2
        refine St.res (rs' := [ownS 76 3 (.slice (some ⟨b0, 0, none⟩) d.size cap) d.size (rc (e1).toList)]) (Weak.refl _) ?_
        refine L_nil ?_
        refine St.env (.cons (t := 0) rfl (.cons (t := 1) rfl (.cons (t := 3) rfl (.cons (t := 4) rfl (.cons (t := 18) rfl (.cons (t := 20) rfl (.cons (t := 24) rfl .nil))))))) ?_
        exact Q_meet (e1) (by show (e1).size = d.size ∧ PermIn a b d (e1) ∧ Rot s m (mid + m - s) d (e1); exact ⟨hr1.1, permMono hp1 (by omega) (by omega) (by omega), hr1⟩) (by repeat (first | exact .nil | refine .cons rfl ?_ | refine .consE rfl (by first | rfl | (congr 1; omega) | (congr 1; push_cast; omega)) ?_)) (Weak.refl _)
       ·skip
        refine R_skip ?_
        exact Q_meet (d) (by show (d).size = d.size ∧ PermIn a b d (d) ∧ Rot s m (mid + m - s) d (d); exact ⟨rfl, permIn_refl _ _ _, Rot.triv (by omega) (by omega) (by omega)⟩) (by repeat (first | exact .nil | refine .cons rfl ?_ | refine .consE rfl (by first | rfl | (congr 1; omega) | (congr 1; push_cast; omega)) ?_)) (Weak.refl _)
      ·skip
       have hp := of_decide_eq_false hp
       refine L_val rfl rfl rfl (OpP.v (P_move rfl rfl)) ?_
       refine L_no rfl rfl rfl ?_
       refine L_no rfl rfl rfl ?_
       refine L_no rfl rfl rfl ?_
       refine L_val rfl rfl rfl (OpP.v (P_pick rfl rfl rfl)) ?_
       refine L_nil ?_
       refine St.env (.cons (t := 0) rfl (.cons (t := 1) rfl (.cons (t := 2) rfl (.cons (t := 3) rfl (.cons (t := 4) rfl (.cons (t := 18) rfl (.cons (t := 20) rfl (.cons (t := 24) rfl (.cons (t := 185) rfl .nil))))))))) ?_
       refine Q_then ?_
       refine R_condF rfl ?_
       refine R_skip ?_
       exact Q_meet (d) (by show (d).size = d.size ∧ PermIn a b d (d) ∧ Rot s m (mid + m - s) d (d); exact ⟨rfl, permIn_refl _ _ _, Rot.triv (by omega) (by omega) (by omega)⟩) (by repeat (first | exact .nil | refine .cons rfl ?_ | refine .consE rfl (by first | rfl | (congr 1; omega) | (congr 1; push_cast; omega)) ?_)) (Weak.refl _)
     ·intro e hinv
      replace hinv : e.size = d.size ∧ PermIn a b d e ∧ Rot s m (mid + m - s) d e := hinv
      show St (cx gl) _ _ [ownS 76 3 (.slice (some ⟨b0, 0, none⟩) d.size cap) d.size (rc (e).toList)] _
      obtain ⟨hes, hpe, hrot⟩ := hinv
      obtain ⟨q1, q2, q3, q4, q5⟩ := merge_parts swo_bt ham hmb hb hmid hSL hSR (by rw [← hs0]; exact hsi) (by rw [← hr0]; exact hrr) (fun c h5 h6 => hl c (by rw [hs0]; exact h5) h6) (fun c h5 h6 => hr c h5 (by rw [hr0]; exact h6)) hrot
      refine R_joinE (G := Array Mem) (.cons (t := 0) rfl (.cons (t := 3) rfl (.cons (t := 4) rfl (.cons (t := 18) rfl (.cons (t := 24) rfl .nil))))) (fun g => []) (fun g => [ownS 76 3 (.slice (some ⟨b0, 0, none⟩) d.size cap) d.size (rc (g).toList)]) (fun g => g.size = d.size ∧ PermIn a mid e g ∧ SortedIn bt a mid g) ?_ ?_
      ·skip
       refine R_seq ?_
       refine R_region ?_
       refine L_val rfl rfl rfl (OpP.v (P_move rfl rfl)) ?_
       refine L_val rfl rfl rfl (OpP.v (P_move rfl rfl)) ?_
       refine L_val rfl rfl rfl (OpP.v (P_lss rfl rfl rfl)) ?_
       refine E_bool (t := 194) rfl (fun hp2 => ?_) (fun hp2 => ?_)
       ·skip
        have hp2 := of_decide_eq_true hp2
        refine L_val rfl rfl rfl (OpP.v (P_move rfl rfl)) ?_
        refine L_val rfl rfl rfl (OpP.v (P_move rfl rfl)) ?_
        refine L_val rfl rfl rfl (OpP.v (P_move rfl rfl)) ?_
        refine L_val rfl rfl rfl (OpP.v (P_lss rfl rfl rfl)) ?_
        refine L_val rfl rfl rfl (OpP.v (P_pick rfl rfl rfl)) ?_
        refine L_nil ?_
        refine St.env (.cons (t := 0) rfl (.cons (t := 1) rfl (.cons (t := 3) rfl (.cons (t := 4) rfl (.cons (t := 18) rfl (.cons (t := 20) rfl (.cons (t := 24) rfl (.cons (t := 199) rfl .nil)))))))) ?_
        refine Q_then ?_
        refine R_condP rfl (fun hq2 => ?_) (fun hq2 => ?_)
        ·skip
         refine R_region ?_
         refine L_val rfl rfl rfl (OpP.v (P_move rfl rfl)) ?_
         refine L_val rfl rfl rfl (OpP.v (P_move rfl rfl)) ?_
         refine L_val rfl rfl rfl (OpP.v (P_move rfl rfl)) ?_
         refine L_val rfl rfl rfl (OpP.v (P_move rfl rfl)) ?_
         refine L_val rfl rfl rfl (OpP.v (P_move rfl rfl)) ?_
         refine L_op rfl (W_call rfl rfl rfl rfl fn_ca_182 (hrec e hes a s mid (by omega) (by omega) (by omega) (by omega) q1 q2) (Split.one (p := [])) (fun _ _ _ _ _ _ _ => trivial) fun vv rs1 ⟨z1, e3, ⟨hp3, hs3⟩, z2⟩ => ?_)
         subst z1; subst z2
         refine St.res (rs' := [ownS 76 3 (.slice (some ⟨b0, 0, none⟩) d.size cap) d.size (rc (e3).toList)]) (Weak.refl _) ?_
         refine L_nil ?_
         refine St.env (.cons (t := 0) rfl (.cons (t := 3) rfl (.cons (t := 4) rfl (.cons (t := 18) rfl (.cons (t := 24) rfl .nil))))) ?_
         exact Q_meet (e3) (by show (e3).size = d.size ∧ PermIn a mid e (e3) ∧ SortedIn bt a mid (e3); exact ⟨by rw [hp3.1, hes], hp3, hs3⟩) (by repeat (first | exact .nil | refine .cons rfl ?_ | refine .consE rfl (by first | rfl | (congr 1; omega) | (congr 1; push_cast; omega)) ?_)) (Weak.refl _)
        ·skip
         refine R_skip ?_
         exact Q_meet (e) (by show (e).size = d.size ∧ PermIn a mid e (e) ∧ SortedIn bt a mid (e); exact ⟨hes, permIn_refl _ _ _, sort_edge q1 q2 (by omega)⟩) (by repeat (first | exact .nil | refine .cons rfl ?_ | refine .consE rfl (by first | rfl | (congr 1; omega) | (congr 1; push_cast; omega)) ?_)) (Weak.refl _)
       ·skip
        have hp2 := of_decide_eq_false hp2
        refine L_val rfl rfl rfl (OpP.v (P_move rfl rfl)) ?_
        refine L_no rfl rfl rfl ?_
        refine L_no rfl rfl rfl ?_
        refine L_no rfl rfl rfl ?_
        refine L_val rfl rfl rfl (OpP.v (P_pick rfl rfl rfl)) ?_
        refine L_nil ?_
        refine St.env (.cons (t := 0) rfl (.cons (t := 1) rfl (.cons (t := 3) rfl (.cons (t := 4) rfl (.cons (t := 18) rfl (.cons (t := 20) rfl (.cons (t := 24) rfl (.cons (t := 199) rfl .nil)))))))) ?_
        refine Q_then ?_
        refine R_condF rfl ?_
        refine R_skip ?_
        exact Q_meet (e) (by show (e).size = d.size ∧ PermIn a mid e (e) ∧ SortedIn bt a mid (e); exact ⟨hes, permIn_refl _ _ _, sort_edge q1 q2 (by omega)⟩) (by repeat (first | exact .nil | refine .cons rfl ?_ | refine .consE rfl (by first | rfl | (congr 1; omega) | (congr 1; push_cast; omega)) ?_)) (Weak.refl _)
      ·intro e2 hinv
       replace hinv : e2.size = d.size ∧ PermIn a mid e e2 ∧ SortedIn bt a mid e2 := hinv
       show St (cx gl) _ _ [ownS 76 3 (.slice (some ⟨b0, 0, none⟩) d.size cap) d.size (rc (e2).toList)] _
       obtain ⟨he2, hpe2, hso2⟩ := hinv
       have q3' := sortEq q3 fun k h5 h6 => hpe2.2.1 k (.inr h5)
       have q4' := sortEq q4 fun k h5 h6 => hpe2.2.1 k (.inr (by omega))
       have q5' := between_perm (by omega) (by omega) q5 hpe2
       refine R_seq ?_
       refine R_region ?_
       refine L_val rfl rfl rfl (OpP.v (P_move rfl rfl)) ?_
       refine L_val rfl rfl rfl (OpP.v (P_move rfl rfl)) ?_
       refine L_val rfl rfl rfl (OpP.v (P_lss rfl rfl rfl)) ?_
       refine E_bool (t := 208) rfl (fun hp4 => ?_) (fun hp4 => ?_)
       ·skip
        have hp4 := of_decide_eq_true hp4
        refine L_val rfl rfl rfl (OpP.v (P_move rfl rfl)) ?_
        refine L_val rfl rfl rfl (OpP.v (P_move rfl rfl)) ?_
        refine L_val rfl rfl rfl (OpP.v (P_move rfl rfl)) ?_
        refine L_val rfl rfl rfl (OpP.v (P_lss rfl rfl rfl)) ?_
        refine L_val rfl rfl rfl (OpP.v (P_pick rfl rfl rfl)) ?_
        refine L_nil ?_
        refine St.env (.cons (t := 0) rfl (.cons (t := 3) rfl (.cons (t := 4) rfl (.cons (t := 18) rfl (.cons (t := 24) rfl (.cons (t := 213) rfl .nil)))))) ?_
        refine Q_then ?_
        refine R_condP rfl (fun hq4 => ?_) (fun hq4 => ?_)
        ·skip
         refine R_region ?_
         refine L_val rfl rfl rfl (OpP.v (P_move rfl rfl)) ?_
         refine L_val rfl rfl rfl (OpP.v (P_move rfl rfl)) ?_
         refine L_val rfl rfl rfl (OpP.v (P_move rfl rfl)) ?_
         refine L_val rfl rfl rfl (OpP.v (P_move rfl rfl)) ?_
         refine L_val rfl rfl rfl (OpP.v (P_move rfl rfl)) ?_
         refine L_op rfl (W_call rfl rfl rfl rfl fn_ca_182 (hrec e2 he2 mid (mid + m - s) b (by omega) (by omega) (by omega) (by omega) q3' q4') (Split.one (p := [])) (fun _ _ _ _ _ _ _ => trivial) fun vv rs1 ⟨z1, e5, ⟨hp5, hs5⟩, z2⟩ => ?_)
         subst z1; subst z2
         refine St.res (rs' := [ownS 76 3 (.slice (some ⟨b0, 0, none⟩) d.size cap) d.size (rc (e5).toList)]) (Weak.refl _) ?_
         refine L_nil ?_
         refine St.env (.nil) ?_
         exact R_end0 (rs2 := _) rfl rfl (.nil) (⟨rfl, e5, ⟨permTr hpe (permTr (permMono hpe2 (by omega) (by omega) (by omega)) (permMono hp5 (by omega) (by omega) (by omega))), merge_join (sortEq hso2 fun k h5 h6 => hp5.2.1 k (.inl h6)) hs5 (between_perm' (by omega) q5' hp5)⟩, rfl⟩) (Weak.refl _)
        ·skip
         refine R_skip ?_
         exact R_end0 (rs2 := _) rfl rfl (.nil) (⟨rfl, e2, ⟨permTr hpe (permTr (permMono hpe2 (by omega) (by omega) (by omega)) (permIn_refl _ _ _)), merge_join hso2 (sort_edge q3' q4' (by omega)) q5'⟩, rfl⟩) (Weak.refl _)
       ·skip
        have hp4 := of_decide_eq_false hp4
        refine L_val rfl rfl rfl (OpP.v (P_move rfl rfl)) ?_
        refine L_no rfl rfl rfl ?_
        refine L_no rfl rfl rfl ?_
        refine L_no rfl rfl rfl ?_
        refine L_val rfl rfl rfl (OpP.v (P_pick rfl rfl rfl)) ?_
        refine L_nil ?_
        refine St.env (.cons (t := 0) rfl (.cons (t := 3) rfl (.cons (t := 4) rfl (.cons (t := 18) rfl (.cons (t := 24) rfl (.cons (t := 213) rfl .nil)))))) ?_
        refine Q_then ?_
        refine R_condF rfl ?_
        refine R_skip ?_
        exact R_end0 (rs2 := _) rfl rfl (.nil) (⟨rfl, e2, ⟨permTr hpe (permTr (permMono hpe2 (by omega) (by omega) (by omega)) (permIn_refl _ _ _)), merge_join hso2 (sort_edge q3' q4' (by omega)) q5'⟩, rfl⟩) (Weak.refl _)
theorem sym_ok {gl : Nat → Obj} : ∀ N, SymOk gl N
 | 0 => fun b0 cap d a m b h1 h2 h3 _ _ _ _ _ => by omega
 | N + 1 => fun b0 cap d a m b h1 h2 h3 h4 h5 h6 h7 h8 => sym_step N (sym_ok N) b0 cap d a m b h1 h2 h3 h4 h5 h6 h7 h8
end Go.Proofs.YtfhjhaogmdaepaaGreatDoor

/- Go's stable sort of members. Printed by gen.py. -/
set_option linter.unusedVariables false
set_option linter.unusedSimpArgs false
set_option maxRecDepth 100000
namespace Go.Proofs.YtfhjhaogmdaepaaGreatDoor
open Go Go.RowKit Go.Proofs Go.Sort
theorem blk_keep {a b x y : Nat} {d d' : Array Mem} (h : SortedIn bt x y d) (hp : PermIn a b d d') (hd : y ≤ a ∨ b ≤ x) : SortedIn bt x y d' := sortEq h fun k h1 h2 => hp.2.1 k (by omega)
theorem dvd_apart {sz x a : Nat} (h1 : sz ∣ x) (h2 : sz ∣ a) (h : x < a) : x + sz ≤ a := by
 obtain ⟨p, rfl⟩ := h1
 obtain ⟨q, rfl⟩ := h2
 have hpq : p < q := Nat.lt_of_mul_lt_mul_left h
 calc sz * p + sz = sz * (p + 1) := (Nat.mul_succ sz p).symm
  _ ≤ sz * q := Nat.mul_le_mul_left sz hpq
theorem dvd_apart' {sz x a : Nat} (h1 : sz ∣ x) (h2 : sz ∣ a) (h : x ≠ a) : x + sz ≤ a ∨ a + sz ≤ x := by
 rcases Nat.lt_or_gt_of_ne h with h | h
 ·exact .inl (dvd_apart h1 h2 h)
 ·exact .inr (dvd_apart h2 h1 h)
theorem dvd_two {sz a : Nat} (h : 2 * sz ∣ a) : sz ∣ a := Nat.dvd_trans (Nat.dvd_mul_left sz 2) h
theorem ins_next {a : Nat} {e e1 : Array Mem} (hdv : 20 ∣ a) (hdo : ∀ x, 20 ∣ x → x + 20 ≤ a → SortedIn bt x (x + 20) e) (hp : PermIn a (a + 20) e e1) (hs : SortedIn bt a (a + 20) e1) : ∀ x, 20 ∣ x → x + 20 ≤ a + 20 → SortedIn bt x (x + 20) e1 := fun x hx hx2 => by
 by_cases he : x = a
 ·subst he; exact hs
 ·rcases dvd_apart' hx hdv he with h | h
  ·exact blk_keep (hdo x hx h) hp (.inl h)
  ·omega
/-- All blocks of that size are in order. -/
def Blk (sz n : Nat) (d : Array Mem) : Prop := ∀ x, sz ∣ x → SortedIn bt x (min (x + sz) n) d
theorem blk_first {n a : Nat} {d d' : Array Mem} (ha : 20 ∣ a) (han : a ≤ n) (hbn : n < a + 20) (h : ∀ x, 20 ∣ x → x + 20 ≤ a → SortedIn bt x (x + 20) d) (hp : PermIn a n d d') (hs : SortedIn bt a n d') : Blk 20 n d' := fun x hx => by
 by_cases he : x = a
 ·subst he; rw [Nat.min_eq_right (by omega)]; exact hs
 ·rcases dvd_apart' hx ha he with h1 | h1
  ·rw [Nat.min_eq_left (by omega)]; exact blk_keep (h x hx h1) hp (.inl h1)
  ·exact sorted_one (by omega)
structure Half (sz n a : Nat) (e : Array Mem) : Prop where
 dv : 2 * sz ∣ a
 le : a ≤ n
 done : ∀ x, 2 * sz ∣ x → x + 2 * sz ≤ a → SortedIn bt x (x + 2 * sz) e
 todo : ∀ x, sz ∣ x → a ≤ x → SortedIn bt x (min (x + sz) n) e
theorem Half.start {sz n : Nat} {d : Array Mem} (h : Blk sz n d) (hp : 0 < sz) : Half sz n 0 d := ⟨⟨0, rfl⟩, Nat.zero_le _, fun x _ hx => by omega, fun x hx _ => h x hx⟩
theorem Half.left {sz n a : Nat} {e : Array Mem} (h : Half sz n a e) (hn : a + sz ≤ n) : SortedIn bt a (a + sz) e := by
 have := h.todo a (dvd_two h.dv) (Nat.le_refl _)
 rwa [Nat.min_eq_left hn] at this
theorem Half.right {sz n a y : Nat} {e : Array Mem} (h : Half sz n a e) (hy : y ≤ n) (h2 : y ≤ a + 2 * sz) : SortedIn bt (a + sz) y e := by
 have := h.todo (a + sz) (Nat.dvd_add (dvd_two h.dv) (Nat.dvd_refl _)) (by omega)
 exact sortSub this (Nat.le_refl _) (by omega)
theorem Half.next {sz n a : Nat} {e e' : Array Mem} (h : Half sz n a e) (hp : 0 < sz) (hn : a + 2 * sz ≤ n) (hpm : PermIn a (a + 2 * sz) e e') (hs : SortedIn bt a (a + 2 * sz) e') : Half sz n (a + 2 * sz) e' := by
 refine ⟨Nat.dvd_add h.dv (Nat.dvd_refl _), hn, fun x hx hx2 => ?_, fun x hx hx2 => ?_⟩
 ·by_cases he : x = a
  ·subst he; exact hs
  ·rcases dvd_apart' hx h.dv he with h1 | h1
   ·exact blk_keep (h.done x hx h1) hpm (.inl h1)
   ·omega
 ·exact blk_keep (h.todo x hx (by omega)) hpm (.inr hx2)
theorem Half.full {sz n a : Nat} {e : Array Mem} (h : Half sz n a e) (hp : 0 < sz) (hn : n < a + 2 * sz) (hs : SortedIn bt a n e) : Blk (2 * sz) n e := fun x hx => by
 by_cases he : x = a
 ·subst he; rw [Nat.min_eq_right (by omega)]; exact hs
 ·rcases dvd_apart' hx h.dv he with h1 | h1
  ·have := h.le; rw [Nat.min_eq_left (by omega)]; exact h.done x hx h1
  ·exact sorted_one (by omega)
theorem Half.keep {sz n a : Nat} {e e' : Array Mem} (h : Half sz n a e) (hp : PermIn a n e e') (hs : SortedIn bt a n e') (hz : 0 < sz) (hn : n < a + 2 * sz) : Blk (2 * sz) n e' := fun x hx => by
 by_cases he : x = a
 ·subst he; rw [Nat.min_eq_right (by omega)]; exact hs
 ·rcases dvd_apart' hx h.dv he with h1 | h1
  ·have := h.le; rw [Nat.min_eq_left (by omega)]; exact blk_keep (h.done x hx h1) hp (.inl h1)
  ·exact sorted_one (by omega)
set_option maxHeartbeats 1000000 in
theorem st_pos {gl : Nat → Obj} (b0 cap : Nat) (d : Array Mem) (hsz : d.size ≤ 1000000000000) (hcap : d.size ≤ cap) : Spec (cx gl) 137 [.slice (some ⟨b0, 0, none⟩) d.size cap, .int .i64 ((d.size : Nat) : Int), .func (.func 84) #[] #[]] (fun _ _ => True) [ownS 76 3 (.slice (some ⟨b0, 0, none⟩) d.size cap) d.size (rc (d).toList)] (fun u rs => u = .tuple #[] ∧ ∃ d' : Array Mem, (PermIn 0 d.size d d' ∧ SortedIn bt 0 d.size d') ∧ rs = [ownS 76 3 (.slice (some ⟨b0, 0, none⟩) d.size cap) d.size (rc (d').toList)]) := by
 have hin : ∀ (e : Array Mem), e.size = d.size → ∀ a b, a ≤ b → b ≤ d.size → Spec (cx gl) 181 [.slice (some ⟨b0, 0, none⟩) d.size cap, .int .i64 ((a : Nat) : Int), .int .i64 ((b : Nat) : Int), .func (.func 84) #[] #[]] (fun _ _ => True) [ownS 76 3 (.slice (some ⟨b0, 0, none⟩) d.size cap) d.size (rc (e).toList)] (fun u rs => u = .tuple #[] ∧ ∃ d' : Array Mem, PermIn a b e d' ∧ SortedIn bt a b d' ∧ rs = [ownS 76 3 (.slice (some ⟨b0, 0, none⟩) d.size cap) d.size (rc (d').toList)]) := fun e he a b h1 h2 => by have h9 := insM_ok (gl := gl) (some ⟨b0, 0, none⟩) cap e a b h1 (by omega) (by omega); rw [he] at h9; exact h9
 have hsy : ∀ (e : Array Mem), e.size = d.size → ∀ a m b, a < m → m < b → b ≤ d.size → SortedIn bt a m e → SortedIn bt m b e → Spec (cx gl) 182 [.slice (some ⟨b0, 0, none⟩) d.size cap, .int .i64 ((a : Nat) : Int), .int .i64 ((m : Nat) : Int), .int .i64 ((b : Nat) : Int), .func (.func 84) #[] #[]] (fun _ _ => True) [ownS 76 3 (.slice (some ⟨b0, 0, none⟩) d.size cap) d.size (rc (e).toList)] (fun u rs => u = .tuple #[] ∧ ∃ d' : Array Mem, (PermIn a b e d' ∧ SortedIn bt a b d') ∧ rs = [ownS 76 3 (.slice (some ⟨b0, 0, none⟩) d.size cap) d.size (rc (d').toList)]) := fun e he a m b h2 h3 h4 h5 h6 => by have h9 := sym_ok (gl := gl) (b - a) b0 cap e a m b (Nat.le_refl _) h2 h3 (by omega) (by omega) (by omega) h5 h6; rw [he] at h9; exact h9
 refine Spec.enter (C := cx gl) Tryz.func137 rfl 63 rfl rfl fun w0 h0 hsep hsub hpre => ?_
 show St (cx gl) _ [(0, .slice (some ⟨b0, 0, none⟩) d.size cap), (1, .int .i64 ((d.size : Nat) : Int)), (2, .func (.func 84) #[] #[])] _ _
 refine R_seq ?_
 refine R_region ?_
 refine L_val rfl rfl rfl (OpP.v (P_assign rfl rfl)) ?_
 refine L_nil ?_
 refine Q_then ?_
 refine R_seq ?_
 refine R_region ?_
 refine L_val rfl rfl rfl (OpP.v (P_move rfl rfl)) ?_
 refine L_val rfl rfl rfl (OpP.v (P_assign rfl rfl)) ?_
 refine L_val rfl rfl rfl (OpP.v (P_assign rfl rfl)) ?_
 refine L_nil ?_
 refine St.env (.cons (t := 0) rfl (.cons (t := 1) rfl (.cons (t := 2) rfl (.cons (t := 6) rfl (.cons (t := 7) rfl (.cons (t := 8) rfl .nil)))))) ?_
 refine Q_then ?_
 refine R_seq ?_
 refine R_block ?_
 refine R_loopE (G := Nat × Array Mem) (.cons (t := 0) rfl (.cons (t := 1) rfl (.cons (t := 2) rfl (.cons (t := 6) rfl .nil)))) (fun g => [(7, .int .i64 ((g.1 : Nat) : Int)), (8, .int .i64 ((g.1 + 20 : Nat) : Int))]) (fun g => [ownS 76 3 (.slice (some ⟨b0, 0, none⟩) d.size cap) d.size (rc (g.2).toList)]) (fun g => g.1 ≤ d.size ∧ 20 ∣ g.1 ∧ g.2.size = d.size ∧ PermIn 0 d.size d g.2 ∧ ∀ x, 20 ∣ x → x + 20 ≤ g.1 → SortedIn bt x (x + 20) g.2) (fun g => d.size - g.1) (0, d) (by show (0) ≤ d.size ∧ 20 ∣ (0) ∧ (d).size = d.size ∧ PermIn 0 d.size d (d) ∧ ∀ x, 20 ∣ x → x + 20 ≤ (0) → SortedIn bt x (x + 20) (d); exact ⟨Nat.zero_le _, ⟨0, rfl⟩, rfl, permIn_refl _ _ _, fun x _ h => by omega⟩) (by repeat (first | exact .nil | refine .cons rfl ?_ | refine .consE rfl (by first | rfl | (congr 1; omega) | (congr 1; push_cast; omega)) ?_)) (Weak.refl _) ?_
 rintro ⟨a, e⟩ hinv
 replace hinv : a ≤ d.size ∧ 20 ∣ a ∧ e.size = d.size ∧ PermIn 0 d.size d e ∧ ∀ x, 20 ∣ x → x + 20 ≤ a → SortedIn bt x (x + 20) e := hinv
 show St (cx gl) _ ((7, .int .i64 ((a : Nat) : Int)) :: (8, .int .i64 ((a + 20 : Nat) : Int)) :: _) [ownS 76 3 (.slice (some ⟨b0, 0, none⟩) d.size cap) d.size (rc (e).toList)] _
 obtain ⟨han, hdv, hes, hpe, hdo⟩ := hinv
 refine R_seq ?_
 refine R_seq ?_
 refine R_region ?_
 refine L_val rfl rfl rfl (OpP.v (P_move rfl rfl)) ?_
 refine L_val rfl rfl rfl (OpP.v (P_move rfl rfl)) ?_
 refine L_val rfl rfl rfl (OpP.v (P_leq rfl rfl rfl)) ?_
 refine L_nil ?_
 refine Q_then ?_
 refine R_condP rfl (fun hle => ?_) (fun hle => ?_)
 ·skip
  have hle : a + 20 ≤ d.size := by omega
  refine R_skip ?_
  refine Q_then ?_
  refine R_block ?_
  refine R_seq ?_
  refine R_region ?_
  refine L_val rfl rfl rfl (OpP.v (P_move rfl rfl)) ?_
  refine L_val rfl rfl rfl (OpP.v (P_move rfl rfl)) ?_
  refine L_val rfl rfl rfl (OpP.v (P_move rfl rfl)) ?_
  refine L_val rfl rfl rfl (OpP.v (P_move rfl rfl)) ?_
  refine L_op rfl (W_call rfl rfl rfl rfl fn_ca_181 (hin e hes a (a + 20) (by omega) (by omega)) (Split.one (p := [])) (fun _ _ _ _ _ _ _ => trivial) fun vv rs1 ⟨z1, e1, hp_e1, hs_e1, z2⟩ => ?_)
  subst z1; subst z2
  refine St.res (rs' := [ownS 76 3 (.slice (some ⟨b0, 0, none⟩) d.size cap) d.size (rc (e1).toList)]) (Weak.refl _) ?_
  refine L_nil ?_
  refine St.env (.cons (t := 0) rfl (.cons (t := 1) rfl (.cons (t := 2) rfl (.cons (t := 6) rfl (.cons (t := 7) rfl (.cons (t := 8) rfl (.cons (t := 11) rfl (.cons (t := 12) rfl (.cons (t := 13) rfl (.cons (t := 14) rfl (.cons (t := 15) rfl (.cons (t := 16) rfl (.cons (t := 17) rfl .nil))))))))))))) ?_
  refine Q_then ?_
  refine R_seq ?_
  refine R_region ?_
  refine L_val rfl rfl rfl (OpP.v (P_move rfl rfl)) ?_
  refine L_val rfl rfl rfl (OpP.v (P_assign rfl rfl)) ?_
  refine L_nil ?_
  refine Q_then ?_
  refine R_region ?_
  refine L_val rfl rfl rfl (OpP.v (P_move rfl rfl)) ?_
  refine L_val rfl rfl rfl (OpP.v (P_move rfl rfl)) ?_
  first | (refine L_val rfl rfl rfl (OpP.v (P_addN rfl rfl rfl (by simp only [fits]; omega))) ?_) | (refine L_val rfl rfl rfl (OpP.v (P_add rfl rfl rfl)) ?_)
  refine L_val rfl rfl rfl (OpP.v (P_assign rfl rfl)) ?_
  refine L_nil ?_
  refine Q_block ?_
  exact Q_round (a + 20, e1) (by show (a + 20) ≤ d.size ∧ 20 ∣ (a + 20) ∧ (e1).size = d.size ∧ PermIn 0 d.size d (e1) ∧ ∀ x, 20 ∣ x → x + 20 ≤ (a + 20) → SortedIn bt x (x + 20) (e1); exact ⟨by omega, Nat.dvd_add hdv (Nat.dvd_refl _), by rw [hp_e1.1, hes], permTr hpe (permMono hp_e1 (Nat.zero_le _) (by omega) (by omega)), ins_next hdv hdo hp_e1 hs_e1⟩) (by show d.size - (a + 20) < d.size - a; omega) (by repeat (first | exact .nil | refine .cons rfl ?_ | refine .consE rfl (by first | rfl | (congr 1; omega) | (congr 1; push_cast; omega)) ?_)) (Weak.refl _)
 ·skip
  have hle : d.size < a + 20 := by omega
  refine R_exit ?_
  refine Q_then_exit ?_
  refine Q_then_exit ?_
  refine Q_block_eq ?_
  refine St.env (.cons (t := 0) rfl (.cons (t := 1) rfl (.cons (t := 2) rfl (.cons (t := 6) rfl (.cons (t := 7) rfl (.cons (t := 8) rfl .nil)))))) ?_
  refine Q_then ?_
  refine R_seq ?_
  refine R_region ?_
  refine L_val rfl rfl rfl (OpP.v (P_move rfl rfl)) ?_
  refine L_val rfl rfl rfl (OpP.v (P_move rfl rfl)) ?_
  refine L_val rfl rfl rfl (OpP.v (P_move rfl rfl)) ?_
  refine L_val rfl rfl rfl (OpP.v (P_move rfl rfl)) ?_
  refine L_op rfl (W_call rfl rfl rfl rfl fn_ca_181 (hin e hes a d.size (by omega) (Nat.le_refl _)) (Split.one (p := [])) (fun _ _ _ _ _ _ _ => trivial) fun vv rs1 ⟨z1, e2, hp_e2, hs_e2, z2⟩ => ?_)
  subst z1; subst z2
  refine St.res (rs' := [ownS 76 3 (.slice (some ⟨b0, 0, none⟩) d.size cap) d.size (rc (e2).toList)]) (Weak.refl _) ?_
  have hB := blk_first hdv han hle hdo hp_e2 hs_e2
  have hP2 := permTr hpe (permMono hp_e2 (Nat.zero_le _) (Nat.le_refl _) (by omega))
  refine L_nil ?_
  refine St.env (.cons (t := 0) rfl (.cons (t := 1) rfl (.cons (t := 2) rfl (.cons (t := 6) rfl (.cons (t := 7) rfl (.cons (t := 8) rfl .nil)))))) ?_
  refine Q_then ?_
  refine R_block ?_
  refine R_loopE (G := Nat × Array Mem) (.cons (t := 0) rfl (.cons (t := 1) rfl (.cons (t := 2) rfl .nil))) (fun g => [(6, .int .i64 ((g.1 : Nat) : Int))]) (fun g => [ownS 76 3 (.slice (some ⟨b0, 0, none⟩) d.size cap) d.size (rc (g.2).toList)]) (fun g => 0 < g.1 ∧ g.1 ≤ 2 * d.size + 20 ∧ g.2.size = d.size ∧ PermIn 0 d.size d g.2 ∧ Blk g.1 d.size g.2) (fun g => d.size - g.1) (20, e2) (by show 0 < (20) ∧ (20) ≤ 2 * d.size + 20 ∧ (e2).size = d.size ∧ PermIn 0 d.size d (e2) ∧ Blk (20) d.size (e2); exact ⟨by omega, by omega, by rw [hp_e2.1, hes], hP2, hB⟩) (by repeat (first | exact .nil | refine .cons rfl ?_ | refine .consE rfl (by first | rfl | (congr 1; omega) | (congr 1; push_cast; omega)) ?_)) (Weak.refl _) ?_
  rintro ⟨z, g⟩ hinv
  replace hinv : 0 < z ∧ z ≤ 2 * d.size + 20 ∧ g.size = d.size ∧ PermIn 0 d.size d g ∧ Blk z d.size g := hinv
  show St (cx gl) _ ((6, .int .i64 ((z : Nat) : Int)) :: _) [ownS 76 3 (.slice (some ⟨b0, 0, none⟩) d.size cap) d.size (rc (g).toList)] _
  obtain ⟨hz, hzm, hgs, hpg, hBg⟩ := hinv
  refine R_seq ?_
  refine R_seq ?_
  refine R_region ?_
  refine L_val rfl rfl rfl (OpP.v (P_move rfl rfl)) ?_
  refine L_val rfl rfl rfl (OpP.v (P_move rfl rfl)) ?_
  refine L_val rfl rfl rfl (OpP.v (P_lss rfl rfl rfl)) ?_
  refine L_nil ?_
  refine Q_then ?_
  refine R_condP rfl (fun hlt => ?_) (fun hlt => ?_)
  ·skip
   have hlt : z < d.size := by omega
   refine R_skip ?_
   refine Q_then ?_
   refine R_block ?_
   refine R_seq ?_
   refine R_region ?_
   refine L_val rfl rfl rfl (OpP.v (P_move rfl rfl)) ?_
   first | (refine L_val rfl rfl rfl (OpP.v (P_mulN rfl rfl rfl (by simp only [fits]; omega))) ?_) | (refine L_val rfl rfl rfl (OpP.v (P_mul rfl rfl rfl)) ?_)
   refine L_val rfl rfl rfl (OpP.v (P_assign rfl rfl)) ?_
   refine L_val rfl rfl rfl (OpP.v (P_assign rfl rfl)) ?_
   refine L_nil ?_
   refine Q_then ?_
   refine R_seq ?_
   refine R_block ?_
   refine R_loopE (G := Nat × Array Mem) (.cons (t := 0) rfl (.cons (t := 1) rfl (.cons (t := 2) rfl (.cons (t := 6) rfl (.cons (t := 28) rfl (.cons (t := 29) rfl (.cons (t := 30) rfl (.cons (t := 31) rfl (.cons (t := 32) rfl .nil))))))))) (fun g => [(7, .int .i64 ((g.1 : Nat) : Int)), (8, .int .i64 ((g.1 + 2 * z : Nat) : Int))]) (fun g => [ownS 76 3 (.slice (some ⟨b0, 0, none⟩) d.size cap) d.size (rc (g.2).toList)]) (fun g => g.2.size = d.size ∧ PermIn 0 d.size d g.2 ∧ Half z d.size g.1 g.2) (fun g => d.size - g.1) (0, g) (by show (g).size = d.size ∧ PermIn 0 d.size d (g) ∧ Half z d.size (0) (g); exact ⟨hgs, hpg, Half.start hBg hz⟩) (by repeat (first | exact .nil | refine .cons rfl ?_ | refine .consE rfl (by first | rfl | (congr 1; omega) | (congr 1; push_cast; omega)) ?_)) (Weak.refl _) ?_
   rintro ⟨a, h⟩ hinv
   replace hinv : h.size = d.size ∧ PermIn 0 d.size d h ∧ Half z d.size a h := hinv
   show St (cx gl) _ ((7, .int .i64 ((a : Nat) : Int)) :: (8, .int .i64 ((a + 2 * z : Nat) : Int)) :: _) [ownS 76 3 (.slice (some ⟨b0, 0, none⟩) d.size cap) d.size (rc (h).toList)] _
   obtain ⟨hhs, hph, hH⟩ := hinv
   refine R_seq ?_
   refine R_seq ?_
   refine R_region ?_
   refine L_val rfl rfl rfl (OpP.v (P_move rfl rfl)) ?_
   refine L_val rfl rfl rfl (OpP.v (P_move rfl rfl)) ?_
   refine L_val rfl rfl rfl (OpP.v (P_leq rfl rfl rfl)) ?_
   refine L_nil ?_
   refine Q_then ?_
   refine R_condP rfl (fun hle2 => ?_) (fun hle2 => ?_)
   ·skip
    have hle2 : a + 2 * z ≤ d.size := by omega
    refine R_skip ?_
    refine Q_then ?_
    refine R_block ?_
    refine R_seq ?_
    refine R_region ?_
    refine L_val rfl rfl rfl (OpP.v (P_move rfl rfl)) ?_
    refine L_val rfl rfl rfl (OpP.v (P_move rfl rfl)) ?_
    refine L_val rfl rfl rfl (OpP.v (P_move rfl rfl)) ?_
    refine L_val rfl rfl rfl (OpP.v (P_move rfl rfl)) ?_
    first | (refine L_val rfl rfl rfl (OpP.v (P_addN rfl rfl rfl (by simp only [fits]; omega))) ?_) | (refine L_val rfl rfl rfl (OpP.v (P_add rfl rfl rfl)) ?_)
    refine L_val rfl rfl rfl (OpP.v (P_move rfl rfl)) ?_
    refine L_val rfl rfl rfl (OpP.v (P_move rfl rfl)) ?_
    refine L_op rfl (W_call rfl rfl rfl rfl fn_ca_182 (hsy h hhs a (a + z) (a + 2 * z) (by omega) (by omega) (by omega) (hH.left (by omega)) (hH.right (by omega) (Nat.le_refl _))) (Split.one (p := [])) (fun _ _ _ _ _ _ _ => trivial) fun vv rs1 ⟨z1, h1, ⟨hp_h1, hs_h1⟩, z2⟩ => ?_)
    subst z1; subst z2
    refine St.res (rs' := [ownS 76 3 (.slice (some ⟨b0, 0, none⟩) d.size cap) d.size (rc (h1).toList)]) (Weak.refl _) ?_
    refine L_nil ?_
    refine St.env (.cons (t := 0) rfl (.cons (t := 1) rfl (.cons (t := 2) rfl (.cons (t := 6) rfl (.cons (t := 7) rfl (.cons (t := 8) rfl (.cons (t := 28) rfl (.cons (t := 29) rfl (.cons (t := 30) rfl (.cons (t := 31) rfl (.cons (t := 32) rfl (.cons (t := 33) rfl (.cons (t := 34) rfl (.cons (t := 35) rfl (.cons (t := 36) rfl (.cons (t := 37) rfl (.cons (t := 38) rfl (.cons (t := 39) rfl (.cons (t := 40) rfl (.cons (t := 41) rfl (.cons (t := 42) rfl .nil))))))))))))))))))))) ?_
    refine Q_then ?_
    refine R_seq ?_
    refine R_region ?_
    refine L_val rfl rfl rfl (OpP.v (P_move rfl rfl)) ?_
    refine L_val rfl rfl rfl (OpP.v (P_assign rfl rfl)) ?_
    refine L_nil ?_
    refine Q_then ?_
    refine R_region ?_
    refine L_val rfl rfl rfl (OpP.v (P_move rfl rfl)) ?_
    refine L_val rfl rfl rfl (OpP.v (P_move rfl rfl)) ?_
    first | (refine L_val rfl rfl rfl (OpP.v (P_mulN rfl rfl rfl (by simp only [fits]; omega))) ?_) | (refine L_val rfl rfl rfl (OpP.v (P_mul rfl rfl rfl)) ?_)
    first | (refine L_val rfl rfl rfl (OpP.v (P_addN rfl rfl rfl (by simp only [fits]; omega))) ?_) | (refine L_val rfl rfl rfl (OpP.v (P_add rfl rfl rfl)) ?_)
    refine L_val rfl rfl rfl (OpP.v (P_assign rfl rfl)) ?_
    refine L_nil ?_
    refine Q_block ?_
    exact Q_round (a + 2 * z, h1) (by show (h1).size = d.size ∧ PermIn 0 d.size d (h1) ∧ Half z d.size (a + 2 * z) (h1); exact ⟨by rw [hp_h1.1, hhs], permTr hph (permMono hp_h1 (Nat.zero_le _) (by omega) (by omega)), hH.next hz (by omega) hp_h1 hs_h1⟩) (by show d.size - (a + 2 * z) < d.size - a; omega) (by repeat (first | exact .nil | refine .cons rfl ?_ | refine .consE rfl (by first | rfl | (congr 1; omega) | (congr 1; push_cast; omega)) ?_)) (Weak.refl _)
   ·skip
    have hle2 : d.size < a + 2 * z := by omega
    have haz := hH.le
    refine R_exit ?_
    refine Q_then_exit ?_
    refine Q_then_exit ?_
    refine Q_block_eq ?_
    refine Q_then ?_
    refine R_seq ?_
    refine R_seq ?_
    refine R_region ?_
    refine L_val rfl rfl rfl (OpP.v (P_move rfl rfl)) ?_
    refine L_val rfl rfl rfl (OpP.v (P_move rfl rfl)) ?_
    first | (refine L_val rfl rfl rfl (OpP.v (P_addN rfl rfl rfl (by simp only [fits]; omega))) ?_) | (refine L_val rfl rfl rfl (OpP.v (P_add rfl rfl rfl)) ?_)
    refine L_val rfl rfl rfl (OpP.v (P_assign rfl rfl)) ?_
    refine L_nil ?_
    refine Q_then ?_
    refine R_seq ?_
    refine R_region ?_
    refine L_val rfl rfl rfl (OpP.v (P_move rfl rfl)) ?_
    refine L_val rfl rfl rfl (OpP.v (P_move rfl rfl)) ?_
    refine L_val rfl rfl rfl (OpP.v (P_lss rfl rfl rfl)) ?_
    refine L_nil ?_
    refine Q_then ?_
    refine R_condP rfl (fun hlt3 => ?_) (fun hlt3 => ?_)
    ·skip
     have hlt3 : a + z < d.size := by omega
     refine R_region ?_
     refine L_val rfl rfl rfl (OpP.v (P_move rfl rfl)) ?_
     refine L_val rfl rfl rfl (OpP.v (P_move rfl rfl)) ?_
     refine L_val rfl rfl rfl (OpP.v (P_move rfl rfl)) ?_
     refine L_val rfl rfl rfl (OpP.v (P_move rfl rfl)) ?_
     refine L_val rfl rfl rfl (OpP.v (P_move rfl rfl)) ?_
     refine L_op rfl (W_call rfl rfl rfl rfl fn_ca_182 (hsy h hhs a (a + z) d.size (by omega) (by omega) (by omega) (hH.left (by omega)) (hH.right (by omega) (by omega))) (Split.one (p := [])) (fun _ _ _ _ _ _ _ => trivial) fun vv rs1 ⟨z1, g3, ⟨hp_g3, hs_g3⟩, z2⟩ => ?_)
     subst z1; subst z2
     refine St.res (rs' := [ownS 76 3 (.slice (some ⟨b0, 0, none⟩) d.size cap) d.size (rc (g3).toList)]) (Weak.refl _) ?_
     refine L_nil ?_
     refine St.env (.cons (t := 0) rfl (.cons (t := 1) rfl (.cons (t := 2) rfl (.cons (t := 6) rfl (.cons (t := 7) rfl (.cons (t := 8) rfl (.cons (t := 9) rfl (.cons (t := 28) rfl (.cons (t := 29) rfl (.cons (t := 30) rfl (.cons (t := 31) rfl (.cons (t := 32) rfl (.cons (t := 33) rfl (.cons (t := 34) rfl (.cons (t := 35) rfl (.cons (t := 49) rfl (.cons (t := 50) rfl (.cons (t := 51) rfl (.cons (t := 52) rfl (.cons (t := 53) rfl (.cons (t := 54) rfl (.cons (t := 55) rfl (.cons (t := 56) rfl (.cons (t := 57) rfl (.cons (t := 58) rfl (.cons (t := 59) rfl .nil)))))))))))))))))))))))))) ?_
     refine Q_then ?_
     refine R_region ?_
     refine L_val rfl rfl rfl (OpP.v (P_move rfl rfl)) ?_
     first | (refine L_val rfl rfl rfl (OpP.v (P_mulN rfl rfl rfl (by simp only [fits]; omega))) ?_) | (refine L_val rfl rfl rfl (OpP.v (P_mul rfl rfl rfl)) ?_)
     refine L_val rfl rfl rfl (OpP.v (P_assign rfl rfl)) ?_
     refine L_nil ?_
     refine Q_block ?_
     exact Q_round (z * 2, g3) (by show 0 < (z * 2) ∧ (z * 2) ≤ 2 * d.size + 20 ∧ (g3).size = d.size ∧ PermIn 0 d.size d (g3) ∧ Blk (z * 2) d.size (g3); exact ⟨by omega, by omega, by rw [hp_g3.1, hhs], permTr hph (permMono hp_g3 (Nat.zero_le _) (Nat.le_refl _) (by omega)), by rw [Nat.mul_comm]; exact hH.keep hp_g3 hs_g3 hz (by omega)⟩) (by show d.size - z * 2 < d.size - z; omega) (by repeat (first | exact .nil | refine .cons rfl ?_ | refine .consE rfl (by first | rfl | (congr 1; omega) | (congr 1; push_cast; omega)) ?_)) (Weak.refl _)
    ·skip
     have hlt3 : d.size ≤ a + z := by omega
     refine R_skip ?_
     refine Q_then ?_
     refine R_region ?_
     refine L_val rfl rfl rfl (OpP.v (P_move rfl rfl)) ?_
     first | (refine L_val rfl rfl rfl (OpP.v (P_mulN rfl rfl rfl (by simp only [fits]; omega))) ?_) | (refine L_val rfl rfl rfl (OpP.v (P_mul rfl rfl rfl)) ?_)
     refine L_val rfl rfl rfl (OpP.v (P_assign rfl rfl)) ?_
     refine L_nil ?_
     refine Q_block ?_
     exact Q_round (z * 2, h) (by show 0 < (z * 2) ∧ (z * 2) ≤ 2 * d.size + 20 ∧ (h).size = d.size ∧ PermIn 0 d.size d (h) ∧ Blk (z * 2) d.size (h); exact ⟨by omega, by omega, hhs, hph, by rw [Nat.mul_comm]; exact hH.full hz (by omega) (by have := hH.todo a (dvd_two hH.dv) (Nat.le_refl _); rwa [Nat.min_eq_right (by omega)] at this)⟩) (by show d.size - z * 2 < d.size - z; omega) (by repeat (first | exact .nil | refine .cons rfl ?_ | refine .consE rfl (by first | rfl | (congr 1; omega) | (congr 1; push_cast; omega)) ?_)) (Weak.refl _)
  ·skip
   have hge : d.size ≤ z := by omega
   have hfin := hBg 0 ⟨0, rfl⟩
   rw [Nat.zero_add, Nat.min_eq_right hge] at hfin
   refine R_exit ?_
   refine Q_then_exit ?_
   refine Q_then_exit ?_
   refine Q_block_eq ?_
   refine St.env (.nil) ?_
   exact R_end0 (rs2 := _) rfl rfl (.nil) (⟨rfl, _, ⟨hpg, hfin⟩, rfl⟩) (Weak.refl _)
theorem st_zero {gl : Nat → Obj} (base : Option Addr) (cap : Nat) : SpecR (cx gl) 137 [.slice base 0 cap, .int .i64 0, .func (.func 84) #[] #[]] (fun _ _ => True) [ownS 76 3 (.slice base 0 cap) 0 (rc ([] : List Mem))] (.tuple #[]) [ownS 76 3 (.slice base 0 cap) 0 (rc ([] : List Mem))] := by
 refine Spec.enter (C := cx gl) Tryz.func137 rfl 63 rfl rfl fun w0 h0 hsep hsub hpre => ?_
 show St (cx gl) _ [(0, .slice base 0 cap), (1, .int .i64 0), (2, .func (.func 84) #[] #[])] _ _
 refine R_seq ?_
 refine R_region ?_
 refine L_val rfl rfl rfl (OpP.v (P_assign rfl rfl)) ?_
 refine L_nil ?_
 refine Q_then ?_
 refine R_seq ?_
 refine R_region ?_
 refine L_val rfl rfl rfl (OpP.v (P_move rfl rfl)) ?_
 refine L_val rfl rfl rfl (OpP.v (P_assign rfl rfl)) ?_
 refine L_val rfl rfl rfl (OpP.v (P_assign rfl rfl)) ?_
 refine L_nil ?_
 refine St.env (.cons (t := 0) rfl (.cons (t := 1) rfl (.cons (t := 2) rfl (.cons (t := 6) rfl (.cons (t := 7) rfl (.cons (t := 8) rfl .nil)))))) ?_
 refine Q_then ?_
 refine R_seq ?_
 refine R_block ?_
 refine R_loopE (G := Unit) (.cons (t := 0) rfl (.cons (t := 1) rfl (.cons (t := 2) rfl (.cons (t := 6) rfl .nil)))) (fun g => [(7, .int .i64 0), (8, .int .i64 20)]) (fun g => [ownS 76 3 (.slice base 0 cap) 0 (rc ([] : List Mem))]) (fun g => True) (fun g => 0) () (trivial) (by repeat (first | exact .nil | refine .cons rfl ?_ | refine .consE rfl (by first | rfl | (congr 1; omega) | (congr 1; push_cast; omega)) ?_)) (Weak.refl _) ?_
 rintro ⟨⟩ hinv
 replace hinv : True := hinv
 show St (cx gl) _ ((7, .int .i64 0) :: (8, .int .i64 20) :: _) [ownS 76 3 (.slice base 0 cap) 0 (rc ([] : List Mem))] _
 refine R_seq ?_
 refine R_seq ?_
 refine R_region ?_
 refine L_val rfl rfl rfl (OpP.v (P_move rfl rfl)) ?_
 refine L_val rfl rfl rfl (OpP.v (P_move rfl rfl)) ?_
 refine L_val rfl rfl rfl (OpP.v (P_leq rfl rfl rfl)) ?_
 refine L_nil ?_
 refine Q_then ?_
 refine R_condF rfl ?_
 refine R_exit ?_
 refine Q_then_exit ?_
 refine Q_then_exit ?_
 refine Q_block_eq ?_
 refine St.env (.cons (t := 0) rfl (.cons (t := 1) rfl (.cons (t := 2) rfl (.cons (t := 6) rfl (.cons (t := 7) rfl (.cons (t := 8) rfl .nil)))))) ?_
 refine Q_then ?_
 refine R_seq ?_
 refine R_region ?_
 refine L_val rfl rfl rfl (OpP.v (P_move rfl rfl)) ?_
 refine L_val rfl rfl rfl (OpP.v (P_move rfl rfl)) ?_
 refine L_val rfl rfl rfl (OpP.v (P_move rfl rfl)) ?_
 refine L_val rfl rfl rfl (OpP.v (P_move rfl rfl)) ?_
 refine L_op rfl (W_call rfl rfl rfl rfl fn_ca_181 (insM_ok base cap (#[] : Array Mem) 0 0 (Nat.le_refl _) (Nat.le_refl _) (by decide)) (Split.one (p := [])) (fun _ _ _ _ _ _ _ => trivial) fun vv rs1 ⟨z1, e1, hp1, hs1, z2⟩ => ?_)
 subst z1; subst z2
 obtain rfl : e1 = #[] := Array.eq_empty_of_size_eq_zero hp1.1
 refine St.res (rs' := [ownS 76 3 (.slice base 0 cap) 0 (rc ([] : List Mem))]) (Weak.refl _) ?_
 refine L_nil ?_
 refine St.env (.cons (t := 0) rfl (.cons (t := 1) rfl (.cons (t := 2) rfl (.cons (t := 6) rfl (.cons (t := 7) rfl (.cons (t := 8) rfl .nil)))))) ?_
 refine Q_then ?_
 refine R_block ?_
 refine R_loopE (G := Unit) (.cons (t := 0) rfl (.cons (t := 1) rfl (.cons (t := 2) rfl (.cons (t := 7) rfl (.cons (t := 8) rfl .nil))))) (fun g => [(6, .int .i64 20)]) (fun g => [ownS 76 3 (.slice base 0 cap) 0 (rc ([] : List Mem))]) (fun g => True) (fun g => 0) () (trivial) (by repeat (first | exact .nil | refine .cons rfl ?_ | refine .consE rfl (by first | rfl | (congr 1; omega) | (congr 1; push_cast; omega)) ?_)) (Weak.refl _) ?_
 rintro ⟨⟩ hinv
 replace hinv : True := hinv
 show St (cx gl) _ ((6, .int .i64 20) :: _) [ownS 76 3 (.slice base 0 cap) 0 (rc ([] : List Mem))] _
 refine R_seq ?_
 refine R_seq ?_
 refine R_region ?_
 refine L_val rfl rfl rfl (OpP.v (P_move rfl rfl)) ?_
 refine L_val rfl rfl rfl (OpP.v (P_move rfl rfl)) ?_
 refine L_val rfl rfl rfl (OpP.v (P_lss rfl rfl rfl)) ?_
 refine L_nil ?_
 refine Q_then ?_
 refine R_condF rfl ?_
 refine R_exit ?_
 refine Q_then_exit ?_
 refine Q_then_exit ?_
 refine Q_block_eq ?_
 refine St.env (.nil) ?_
 exact R_end0 (rs2 := _) rfl rfl (.nil) (⟨rfl, rfl⟩) (Weak.refl _)
theorem ss_pos {gl : Nat → Obj} (b0 cap : Nat) (d : Array Mem) (hsz : d.size ≤ 1000000000000) (hcap : d.size ≤ cap) : Spec (cx gl) 83 [.slice (some ⟨b0, 0, none⟩) d.size cap, .func (.func 84) #[] #[]] (fun _ _ => True) [ownS 76 3 (.slice (some ⟨b0, 0, none⟩) d.size cap) d.size (rc (d).toList)] (fun u rs => u = .tuple #[] ∧ ∃ d' : Array Mem, (PermIn 0 d.size d d' ∧ SortedIn bt 0 d.size d') ∧ rs = [ownS 76 3 (.slice (some ⟨b0, 0, none⟩) d.size cap) d.size (rc (d').toList)]) := by
 refine Spec.enter (C := cx gl) Tryz.func83 rfl 9 rfl rfl fun w0 h0 hsep hsub hpre => ?_
 show St (cx gl) _ [(0, .slice (some ⟨b0, 0, none⟩) d.size cap), (1, .func (.func 84) #[] #[])] _ _
 refine R_region ?_
 refine L_val rfl rfl rfl (OpP.v (P_move rfl rfl)) ?_
 refine L_val rfl rfl rfl (OpP.v (P_move rfl rfl)) ?_
 refine L_val rfl rfl rfl (OpP.v (P_len rfl ty_sl_68 rfl)) ?_
 refine L_val rfl rfl rfl (OpP.v (P_move rfl rfl)) ?_
 refine L_op rfl (W_call rfl rfl rfl rfl fn_ca_137 (st_pos b0 cap d hsz hcap) (Split.one (p := [])) (fun _ _ _ _ _ _ _ => trivial) fun vv rs1 ⟨z1, e1, he1, z2⟩ => ?_)
 subst z1; subst z2
 refine St.res (rs' := [ownS 76 3 (.slice (some ⟨b0, 0, none⟩) d.size cap) d.size (rc (e1).toList)]) (Weak.refl _) ?_
 refine L_nil ?_
 refine St.env (.nil) ?_
 exact R_end0 (rs2 := _) rfl rfl (.nil) (⟨rfl, _, he1, rfl⟩) (Weak.refl _)
theorem ss_zero {gl : Nat → Obj} (base : Option Addr) (cap : Nat) : SpecR (cx gl) 83 [.slice base 0 cap, .func (.func 84) #[] #[]] (fun _ _ => True) [ownS 76 3 (.slice base 0 cap) 0 (rc ([] : List Mem))] (.tuple #[]) [ownS 76 3 (.slice base 0 cap) 0 (rc ([] : List Mem))] := by
 refine Spec.enter (C := cx gl) Tryz.func83 rfl 9 rfl rfl fun w0 h0 hsep hsub hpre => ?_
 show St (cx gl) _ [(0, .slice base 0 cap), (1, .func (.func 84) #[] #[])] _ _
 refine R_region ?_
 refine L_val rfl rfl rfl (OpP.v (P_move rfl rfl)) ?_
 refine L_val rfl rfl rfl (OpP.v (P_move rfl rfl)) ?_
 refine L_val rfl rfl rfl (OpP.v (P_len rfl ty_sl_68 rfl)) ?_
 refine L_val rfl rfl rfl (OpP.v (P_move rfl rfl)) ?_
 refine L_op rfl (W_callR rfl rfl rfl rfl fn_ca_137 (st_zero base cap) (Split.one (p := [])) (fun _ _ _ _ _ _ _ => trivial) ?_)
 refine L_nil ?_
 refine St.env (.nil) ?_
 exact R_end0 (rs2 := _) rfl rfl (.nil) (⟨rfl, rfl⟩) (Weak.refl _)
theorem ssM_ok {gl : Nat → Obj} (base : Option Addr) (cap : Nat) (d : Array Mem) (hsz : d.size ≤ 1000000000000) : Spec (cx gl) 83 [.slice base d.size cap, .func (.func 84) #[] #[]] (fun _ _ => True) [ownS 76 3 (.slice base d.size cap) d.size (rc (d).toList)] (fun u rs => u = .tuple #[] ∧ ∃ d' : Array Mem, (PermIn 0 d.size d d' ∧ SortedIn bt 0 d.size d') ∧ rs = [ownS 76 3 (.slice base d.size cap) d.size (rc (d').toList)]) := by
 intro w h hsep sub hp
 rcases Nat.eq_zero_or_pos d.size with h0 | hpos
 ·obtain rfl : d = #[] := Array.eq_empty_of_size_eq_zero h0
  refine (ss_zero base cap w h hsep sub hp).mono ?_
  rintro e w' ⟨v, rs, h', rfl, ⟨rfl, rfl⟩, hs, mv⟩
  exact ⟨_, _, h', rfl, ⟨rfl, #[], ⟨permIn_refl _ _ _, sorted_one (by decide)⟩, rfl⟩, hs, mv⟩
 ·obtain hown := Sep.single.1 hsep
  obtain ⟨b, hb, hc⟩ : ∃ b, base = some ⟨b, 0, none⟩ ∧ d.size ≤ cap := by
   rcases hown.2 with ⟨_, h0, _⟩ | ⟨b', cap', junk, e, hc, _⟩
   ·omega
   ·simp only [Value.slice.injEq] at e; exact ⟨b', e.1, by omega⟩
  subst hb
  exact ss_pos b cap d hsz hc w h hsep sub hp
end Go.Proofs.YtfhjhaogmdaepaaGreatDoor
