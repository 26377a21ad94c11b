/- The mutex; a registry's memory. Printed by gen.py. -/
import Derived.Test.YtnaadddnbfnahaaDoorEngR
import Derived.Test.YtnaadddnbfnahaaDoorTy
set_option linter.unusedVariables false
set_option linter.unusedSimpArgs false
set_option maxRecDepth 100000
namespace Go.Proofs.YtnaadddnbfnahaaDoor
open Go Go.RowKit Go.Proofs
abbrev kU64 : Int → Value := fun k => .int .u64 k
abbrev Rcd := Int × List Int
structure Sgd where
  a : Int
  v : Value
  ms : List (List Int)
def strV (ms : List (List Int)) : List Value := ms.map fun m => .string (strOfNums m)
def sgM (sg : List (Int × Nat)) : List (Int × Value) := sg.map fun x => (x.1, .pointer (some ⟨x.2, 0, none⟩))
def rcM (rc : List Rcd) : List (Rcd × Value) := rc.map fun x => (x, .agg #[])
def sdM (sd : List Sgd) : List (Int × Value) := sd.map fun x => (x.a, x.v)
def sgH (p : Nat) (x : Int × Nat) : HP := blk x.2 [.pointer (some ⟨p, 0, none⟩), .int .u64 x.1] 100
def sdH (x : Sgd) : HP := ownS 9 1 x.v x.ms.length (strV x.ms)
/-- The messages of an address. -/
def msgsOf (rc : List Rcd) (a : Int) : List (List Int) := (rc.filter (fun x => x.1 = a)).map (·.2)
def RegOK (rc : List Rcd) (sd : List Sgd) : Prop := (∀ x ∈ rc, IsB x.2 ∧ x.2.length ≤ 1048576) ∧ (∀ a, ((sd.find? (fun s => s.a = a)).map (·.ms)).getD [] = msgsOf rc a)
def regL (p m1 m2 m3 : Nat) (sg : List (Int × Nat)) (rc : List Rcd) (sd : List Sgd) : List HP :=
  [blk p [.int .i32 0, .int .u32 0, .map (some m1), .map (some m2), .map (some m3)] 97, mapK kU64 m1 (sgM sg), mapK recK m2 (rcM rc), mapK kU64 m3 (sdM sd), fam (sgH p) sg, fam sdH sd]
/-- A registry: who was entered (with the signers), what was signed. -/
def REG (p : Nat) (sg : List (Int × Nat)) (rc : List Rcd) : HP := ExP (fun x : Nat × Nat × Nat × List Sgd => RegOK rc x.2.2.2) fun x => bundle (regL p x.1 x.2.1 x.2.2.1 sg rc x.2.2.2)
theorem reg_close {p m1 m2 m3 : Nat} {sg : List (Int × Nat)} {rc : List Rcd} {sd : List Sgd} {rs : List HP} (h : RegOK rc sd) : Weak (regL p m1 m2 m3 sg rc sd ++ rs) (REG p sg rc :: rs) :=
  Weak.bundle.trans (Weak.toEx (p := fun x : Nat × Nat × Nat × List Sgd => RegOK rc x.2.2.2) (s := fun x => bundle (regL p x.1 x.2.1 x.2.2.1 sg rc x.2.2.2)) (m1, m2, m3, sd) h)
/-- The signer of an address. -/
def sgP (sg : List (Int × Nat)) (a : Int) : Option Addr := (sg.find? (fun x => x.1 = a)).map fun x => ⟨x.2, 0, none⟩
theorem findK_map {κ α : Type} [DecidableEq κ] (f : α → κ) (g : α → Value) (k : κ) : ∀ (l : List α) (i : Nat), (findK k (l.map fun x => (f x, g x)) i).map (·.2) = (l.find? (fun x => f x = k)).map g
  | [], _ => rfl
  | x :: l, i => by
    by_cases h : f x = k
    · simp [findK, h]
    · have h2 : ¬ k = f x := fun e => h e.symm
      have ih := findK_map f g k l (i + 1)
      simp only [List.map_cons, findK, h2, if_false, List.find?_cons, h, decide_false]
      exact ih
theorem lookV_map {κ α : Type} [DecidableEq κ] (f : α → κ) (g : α → Value) (k : κ) (l : List α) (z : Value) : lookV false (findK k (l.map fun x => (f x, g x)) 0) z = ((l.find? (fun x => f x = k)).map g).getD z := by
  rw [← findK_map f g k l 0]
  cases findK k (l.map fun x => (f x, g x)) 0 <;> rfl
theorem look_sg (sg : List (Int × Nat)) (a : Int) : lookV false (findK a (sgM sg) 0) (.pointer none) = .pointer (sgP sg a) := by
  unfold sgM
  rw [lookV_map (fun x : Int × Nat => x.1) (fun x => .pointer (some ⟨x.2, 0, none⟩)) a sg]
  unfold sgP
  cases sg.find? (fun x => decide (x.1 = a)) <;> rfl
/-- Was it entered? -/
def isIn (sg : List (Int × Nat)) (a : Int) : Bool := (sgP sg a).isSome
theorem look_rc (rc : List Rcd) (x : Rcd) : lookV true (findK x (rcM rc) 0) (.agg #[]) = .tuple #[.agg #[], .bool (decide (x ∈ rc))] := by
  have h := findK_map (fun x : Rcd => x) (fun _ => Value.agg #[]) x rc 0
  unfold rcM
  by_cases hm : x ∈ rc
  · have h2 : rc.find? (fun y => y = x) = some x := by
      cases hf : rc.find? (fun y => decide (y = x)) with
      | none => have := List.find?_eq_none.1 hf x hm; simp at this
      | some y => have := List.find?_some hf; simp at this; rw [this]
    rw [h2] at h
    cases hk : findK x (rc.map fun x => (x, Value.agg #[])) 0 with
    | none => rw [hk] at h; simp at h
    | some p => rw [hk] at h; simp at h; obtain ⟨q, v⟩ := p; simp at h; simp [lookV, h, hm]
  · have h2 : rc.find? (fun y => y = x) = none := List.find?_eq_none.2 fun y hy => by simp; rintro rfl; exact hm hy
    rw [h2] at h
    cases hk : findK x (rc.map fun x => (x, Value.agg #[])) 0 with
    | none => simp [lookV, hm]
    | some p => rw [hk] at h; simp at h
theorem rcM_ok {rc : List Rcd} (h : ∀ x ∈ rc, IsB x.2 ∧ x.2.length ≤ 1048576) : ∀ x ∈ rcM rc, IsB x.1.2 := fun x hx => by
  obtain ⟨y, hy, rfl⟩ := List.mem_map.1 hx
  exact (h y hy).1
theorem rec_102 : recB Tryd.prog 102 = true := by kernel_rfl
theorem disable_run (w : World) : (callFunc 70 #[]).run Tryd.prog w = .ok (.value (.tuple #[])) w := run_call_mark0 Tryd.func70 (by kernel_rfl) (by kernel_rfl) (by kernel_rfl) .disable (by kernel_rfl) w
theorem enable_run (w : World) : (callFunc 72 #[]).run Tryd.prog w = .ok (.value (.tuple #[])) w := run_call_mark0 Tryd.func72 (by kernel_rfl) (by kernel_rfl) (by kernel_rfl) .enable (by kernel_rfl) w
theorem acquire_run (a : Addr) (w : World) : (callFunc 73 #[.pointer (some a)]).run Tryd.prog w = .ok (.value (.tuple #[])) w := run_call_marked Tryd.func73 (by kernel_rfl) (by kernel_rfl) (by kernel_rfl) .acquire (by kernel_rfl) a w
theorem relMerge_run (a : Addr) (w : World) : (callFunc 75 #[.pointer (some a)]).run Tryd.prog w = .ok (.value (.tuple #[])) w := run_call_marked Tryd.func75 (by kernel_rfl) (by kernel_rfl) (by kernel_rfl) .releaseMerge (by kernel_rfl) a w
theorem cas_run {b : Nat} {w : World} (hc : w.cell? ⟨b, 0, none⟩ = some (.int .i32 0)) (hz : w.frozen? ⟨b, 0, none⟩ = false) : (callFunc 71 #[.pointer (some ⟨b, 0, none⟩), .int .i32 0, .int .i32 1]).run Tryd.prog w = .ok (.value (.bool true)) (w.setCell ⟨b, 0, none⟩ (.int .i32 1)) := run_call_cas_hit Tryd.func71 (by kernel_rfl) (by kernel_rfl) (by kernel_rfl) .i32 (by kernel_rfl) hc hz
theorem add_run {b : Nat} {w : World} (hc : w.cell? ⟨b, 0, none⟩ = some (.int .i32 1)) (hz : w.frozen? ⟨b, 0, none⟩ = false) : (callFunc 76 #[.pointer (some ⟨b, 0, none⟩), .int .i32 (-1)]).run Tryd.prog w = .ok (.value (.int .i32 0)) (w.setCell ⟨b, 0, none⟩ (.int .i32 0)) := run_call_add Tryd.func76 (by kernel_rfl) (by kernel_rfl) (by kernel_rfl) .i32 (by kernel_rfl) hc hz (by rfl)
theorem und_uns : Tryd.prog.underlying 140 = some .unsafePointer := by kernel_rfl
theorem sz_mu : (Tryd.prog.info? 90).map (fun i => decide (i.size = 0)) = some false := by kernel_rfl
end Go.Proofs.YtnaadddnbfnahaaDoor
