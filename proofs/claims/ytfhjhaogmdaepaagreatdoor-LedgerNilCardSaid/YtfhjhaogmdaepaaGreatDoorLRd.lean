/- How ledgers, settings, transactions are read. Printed by gen.py. -/
import Derived.Test.YtfhjhaogmdaepaaGreatDoorL8D
import Derived.Test.YtfhjhaogmdaepaaGreatDoorRead
set_option linter.unusedVariables false
set_option linter.unusedSimpArgs false
set_option maxRecDepth 100000
namespace Go.Proofs.YtfhjhaogmdaepaaGreatDoor
open Go Go.RowKit Go.ChangeShapes Go.WideShapes Go.Proofs
/-- A transaction. -/
structure Tx where
  kind : Int
  frm : Int
  to : Int
  amt : Int
  fee : Int
  non : Int
  sg16 : List Int
def Tx.cells (x : Tx) : List Value := [.int .i64 x.kind, .int .u64 x.frm, .int .u64 x.to, .int .u64 x.amt, .int .u64 x.fee, .int .u64 x.non] ++ ints .u8 x.sg16
structure Tx.ok (x : Tx) : Prop where
  kind : -9223372036854775808 ≤ x.kind ∧ x.kind ≤ 9223372036854775807
  frm : u64 x.frm
  to : u64 x.to
  amt : u64 x.amt
  fee : u64 x.fee
  non : u64 x.non
  sg16 : IsB x.sg16
  len : x.sg16.length = 16
theorem Tx.ok.cellsLen {x : Tx} (h : x.ok) : x.cells.length = 22 := by unfold Tx.cells; rw [List.length_append, ints_length, h.len]; rfl
theorem Tx.one (x : Tx) : ∀ v ∈ x.cells, v.oneCell' = true := by
  intro v hv; unfold Tx.cells at hv
  rcases List.mem_append.1 hv with hv | hv
  · simp only [List.mem_cons, List.not_mem_nil, or_false] at hv
    rcases hv with rfl | rfl | rfl | rfl | rfl | rfl <;> rfl
  · exact ints_one v hv
structure Par.ok (p : Par) : Prop where
  mb : u64 p.mb
  seats : -9223372036854775808 ≤ p.seats ∧ p.seats ≤ 9223372036854775807
  p2 : u64 p.p2
  p3 : u64 p.p3
  p4 : u64 p.p4
  p5 : -9223372036854775808 ≤ p.p5 ∧ p.p5 ≤ 9223372036854775807
  p6 : u64 p.p6
  p7 : u64 p.p7
  p8 : u64 p.p8
  p9 : u64 p.p9
  p10 : u64 p.p10
  p11 : u64 p.p11
/-- A ledger as it is handed in. -/
structure LedI where
  s : Sl Acc
  r : Sl Rel
  bu : Int
  su : Int
def LedI.cells (x : LedI) : List Value := ledV x.s.val x.r.val x.bu x.su
def LedI.led (x : LedI) : Led := ⟨x.s.xs, x.r.xs, x.bu, x.su⟩
structure LedI.ok (W : World) (x : LedI) : Prop where
  hc : x.s.xs.length ≤ x.s.c
  hc' : x.r.xs.length ≤ x.r.c
  row : Row W x.s.b (rc x.s.xs)
  row' : Row W x.r.b (rc x.r.xs)
  ok : ∀ y ∈ x.s.xs, y.ok
  ok' : ∀ y ∈ x.r.xs, y.ok
  bu : u64 x.bu
  su : u64 x.su
theorem fits64 {z : Int} (h : fits .u64 z) : u64 z := by simp only [fits] at h; exact ⟨by omega, by omega⟩
theorem cells_acc : Tryz.prog.cellsOf 38 = 5 := by kernel_rfl
theorem bytes_acc : Tryz.prog.bytesOf 38 = 40 := by kernel_rfl
theorem fs_acc : fsB Tryz.prog 38 [(27, 0, 1), (24, 1, 1), (24, 2, 1), (24, 3, 1), (4, 4, 1)] = true := by kernel_rfl
def accOf (a : Int × Int × Int × Int × Bool × Unit) : Acc := ⟨a.1, a.2.1, a.2.2.1, a.2.2.2.1, a.2.2.2.2.1⟩
def rd_acc := PLift.up (Reads.as (cells' := Acc.cells) (Hd' := fun _ x => x.ok) (bulk' := fun _ => 1) (Small' := fun _ => True) accOf (Reads.struct fs_acc cells_acc (ReadsF.cons (Reads.int ty_int_27) (ReadsF.cons (Reads.int ty_int_24) (ReadsF.cons (Reads.int ty_int_24) (ReadsF.cons (Reads.int ty_int_24) (ReadsF.cons (Reads.bool ty_bool_4) ReadsF.nil)))))) (fun _ => rfl) (fun W a h => by
  obtain ⟨⟨⟨h1, _⟩, ⟨h2, _⟩, ⟨h3, _⟩, ⟨h4, _⟩, _⟩, _⟩ := h
  exact ⟨fits64 h1, fits64 h2, fits64 h3, fits64 h4⟩) (fun _ => by omega) (fun _ _ => trivial))
def rd_accs := PLift.up (Reads.slice ty_sl_22 cells_acc bytes_acc (fun _ => .inr trivial) rd_acc.down)
theorem cells_rel : Tryz.prog.cellsOf 135 = 4 := by kernel_rfl
theorem bytes_rel : Tryz.prog.bytesOf 135 = 32 := by kernel_rfl
theorem fs_rel : fsB Tryz.prog 135 [(24, 0, 1), (27, 1, 1), (24, 2, 1), (24, 3, 1)] = true := by kernel_rfl
def relOf (a : Int × Int × Int × Int × Unit) : Rel := ⟨a.1, a.2.1, a.2.2.1, a.2.2.2.1⟩
def rd_rel := PLift.up (Reads.as (cells' := Rel.cells) (Hd' := fun _ x => x.ok) (bulk' := fun _ => 1) (Small' := fun _ => True) relOf (Reads.struct fs_rel cells_rel (ReadsF.cons (Reads.int ty_int_24) (ReadsF.cons (Reads.int ty_int_27) (ReadsF.cons (Reads.int ty_int_24) (ReadsF.cons (Reads.int ty_int_24) ReadsF.nil))))) (fun _ => rfl) (fun W a h => by
  obtain ⟨⟨⟨h1, _⟩, ⟨h2, _⟩, ⟨h3, _⟩, ⟨h4, _⟩, _⟩, _⟩ := h
  exact ⟨fits64 h1, fits64 h2, fits64 h3, fits64 h4⟩) (fun _ => by omega) (fun _ _ => trivial))
def rd_rels := PLift.up (Reads.slice ty_sl_23 cells_rel bytes_rel (fun _ => .inr trivial) rd_rel.down)
theorem cells_led : Tryz.prog.cellsOf 26 = 4 := by kernel_rfl
theorem fs_led : fsB Tryz.prog 26 [(22, 0, 1), (23, 1, 1), (24, 2, 1), (24, 3, 1)] = true := by kernel_rfl
def ledOf (a : Sl Acc × Sl Rel × Int × Int × Unit) : LedI := ⟨a.1, a.2.1, a.2.2.1, a.2.2.2.1⟩
theorem ones_sum {α : Type} (xs : List α) : (xs.map fun _ => 1).sum = xs.length := by induction xs with
  | nil => rfl
  | cons x xs ih => rw [List.map_cons, List.sum_cons, ih, List.length_cons]; omega
def rd_led := PLift.up (Reads.as (cells' := LedI.cells) (Hd' := LedI.ok) (bulk' := fun x => x.s.xs.length + x.r.xs.length) (Small' := fun x => x.s.xs.length * 40 ≤ reachBytes ∧ x.r.xs.length * 32 ≤ reachBytes) ledOf (Reads.struct fs_led cells_led (ReadsF.cons rd_accs.down (ReadsF.cons rd_rels.down (ReadsF.cons (Reads.int ty_int_24) (ReadsF.cons (Reads.int ty_int_24) ReadsF.nil))))) (fun _ => rfl) (fun W a h => by
  obtain ⟨⟨⟨⟨h1, _, h2, h3⟩, _⟩, ⟨⟨h4, _, h5, h6⟩, _⟩, ⟨h7, _⟩, ⟨h8, _⟩, _⟩, _⟩ := h
  exact ⟨h1, h4, h2, h5, fun y hy => (h3 y hy).1, fun y hy => (h6 y hy).1, fits64 h7, fits64 h8⟩) (fun a => by have h1 := ones_sum a.1.xs; have h2 := ones_sum a.2.1.xs; show a.1.xs.length + a.2.1.xs.length ≤ ((a.1.xs.map fun _ => 1).sum + 1 + ((a.2.1.xs.map fun _ => 1).sum + 1 + _)) + 1; omega) (fun a h => ⟨h.1.1, h.2.1.1⟩))
theorem cells_par : Tryz.prog.cellsOf 62 = 12 := by kernel_rfl
theorem fs_par : fsB Tryz.prog 62 [(24, 0, 1), (3, 1, 1), (24, 2, 1), (24, 3, 1), (24, 4, 1), (3, 5, 1), (24, 6, 1), (24, 7, 1), (24, 8, 1), (24, 9, 1), (24, 10, 1), (24, 11, 1)] = true := by kernel_rfl
def parOf (a : Int × Int × Int × Int × Int × Int × Int × Int × Int × Int × Int × Int × Unit) : Par := ⟨a.1, a.2.1, a.2.2.1, a.2.2.2.1, a.2.2.2.2.1, a.2.2.2.2.2.1, a.2.2.2.2.2.2.1, a.2.2.2.2.2.2.2.1, a.2.2.2.2.2.2.2.2.1, a.2.2.2.2.2.2.2.2.2.1, a.2.2.2.2.2.2.2.2.2.2.1, a.2.2.2.2.2.2.2.2.2.2.2.1⟩
def rd_par := PLift.up (Reads.as (cells' := Par.cells) (Hd' := fun _ p => p.ok) (bulk' := fun _ => 1) (Small' := fun _ => True) parOf (Reads.struct fs_par cells_par (ReadsF.cons (Reads.int ty_int_24) (ReadsF.cons (Reads.int ty_int_3) (ReadsF.cons (Reads.int ty_int_24) (ReadsF.cons (Reads.int ty_int_24) (ReadsF.cons (Reads.int ty_int_24) (ReadsF.cons (Reads.int ty_int_3) (ReadsF.cons (Reads.int ty_int_24) (ReadsF.cons (Reads.int ty_int_24) (ReadsF.cons (Reads.int ty_int_24) (ReadsF.cons (Reads.int ty_int_24) (ReadsF.cons (Reads.int ty_int_24) (ReadsF.cons (Reads.int ty_int_24) ReadsF.nil))))))))))))) (fun _ => rfl) (fun W a h => by
  obtain ⟨⟨⟨h0, _⟩, ⟨h1, _⟩, ⟨h2, _⟩, ⟨h3, _⟩, ⟨h4, _⟩, ⟨h5, _⟩, ⟨h6, _⟩, ⟨h7, _⟩, ⟨h8, _⟩, ⟨h9, _⟩, ⟨h10, _⟩, ⟨h11, _⟩, _⟩, _⟩ := h
  exact ⟨fits64 h0, h1, fits64 h2, fits64 h3, fits64 h4, h5, fits64 h6, fits64 h7, fits64 h8, fits64 h9, fits64 h10, fits64 h11⟩) (fun _ => by omega) (fun _ _ => trivial))
section
variable {H : Type} {enc : TypeId × Value → H} {P : Program} {w : World} {base : Nat} {spare : Nat → Bool} {held : Bool}
theorem trodAll_4 {t0 t1 t2 t3 : TypeId} {args : Array Value} {ds : List (DataW H)} {ps : List MemPlace} (h : DataW.TrodAll enc P w base spare held [t0, t1, t2, t3] args.toList ds ps) :
    ∃ v0 v1 v2 v3 d0 d1 d2 d3 p0 p1 p2 p3, args = #[v0, v1, v2, v3] ∧ ds = [d0, d1, d2, d3] ∧ ps = p0 ++ (p1 ++ (p2 ++ (p3 ++ []))) ∧ DataW.Trod enc P w base spare held t0 v0 d0 p0 ∧ DataW.Trod enc P w base spare held t1 v1 d1 p1 ∧ DataW.Trod enc P w base spare held t2 v2 d2 p2 ∧ DataW.Trod enc P w base spare held t3 v3 d3 p3 := by
  obtain ⟨v0, vs0, d0, ds0, p0, q0, hargs, rfl, rfl, hd0, hr0⟩ := trodAll_cons h
  obtain ⟨v1, vs1, d1, ds1, p1, q1, rfl, rfl, rfl, hd1, hr1⟩ := trodAll_cons hr0
  obtain ⟨v2, vs2, d2, ds2, p2, q2, rfl, rfl, rfl, hd2, hr2⟩ := trodAll_cons hr1
  obtain ⟨v3, vs3, d3, ds3, p3, q3, rfl, rfl, rfl, hd3, hr3⟩ := trodAll_cons hr2
  obtain ⟨rfl, rfl, rfl⟩ := trodAll_nil hr3
  exact ⟨v0, v1, v2, v3, d0, d1, d2, d3, p0, p1, p2, p3, by cases args; simp_all, rfl, rfl, hd0, hd1, hd2, hd3⟩
theorem trodAll_5 {t0 t1 t2 t3 t4 : TypeId} {args : Array Value} {ds : List (DataW H)} {ps : List MemPlace} (h : DataW.TrodAll enc P w base spare held [t0, t1, t2, t3, t4] args.toList ds ps) :
    ∃ v0 v1 v2 v3 v4 d0 d1 d2 d3 d4 p0 p1 p2 p3 p4, args = #[v0, v1, v2, v3, v4] ∧ ds = [d0, d1, d2, d3, d4] ∧ ps = p0 ++ (p1 ++ (p2 ++ (p3 ++ (p4 ++ [])))) ∧ DataW.Trod enc P w base spare held t0 v0 d0 p0 ∧ DataW.Trod enc P w base spare held t1 v1 d1 p1 ∧ DataW.Trod enc P w base spare held t2 v2 d2 p2 ∧ DataW.Trod enc P w base spare held t3 v3 d3 p3 ∧ DataW.Trod enc P w base spare held t4 v4 d4 p4 := by
  obtain ⟨v0, vs0, d0, ds0, p0, q0, hargs, rfl, rfl, hd0, hr0⟩ := trodAll_cons h
  obtain ⟨v1, vs1, d1, ds1, p1, q1, rfl, rfl, rfl, hd1, hr1⟩ := trodAll_cons hr0
  obtain ⟨v2, vs2, d2, ds2, p2, q2, rfl, rfl, rfl, hd2, hr2⟩ := trodAll_cons hr1
  obtain ⟨v3, vs3, d3, ds3, p3, q3, rfl, rfl, rfl, hd3, hr3⟩ := trodAll_cons hr2
  obtain ⟨v4, vs4, d4, ds4, p4, q4, rfl, rfl, rfl, hd4, hr4⟩ := trodAll_cons hr3
  obtain ⟨rfl, rfl, rfl⟩ := trodAll_nil hr4
  exact ⟨v0, v1, v2, v3, v4, d0, d1, d2, d3, d4, p0, p1, p2, p3, p4, by cases args; simp_all, rfl, rfl, hd0, hd1, hd2, hd3, hd4⟩
end
theorem cells_u8 : Tryz.prog.cellsOf 5 = 1 := by kernel_rfl
theorem cells_seal : Tryz.prog.cellsOf 86 = 16 := by kernel_rfl
theorem cells_tx : Tryz.prog.cellsOf 88 = 22 := by kernel_rfl
theorem fs_tx : fsB Tryz.prog 88 [(3, 0, 1), (27, 1, 1), (27, 2, 1), (24, 3, 1), (24, 4, 1), (24, 5, 1), (86, 6, 16)] = true := by kernel_rfl
def txOf (a : Int × Int × Int × Int × Int × Int × List Int × Unit) : Tx := ⟨a.1, a.2.1, a.2.2.1, a.2.2.2.1, a.2.2.2.2.1, a.2.2.2.2.2.1, a.2.2.2.2.2.2.1⟩
def rd_tx := PLift.up (Reads.as (cells' := Tx.cells) (Hd' := fun _ x => x.ok) (bulk' := fun _ => 1) (Small' := fun _ => True) txOf (Reads.struct fs_tx cells_tx (ReadsF.cons (Reads.int ty_int_3) (ReadsF.cons (Reads.int ty_int_27) (ReadsF.cons (Reads.int ty_int_27) (ReadsF.cons (Reads.int ty_int_24) (ReadsF.cons (Reads.int ty_int_24) (ReadsF.cons (Reads.int ty_int_24) (ReadsF.cons (Reads.ints (k := .u8) ty_un_86 ty_int_5 cells_u8 cells_seal) ReadsF.nil)))))))) (fun a => by simp [Tx.cells, txOf]) (fun W a h => by
  obtain ⟨⟨⟨h0, _⟩, ⟨h1, _⟩, ⟨h2, _⟩, ⟨h3, _⟩, ⟨h4, _⟩, ⟨h5, _⟩, ⟨⟨h6, h7⟩, _⟩, _⟩, _⟩ := h
  exact ⟨h0, fits64 h1, fits64 h2, fits64 h3, fits64 h4, fits64 h5, fun x hx => by have := h7 x hx; simp only [fits] at this; omega, h6⟩) (fun _ => by omega) (fun _ _ => trivial))
end Go.Proofs.YtfhjhaogmdaepaaGreatDoor
