/- Walks: one chunk is worked in, by the program and by the reference. Printed by gen.py. -/
import Derived.Test.YtfhjhaogmdaepaaGreatDoorD1
set_option linter.unusedVariables false
set_option linter.unusedSimpArgs false
set_option maxRecDepth 100000
namespace Go.Proofs.YtfhjhaogmdaepaaGreatDoor
open Go Go.RowKit Go.Proofs
def addsK : List Int := [1116352408, 1899447441, 3049323471, 3921009573, 961987163, 1508970993, 2453635748, 2870763221, 3624381080, 310598401, 607225278, 1426881987, 1925078388, 2162078206, 2614888103, 3248222580, 3835390401, 4022224774, 264347078, 604807628, 770255983, 1249150122, 1555081692, 1996064986, 2554220882, 2821834349, 2952996808, 3210313671, 3336571891, 3584528711, 113926993, 338241895, 666307205, 773529912, 1294757372, 1396182291, 1695183700, 1986661051, 2177026350, 2456956037, 2730485921, 2820302411, 3259730800, 3345764771, 3516065817, 3600352804, 4094571909, 275423344, 430227734, 506948616, 659060556, 883997877, 958139571, 1322822218, 1537002063, 1747873779, 1955562222, 2024104815, 2227730452, 2361852424, 2428436474, 2756734187, 3204031479, 3329325298]
def beginK : List Int := [1779033703, 3144134277, 1013904242, 2773480762, 1359893119, 2600822924, 528734635, 1541459225]
theorem addsK_length : addsK.length = 64 := rfl
theorem beginK_length : beginK.length = 8 := rfl
def addW (a b : Int) : Int := IntKind.u32.wrap (a + b)
theorem addW_assoc (a b c : Int) : addW (addW a b) c = addW a (addW b c) := by
  simp only [addW, IntKind.wrap, IntKind.signed, IntKind.bits, Bool.false_and, Bool.false_eq_true, if_false]
  omega
def w32 (x : Int) : Int := IntKind.u32.wrap x
def be32 (p : List Int) (i : Nat) : Int :=
  bitI .or .u32 (bitI .or .u32 (bitI .or .u32 (shlI .u32 (IntKind.u32.wrap (p.getD (4 * i) 0)) 24) (shlI .u32 (IntKind.u32.wrap (p.getD (4 * i + 1) 0)) 16)) (shlI .u32 (IntKind.u32.wrap (p.getD (4 * i + 2) 0)) 8)) (IntKind.u32.wrap (p.getD (4 * i + 3) 0))
def sch1 (p : List Int) : Nat → List Int
  | 0 => List.replicate 64 0
  | k + 1 => (sch1 p k).set k (be32 p k)
def sg0 (x : Int) : Int := bitI .xor .u32 (bitI .xor .u32 (turnI x 7) (turnI x 18)) (shrI .u32 x 3)
def sg1 (x : Int) : Int := bitI .xor .u32 (bitI .xor .u32 (turnI x 17) (turnI x 19)) (shrI .u32 x 10)
def sch2 (w : List Int) : Nat → List Int
  | 0 => w
  | k + 1 => (sch2 w k).set (16 + k) (addW (addW (addW ((sch2 w k).getD k 0) (sg0 ((sch2 w k).getD (k + 1) 0))) ((sch2 w k).getD (k + 9) 0)) (sg1 ((sch2 w k).getD (k + 14) 0)))
def bs0 (x : Int) : Int := bitI .xor .u32 (bitI .xor .u32 (turnI x 2) (turnI x 13)) (turnI x 22)
def bs1 (x : Int) : Int := bitI .xor .u32 (bitI .xor .u32 (turnI x 6) (turnI x 11)) (turnI x 25)
def chI (e f g : Int) : Int := bitI .xor .u32 (bitI .and .u32 e f) (bitI .and .u32 (bitI .xor .u32 (if IntKind.u32.signed then -1 else IntKind.u32.max) e) g)
def majI (a b c : Int) : Int := bitI .xor .u32 (bitI .xor .u32 (bitI .and .u32 a b) (bitI .and .u32 a c)) (bitI .and .u32 b c)
def rnd1 (K w : List Int) (i : Nat) : List Int → List Int
  | [a, b, c, d, e, f, g, h] =>
    [addW (addW (addW (addW (addW h (bs1 e)) (chI e f g)) (K.getD i 0)) (w.getD i 0)) (addW (bs0 a) (majI a b c)), a, b, c, addW d (addW (addW (addW (addW h (bs1 e)) (chI e f g)) (K.getD i 0)) (w.getD i 0)), e, f, g]
  | v => v
def rnds (K w s : List Int) : Nat → List Int
  | 0 => s
  | k + 1 => rnd1 K w k (rnds K w s k)
def fin8 (s v : List Int) : Nat → List Int
  | 0 => s
  | k + 1 => (fin8 s v k).set k (addW ((fin8 s v k).getD k 0) (v.getD k 0))
/-- One chunk of 64 bytes is worked into the eight words. -/
def mixF (K s p : List Int) : List Int := fin8 s (rnds K (sch2 (sch1 p 16) 48) s 64) 8
theorem sch1_length (p : List Int) (k : Nat) : (sch1 p k).length = 64 := by induction k <;> simp_all [sch1]
theorem sch2_length (w : List Int) (k : Nat) : (sch2 w k).length = w.length := by induction k <;> simp_all [sch2]
theorem rnd1_length (K w : List Int) (i : Nat) (v : List Int) : (rnd1 K w i v).length = v.length := by unfold rnd1; split <;> rfl
theorem rnds_length (K w s : List Int) (k : Nat) : (rnds K w s k).length = s.length := by induction k <;> simp_all [rnds, rnd1_length]
theorem fin8_length (s v : List Int) (k : Nat) : (fin8 s v k).length = s.length := by induction k <;> simp_all [fin8]
theorem mixF_length (K s p : List Int) : (mixF K s p).length = s.length := by simp [mixF, fin8_length]
theorem list8 {v : List Int} (h : v.length = 8) : ∃ a b c d e f g i, v = [a, b, c, d, e, f, g, i] := by
  match v, h with
  | [a, b, c, d, e, f, g, i], _ => exact ⟨a, b, c, d, e, f, g, i, rfl⟩
theorem bitI_or_comm (k : IntKind) (a b : Int) : bitI .or k a b = bitI .or k b a := by simp [bitI, BitVec.or_comm]
theorem rot2 (x : Int) : rotlI x (-2) = turnI x 2 := by unfold rotlI turnI; rw [bitI_or_comm]; rfl
theorem rot6 (x : Int) : rotlI x (-6) = turnI x 6 := by unfold rotlI turnI; rw [bitI_or_comm]; rfl
theorem rot7 (x : Int) : rotlI x (-7) = turnI x 7 := by unfold rotlI turnI; rw [bitI_or_comm]; rfl
theorem rot11 (x : Int) : rotlI x (-11) = turnI x 11 := by unfold rotlI turnI; rw [bitI_or_comm]; rfl
theorem rot13 (x : Int) : rotlI x (-13) = turnI x 13 := by unfold rotlI turnI; rw [bitI_or_comm]; rfl
theorem rot17 (x : Int) : rotlI x (-17) = turnI x 17 := by unfold rotlI turnI; rw [bitI_or_comm]; rfl
theorem rot18 (x : Int) : rotlI x (-18) = turnI x 18 := by unfold rotlI turnI; rw [bitI_or_comm]; rfl
theorem rot19 (x : Int) : rotlI x (-19) = turnI x 19 := by unfold rotlI turnI; rw [bitI_or_comm]; rfl
theorem rot22 (x : Int) : rotlI x (-22) = turnI x 22 := by unfold rotlI turnI; rw [bitI_or_comm]; rfl
theorem rot25 (x : Int) : rotlI x (-25) = turnI x 25 := by unfold rotlI turnI; rw [bitI_or_comm]; rfl
/-- Where the rounds' numbers lie. -/
structure Globs (gl : Nat → Obj) : Prop where
  begin_ : ∃ T fr, gl 3 = .cells (ints .u32 beginK).toArray T fr
  adds : ∃ T fr, gl 4 = .cells (ints .u32 addsK).toArray T fr
/-- The reference's too. -/
structure GlobsR (gl : Nat → Obj) : Prop extends Globs gl where
  refAdds : ∃ T fr, gl 0 = .cells (ints .u32 addsK).toArray T fr
set_option maxHeartbeats 4000000 in
theorem mix_ok {gl : Nat → Obj} (hG : ∃ T fr, gl 4 = .cells (ints .u32 addsK).toArray T fr) (s p : List Int) (hs : s.length = 8) (hp : p.length = 64) : SpecV (cx gl) 212 [.agg (ints .u32 s).toArray, .agg (ints .u8 p).toArray] noPre (.agg (ints .u32 (mixF addsK s p)).toArray) := by
  refine Spec.enter (C := cx gl) Tryz.func212 rfl 191 rfl rfl fun w0 h0 hsep hsub hpre => ?_
  obtain rfl : h0 = Heap.none := hsep
  show St (cx gl) _ [(0, .agg (ints .u32 s).toArray), (1, .agg (ints .u8 p).toArray)] _ _
  refine R_seq ?_
  refine R_region ?_
  refine L_op rfl (W_box (_) rfl rfl rfl rfl rfl fun b2 => ?_)
  refine L_op rfl (W_box (_) rfl rfl rfl rfl rfl fun b3 => ?_)
  refine L_op rfl (W_alloc rfl rfl rfl ty_ze_291 fun b4 => ?_)
  refine L_nil ?_
  refine St.env (.cons (t := 2) rfl (.cons (t := 3) rfl (.cons (t := 4) rfl .nil))) ?_
  refine Q_then ?_
  refine R_seq ?_
  refine R_region ?_
  refine L_op rfl (W_alloc rfl rfl rfl ty_ze_208 fun b5 => ?_)
  rw [rep_ints]
  refine L_nil ?_
  refine Q_then ?_
  refine R_seq ?_
  refine R_seq ?_
  refine R_region ?_
  refine L_val rfl rfl rfl (OpP.v (P_move rfl rfl)) ?_
  refine L_nil ?_
  refine Q_then ?_
  refine R_block ?_
  refine R_loop (G := Nat) (fun k => [(2, .pointer (some ⟨b2, 0, none⟩)), (3, .pointer (some ⟨b3, 0, none⟩)), (4, .pointer (some ⟨b4, 0, none⟩)), (5, .pointer (some ⟨b5, 0, none⟩)), (19, .int .i64 (k : Int))]) (fun k => [blk b5 (ints .u32 (sch1 p k)) 208, blk b4 (List.replicate 8 (.int .u32 0)) 291, blk b3 (ints .u8 p) 292, blk b2 (ints .u32 s) 291]) (fun k => k ≤ 16) (fun k => 16 - k) (0) (by omega) (by repeat (first | exact .nil | refine .cons rfl ?_)) (Weak.refl _) ?_
  intro k hk
  have hl := sch1_length p k
  refine R_seq ?_
  refine R_region ?_
  refine L_val rfl rfl rfl (OpP.v (P_lss rfl rfl rfl)) ?_
  refine L_nil ?_
  refine Q_then ?_
  refine R_seq ?_
  refine R_condP rfl (fun hlt => ?_) (fun hlt => ?_)
  · skip
    refine R_skip ?_
    refine Q_then ?_
    refine R_seq ?_
    refine R_block ?_
    refine R_seq ?_
    refine R_region ?_
    refine L_val rfl rfl rfl (OpP.v (P_move rfl rfl)) ?_
    refine L_val rfl rfl rfl (OpP.v (P_assign rfl rfl)) ?_
    refine L_nil ?_
    refine Q_then ?_
    refine R_open [(0, 0), (1, 0), (2, 0), (3, 0), (4, 1), (5, 0), (6, 0), (7, 0), (8, 0), (9, 0), (10, 0), (11, 1), (12, 0), (13, 0), (14, 0), (15, 0), (16, 0), (17, 0), (18, 0), (19, 1), (20, 0), (21, 0), (22, 0), (23, 0), (24, 0), (25, 0), (26, 0), (27, 1), (28, 0), (29, 0), (30, 0), (31, 3)] mixed (by kernel_rfl) (QOk.block (QOk.then (QOk.then (QOk.block (QOk.then QOk.body))))) ?_
    refine O_pure rfl rfl rfl rfl (P_move rfl rfl) ?_
    refine O_pure rfl rfl rfl rfl (P_move rfl rfl) ?_
    first | (refine O_pure rfl rfl rfl rfl (P_mulN rfl rfl rfl (by simp only [fits]; omega)) ?_) | (refine O_pure rfl rfl rfl rfl (P_mul rfl rfl rfl) ?_)
    first | (refine O_pure rfl rfl rfl rfl (P_ixa0 (4 * k) rfl ty_ar_292 rfl rfl (by first | rfl | omega) (by omega)) ?_) | (refine O_pure rfl rfl rfl rfl (P_ixa (4 * k) rfl ty_ar_292 rfl rfl (by first | rfl | omega) (by omega)) ?_)
    refine O_val rfl rfl rfl rfl (V_load rfl rfl ty_sc_5 (Rd.blk .h2 (ints_at (by omega)))) ?_
    refine O_pure rfl rfl rfl rfl (P_conv rfl ty_int_5 ty_int_108 rfl) ?_
    refine O_pure rfl rfl rfl rfl (P_shl rfl rfl rfl (by decide)) ?_
    refine O_pure rfl rfl rfl rfl (P_move rfl rfl) ?_
    first | (refine O_pure rfl rfl rfl rfl (P_mulN rfl rfl rfl (by simp only [fits]; omega)) ?_) | (refine O_pure rfl rfl rfl rfl (P_mul rfl rfl rfl) ?_)
    first | (refine O_pure rfl rfl rfl rfl (P_addN rfl rfl rfl (by simp only [fits]; omega)) ?_) | (refine O_pure rfl rfl rfl rfl (P_add rfl rfl rfl) ?_)
    first | (refine O_pure rfl rfl rfl rfl (P_ixa0 (4 * k + 1) rfl ty_ar_292 rfl rfl (by first | rfl | omega) (by omega)) ?_) | (refine O_pure rfl rfl rfl rfl (P_ixa (4 * k + 1) rfl ty_ar_292 rfl rfl (by first | rfl | omega) (by omega)) ?_)
    refine O_val rfl rfl rfl rfl (V_load rfl rfl ty_sc_5 (Rd.blk .h2 (ints_at (by omega)))) ?_
    refine O_pure rfl rfl rfl rfl (P_conv rfl ty_int_5 ty_int_108 rfl) ?_
    refine O_pure rfl rfl rfl rfl (P_shl rfl rfl rfl (by decide)) ?_
    refine O_pure rfl rfl rfl rfl (P_bit (op := .or) rfl rfl rfl rfl) ?_
    refine O_pure rfl rfl rfl rfl (P_move rfl rfl) ?_
    first | (refine O_pure rfl rfl rfl rfl (P_mulN rfl rfl rfl (by simp only [fits]; omega)) ?_) | (refine O_pure rfl rfl rfl rfl (P_mul rfl rfl rfl) ?_)
    first | (refine O_pure rfl rfl rfl rfl (P_addN rfl rfl rfl (by simp only [fits]; omega)) ?_) | (refine O_pure rfl rfl rfl rfl (P_add rfl rfl rfl) ?_)
    first | (refine O_pure rfl rfl rfl rfl (P_ixa0 (4 * k + 2) rfl ty_ar_292 rfl rfl (by first | rfl | omega) (by omega)) ?_) | (refine O_pure rfl rfl rfl rfl (P_ixa (4 * k + 2) rfl ty_ar_292 rfl rfl (by first | rfl | omega) (by omega)) ?_)
    refine O_val rfl rfl rfl rfl (V_load rfl rfl ty_sc_5 (Rd.blk .h2 (ints_at (by omega)))) ?_
    refine O_pure rfl rfl rfl rfl (P_conv rfl ty_int_5 ty_int_108 rfl) ?_
    refine O_pure rfl rfl rfl rfl (P_shl rfl rfl rfl (by decide)) ?_
    refine O_pure rfl rfl rfl rfl (P_bit (op := .or) rfl rfl rfl rfl) ?_
    refine O_pure rfl rfl rfl rfl (P_move rfl rfl) ?_
    first | (refine O_pure rfl rfl rfl rfl (P_mulN rfl rfl rfl (by simp only [fits]; omega)) ?_) | (refine O_pure rfl rfl rfl rfl (P_mul rfl rfl rfl) ?_)
    first | (refine O_pure rfl rfl rfl rfl (P_addN rfl rfl rfl (by simp only [fits]; omega)) ?_) | (refine O_pure rfl rfl rfl rfl (P_add rfl rfl rfl) ?_)
    first | (refine O_pure rfl rfl rfl rfl (P_ixa0 (4 * k + 3) rfl ty_ar_292 rfl rfl (by first | rfl | omega) (by omega)) ?_) | (refine O_pure rfl rfl rfl rfl (P_ixa (4 * k + 3) rfl ty_ar_292 rfl rfl (by first | rfl | omega) (by omega)) ?_)
    refine O_val rfl rfl rfl rfl (V_load rfl rfl ty_sc_5 (Rd.blk .h2 (ints_at (by omega)))) ?_
    refine O_pure rfl rfl rfl rfl (P_conv rfl ty_int_5 ty_int_108 rfl) ?_
    refine O_pure rfl rfl rfl rfl (P_bit (op := .or) rfl rfl rfl rfl) ?_
    first | (refine O_pure rfl rfl rfl rfl (P_ixa0 (k) rfl ty_ar_208 rfl rfl (by first | rfl | omega) (by omega)) ?_) | (refine O_pure rfl rfl rfl rfl (P_ixa (k) rfl ty_ar_208 rfl rfl (by first | rfl | omega) (by omega)) ?_)
    refine O_new rfl rfl (W_store rfl rfl rfl rfl ty_sc_108 rfl .h0 (by rw [ints_length, hl]; omega) (K_new ?_))
    rw [ints_set]
    refine O_nil ?_
    refine Q_block ?_
    refine Q_then ?_
    refine R_region ?_
    first | (refine L_val rfl rfl rfl (OpP.v (P_addN rfl rfl rfl (by simp only [fits]; omega))) ?_) | (refine L_val rfl rfl rfl (OpP.v (P_add rfl rfl rfl)) ?_)
    refine L_val rfl rfl rfl (OpP.v (P_move rfl rfl)) ?_
    refine L_nil ?_
    refine E_nat (t := 19) (n := k + 1) rfl (by omega) ?_
    exact Q_round (k + 1) (by omega) (by omega) (by repeat (first | exact .nil | refine .cons rfl ?_)) (Weak.refl _)
  · skip
    refine R_exit ?_
    refine Q_then_exit ?_
    refine Q_then_exit ?_
    refine Q_block_eq ?_
    refine St.env (.cons (t := 2) rfl (.cons (t := 4) rfl (.cons (t := 5) rfl .nil))) ?_
    refine Q_then ?_
    refine R_seq ?_
    refine R_seq ?_
    refine R_region ?_
    refine L_val rfl rfl rfl (OpP.v (P_assign rfl rfl)) ?_
    refine L_nil ?_
    refine Q_then ?_
    refine R_block ?_
    obtain rfl : k = 16 := by omega
    refine R_loop (G := Nat) (fun k => [(2, .pointer (some ⟨b2, 0, none⟩)), (4, .pointer (some ⟨b4, 0, none⟩)), (5, .pointer (some ⟨b5, 0, none⟩)), (7, .int .i64 ((16 + k : Nat) : Int))]) (fun k => [blk b5 (ints .u32 (sch2 (sch1 p 16) k)) 208, blk b4 (List.replicate 8 (.int .u32 0)) 291, blk b3 (ints .u8 p) 292, blk b2 (ints .u32 s) 291]) (fun k => k ≤ 48) (fun k => 48 - k) (0) (by omega) (by repeat (first | exact .nil | refine .cons rfl ?_)) (Weak.refl _) ?_
    intro k hk
    have hl : (sch2 (sch1 p 16) k).length = 64 := by rw [sch2_length, sch1_length]
    refine R_seq ?_
    refine R_seq ?_
    refine R_region ?_
    refine L_val rfl rfl rfl (OpP.v (P_move rfl rfl)) ?_
    refine L_val rfl rfl rfl (OpP.v (P_lss rfl rfl rfl)) ?_
    refine L_nil ?_
    refine Q_then ?_
    refine R_condP rfl (fun hlt2 => ?_) (fun hlt2 => ?_)
    · skip
      refine R_skip ?_
      refine Q_then ?_
      refine R_seq ?_
      refine R_block ?_
      refine R_seq ?_
      refine R_open [(0, 0), (1, 0), (2, 0), (3, 1), (4, 0), (5, 0), (6, 0), (7, 1), (8, 0), (9, 0)] mixed (by kernel_rfl) (QOk.then (QOk.block (QOk.then (QOk.then (QOk.block (QOk.then QOk.body)))))) ?_
      refine O_pure rfl rfl rfl rfl (P_move rfl rfl) ?_
      first | (refine O_pure rfl rfl rfl rfl (P_subN rfl rfl rfl (by simp only [fits]; omega)) ?_) | (refine O_pure rfl rfl rfl rfl (P_sub rfl rfl rfl) ?_)
      first | (refine O_pure rfl rfl rfl rfl (P_ixa0 (k + 1) rfl ty_ar_208 rfl rfl (by first | rfl | omega) (by omega)) ?_) | (refine O_pure rfl rfl rfl rfl (P_ixa (k + 1) rfl ty_ar_208 rfl rfl (by first | rfl | omega) (by omega)) ?_)
      refine O_val rfl rfl rfl rfl (V_load rfl rfl ty_sc_108 (Rd.blk .h0 (ints_at (by omega)))) ?_
      refine O_pure rfl rfl rfl rfl (P_move rfl rfl) ?_
      first | (refine O_pure rfl rfl rfl rfl (P_subN rfl rfl rfl (by simp only [fits]; omega)) ?_) | (refine O_pure rfl rfl rfl rfl (P_sub rfl rfl rfl) ?_)
      first | (refine O_pure rfl rfl rfl rfl (P_ixa0 (k + 14) rfl ty_ar_208 rfl rfl (by first | rfl | omega) (by omega)) ?_) | (refine O_pure rfl rfl rfl rfl (P_ixa (k + 14) rfl ty_ar_208 rfl rfl (by first | rfl | omega) (by omega)) ?_)
      refine O_val rfl rfl rfl rfl (V_load rfl rfl ty_sc_108 (Rd.blk .h0 (ints_at (by omega)))) ?_
      refine O_pure rfl rfl rfl rfl (P_assign rfl rfl) ?_
      refine O_pure rfl rfl rfl rfl (P_assign rfl rfl) ?_
      refine O_nil ?_
      refine Q_then ?_
      refine R_seq ?_
      refine R_region ?_
      refine L_val rfl rfl rfl (OpP.v (P_move rfl rfl)) ?_
      refine L_op rfl (W_callV rfl rfl rfl rfl fn_ca_231 (SpecV.mono (rotl_ok gl _ (-7)) (fun _ h => h) (by rw [rot7])) (fun _ _ => trivial) ?_)
      refine L_val rfl rfl rfl (OpP.v (P_move rfl rfl)) ?_
      refine L_op rfl (W_callV rfl rfl rfl rfl fn_ca_231 (SpecV.mono (rotl_ok gl _ (-18)) (fun _ h => h) (by rw [rot18])) (fun _ _ => trivial) ?_)
      refine L_val rfl rfl rfl (OpP.v (P_bit (op := .xor) rfl rfl rfl rfl)) ?_
      refine L_val rfl rfl rfl (OpP.v (P_move rfl rfl)) ?_
      refine L_val rfl rfl rfl (OpP.v (P_shr rfl rfl rfl (by decide))) ?_
      refine L_val rfl rfl rfl (OpP.v (P_bit (op := .xor) rfl rfl rfl rfl)) ?_
      refine L_val rfl rfl rfl (OpP.v (P_assign rfl rfl)) ?_
      refine L_nil ?_
      refine Q_then ?_
      refine R_seq ?_
      refine R_region ?_
      refine L_val rfl rfl rfl (OpP.v (P_move rfl rfl)) ?_
      refine L_op rfl (W_callV rfl rfl rfl rfl fn_ca_231 (SpecV.mono (rotl_ok gl _ (-17)) (fun _ h => h) (by rw [rot17])) (fun _ _ => trivial) ?_)
      refine L_val rfl rfl rfl (OpP.v (P_move rfl rfl)) ?_
      refine L_op rfl (W_callV rfl rfl rfl rfl fn_ca_231 (SpecV.mono (rotl_ok gl _ (-19)) (fun _ h => h) (by rw [rot19])) (fun _ _ => trivial) ?_)
      refine L_val rfl rfl rfl (OpP.v (P_bit (op := .xor) rfl rfl rfl rfl)) ?_
      refine L_val rfl rfl rfl (OpP.v (P_move rfl rfl)) ?_
      refine L_val rfl rfl rfl (OpP.v (P_shr rfl rfl rfl (by decide))) ?_
      refine L_val rfl rfl rfl (OpP.v (P_bit (op := .xor) rfl rfl rfl rfl)) ?_
      refine L_val rfl rfl rfl (OpP.v (P_assign rfl rfl)) ?_
      refine L_nil ?_
      refine Q_then ?_
      refine R_open [(0, 0), (1, 0), (2, 0), (3, 0), (4, 1), (5, 0), (6, 0), (7, 0), (8, 0), (9, 0), (10, 1), (11, 0), (12, 0), (13, 0), (14, 0), (15, 3)] mixed (by kernel_rfl) (QOk.block (QOk.then (QOk.then (QOk.block (QOk.then QOk.body))))) ?_
      refine O_pure rfl rfl rfl rfl (P_move rfl rfl) ?_
      refine O_pure rfl rfl rfl rfl (P_move rfl rfl) ?_
      first | (refine O_pure rfl rfl rfl rfl (P_subN rfl rfl rfl (by simp only [fits]; omega)) ?_) | (refine O_pure rfl rfl rfl rfl (P_sub rfl rfl rfl) ?_)
      first | (refine O_pure rfl rfl rfl rfl (P_ixa0 (k) rfl ty_ar_208 rfl rfl (by first | rfl | omega) (by omega)) ?_) | (refine O_pure rfl rfl rfl rfl (P_ixa (k) rfl ty_ar_208 rfl rfl (by first | rfl | omega) (by omega)) ?_)
      refine O_val rfl rfl rfl rfl (V_load rfl rfl ty_sc_108 (Rd.blk .h0 (ints_at (by omega)))) ?_
      refine O_pure rfl rfl rfl rfl (P_move rfl rfl) ?_
      refine O_pure rfl rfl rfl rfl (P_add rfl rfl rfl) ?_
      refine O_pure rfl rfl rfl rfl (P_move rfl rfl) ?_
      first | (refine O_pure rfl rfl rfl rfl (P_subN rfl rfl rfl (by simp only [fits]; omega)) ?_) | (refine O_pure rfl rfl rfl rfl (P_sub rfl rfl rfl) ?_)
      first | (refine O_pure rfl rfl rfl rfl (P_ixa0 (k + 9) rfl ty_ar_208 rfl rfl (by first | rfl | omega) (by omega)) ?_) | (refine O_pure rfl rfl rfl rfl (P_ixa (k + 9) rfl ty_ar_208 rfl rfl (by first | rfl | omega) (by omega)) ?_)
      refine O_val rfl rfl rfl rfl (V_load rfl rfl ty_sc_108 (Rd.blk .h0 (ints_at (by omega)))) ?_
      refine O_pure rfl rfl rfl rfl (P_add rfl rfl rfl) ?_
      refine O_pure rfl rfl rfl rfl (P_move rfl rfl) ?_
      refine O_pure rfl rfl rfl rfl (P_add rfl rfl rfl) ?_
      first | (refine O_pure rfl rfl rfl rfl (P_ixa0 (16 + k) rfl ty_ar_208 rfl rfl (by first | rfl | omega) (by omega)) ?_) | (refine O_pure rfl rfl rfl rfl (P_ixa (16 + k) rfl ty_ar_208 rfl rfl (by first | rfl | omega) (by omega)) ?_)
      refine O_new rfl rfl (W_store rfl rfl rfl rfl ty_sc_108 rfl .h0 (by rw [ints_length, hl]; omega) (K_new ?_))
      rw [ints_set]
      refine O_nil ?_
      refine Q_block ?_
      refine Q_then ?_
      refine R_region ?_
      refine L_val rfl rfl rfl (OpP.v (P_move rfl rfl)) ?_
      first | (refine L_val rfl rfl rfl (OpP.v (P_addN rfl rfl rfl (by simp only [fits]; omega))) ?_) | (refine L_val rfl rfl rfl (OpP.v (P_add rfl rfl rfl)) ?_)
      refine L_val rfl rfl rfl (OpP.v (P_assign rfl rfl)) ?_
      refine L_nil ?_
      refine E_nat (t := 7) (n := 16 + (k + 1)) rfl (by omega) ?_
      exact Q_round (k + 1) (by omega) (by omega) (by repeat (first | exact .nil | refine .cons rfl ?_)) (Weak.refl _)
    · skip
      refine R_exit ?_
      refine Q_then_exit ?_
      refine Q_then_exit ?_
      refine Q_block_eq ?_
      refine St.env (.cons (t := 2) rfl (.cons (t := 4) rfl (.cons (t := 5) rfl .nil))) ?_
      refine Q_then ?_
      refine R_seq ?_
      refine R_region ?_
      refine L_val rfl rfl rfl (V_loadAgg rfl rfl ty_ag_291 (Rds.blk .h3) (by rw [ints_length, hs])) ?_
      refine L_op rfl (W_alloc rfl rfl rfl ty_ze_291 fun b12 => ?_)
      refine L_op rfl (W_storeAll rfl rfl rfl rfl ty_ag_291 (by rw [ints_length, hs]) (ints_one) .h0 (by rw [ints_length, List.length_replicate]; exact hs) ?_)
      refine L_nil ?_
      refine St.env (.cons (t := 2) rfl (.cons (t := 4) rfl (.cons (t := 5) rfl (.cons (t := 12) rfl .nil)))) ?_
      refine Q_then ?_
      refine R_seq ?_
      refine R_seq ?_
      refine R_region ?_
      refine L_val rfl rfl rfl (OpP.v (P_move rfl rfl)) ?_
      refine L_nil ?_
      refine Q_then ?_
      refine R_block ?_
      obtain rfl : k = 48 := by omega
      refine R_loop (G := Nat) (fun k => [(2, .pointer (some ⟨b2, 0, none⟩)), (4, .pointer (some ⟨b4, 0, none⟩)), (5, .pointer (some ⟨b5, 0, none⟩)), (12, .pointer (some ⟨b12, 0, none⟩)), (98, .int .i64 (k : Int))]) (fun k => [blk b12 (ints .u32 (rnds addsK (sch2 (sch1 p 16) 48) s k)) 291, blk b5 (ints .u32 (sch2 (sch1 p 16) 48)) 208, blk b4 (List.replicate 8 (.int .u32 0)) 291, blk b3 (ints .u8 p) 292, blk b2 (ints .u32 s) 291]) (fun k => k ≤ 64) (fun k => 64 - k) (0) (by omega) (by repeat (first | exact .nil | refine .cons rfl ?_)) (Weak.refl _) ?_
      intro k hk
      have hl : (sch2 (sch1 p 16) 48).length = 64 := by rw [sch2_length, sch1_length]
      have hr : (rnds addsK (sch2 (sch1 p 16) 48) s k).length = 8 := by rw [rnds_length, hs]
      obtain ⟨va, vb, vc, vd, ve, vf, vg, vh, e8⟩ := list8 hr
      rw [e8]
      refine R_seq ?_
      refine R_region ?_
      refine L_val rfl rfl rfl (OpP.v (P_lss rfl rfl rfl)) ?_
      refine L_nil ?_
      refine Q_then ?_
      refine R_seq ?_
      refine R_condP rfl (fun hlt3 => ?_) (fun hlt3 => ?_)
      · skip
        refine R_skip ?_
        refine Q_then ?_
        refine R_seq ?_
        refine R_block ?_
        refine R_seq ?_
        refine R_region ?_
        refine L_val rfl rfl rfl (OpP.v (P_move rfl rfl)) ?_
        refine L_val rfl rfl rfl (OpP.v (P_assign rfl rfl)) ?_
        refine L_nil ?_
        refine Q_then ?_
        refine R_seq ?_
        refine R_open [(0, 0), (1, 1), (2, 0), (3, 1), (4, 0), (5, 0)] mixed (by kernel_rfl) (QOk.then (QOk.block (QOk.then (QOk.then (QOk.block (QOk.then QOk.body)))))) ?_
        first | (refine O_pure rfl rfl rfl rfl (P_ixa0 (4) rfl ty_ar_291 rfl rfl (by first | rfl | omega) (by omega)) ?_) | (refine O_pure rfl rfl rfl rfl (P_ixa (4) rfl ty_ar_291 rfl rfl (by first | rfl | omega) (by omega)) ?_)
        refine O_val rfl rfl rfl rfl (V_load rfl rfl ty_sc_108 (by first | exact Rd.blk .h0 rfl | exact Rd.blk .h1 rfl | exact Rd.blk .h2 rfl | exact Rd.blk .h3 rfl | exact Rd.blk .h4 rfl | exact Rd.blk .h5 rfl | exact Rd.blk .h6 rfl | exact Rd.blk .h7 rfl)) ?_
        first | (refine O_pure rfl rfl rfl rfl (P_ixa0 (0) rfl ty_ar_291 rfl rfl (by first | rfl | omega) (by omega)) ?_) | (refine O_pure rfl rfl rfl rfl (P_ixa (0) rfl ty_ar_291 rfl rfl (by first | rfl | omega) (by omega)) ?_)
        refine O_val rfl rfl rfl rfl (V_load rfl rfl ty_sc_108 (by first | exact Rd.blk .h0 rfl | exact Rd.blk .h1 rfl | exact Rd.blk .h2 rfl | exact Rd.blk .h3 rfl | exact Rd.blk .h4 rfl | exact Rd.blk .h5 rfl | exact Rd.blk .h6 rfl | exact Rd.blk .h7 rfl)) ?_
        refine O_pure rfl rfl rfl rfl (P_assign rfl rfl) ?_
        refine O_pure rfl rfl rfl rfl (P_assign rfl rfl) ?_
        refine O_nil ?_
        refine Q_then ?_
        refine R_seq ?_
        refine R_open [(0, 0), (1, 1), (2, 0), (4, 0), (7, 0), (11, 0), (12, 0), (13, 1), (14, 0), (15, 0), (16, 0), (17, 0), (18, 1), (19, 0), (20, 0), (22, 0), (23, 0), (24, 1), (26, 0), (27, 0), (28, 1), (3, 2), (5, 2), (6, 0), (8, 2), (9, 0), (10, 0), (21, 0), (25, 0), (29, 0), (30, 0)] mixed (by kernel_rfl) (QOk.then (QOk.block (QOk.then (QOk.then (QOk.block (QOk.then QOk.body)))))) ?_
        first | (refine O_pure rfl rfl rfl rfl (P_ixa0 (7) rfl ty_ar_291 rfl rfl (by first | rfl | omega) (by omega)) ?_) | (refine O_pure rfl rfl rfl rfl (P_ixa (7) rfl ty_ar_291 rfl rfl (by first | rfl | omega) (by omega)) ?_)
        refine O_val rfl rfl rfl rfl (V_load rfl rfl ty_sc_108 (by first | exact Rd.blk .h0 rfl | exact Rd.blk .h1 rfl | exact Rd.blk .h2 rfl | exact Rd.blk .h3 rfl | exact Rd.blk .h4 rfl | exact Rd.blk .h5 rfl | exact Rd.blk .h6 rfl | exact Rd.blk .h7 rfl)) ?_
        refine O_pure rfl rfl rfl rfl (P_move rfl rfl) ?_
        refine O_pure rfl rfl rfl rfl (P_move rfl rfl) ?_
        refine O_pure rfl rfl rfl rfl (P_move rfl rfl) ?_
        refine O_pure rfl rfl rfl rfl (P_move rfl rfl) ?_
        first | (refine O_pure rfl rfl rfl rfl (P_ixa0 (5) rfl ty_ar_291 rfl rfl (by first | rfl | omega) (by omega)) ?_) | (refine O_pure rfl rfl rfl rfl (P_ixa (5) rfl ty_ar_291 rfl rfl (by first | rfl | omega) (by omega)) ?_)
        refine O_val rfl rfl rfl rfl (V_load rfl rfl ty_sc_108 (by first | exact Rd.blk .h0 rfl | exact Rd.blk .h1 rfl | exact Rd.blk .h2 rfl | exact Rd.blk .h3 rfl | exact Rd.blk .h4 rfl | exact Rd.blk .h5 rfl | exact Rd.blk .h6 rfl | exact Rd.blk .h7 rfl)) ?_
        refine O_pure rfl rfl rfl rfl (P_bit (op := .and) rfl rfl rfl rfl) ?_
        refine O_pure rfl rfl rfl rfl (P_move rfl rfl) ?_
        refine O_pure rfl rfl rfl rfl (P_compl rfl rfl) ?_
        first | (refine O_pure rfl rfl rfl rfl (P_ixa0 (6) rfl ty_ar_291 rfl rfl (by first | rfl | omega) (by omega)) ?_) | (refine O_pure rfl rfl rfl rfl (P_ixa (6) rfl ty_ar_291 rfl rfl (by first | rfl | omega) (by omega)) ?_)
        refine O_val rfl rfl rfl rfl (V_load rfl rfl ty_sc_108 (by first | exact Rd.blk .h0 rfl | exact Rd.blk .h1 rfl | exact Rd.blk .h2 rfl | exact Rd.blk .h3 rfl | exact Rd.blk .h4 rfl | exact Rd.blk .h5 rfl | exact Rd.blk .h6 rfl | exact Rd.blk .h7 rfl)) ?_
        refine O_pure rfl rfl rfl rfl (P_bit (op := .and) rfl rfl rfl rfl) ?_
        refine O_pure rfl rfl rfl rfl (P_bit (op := .xor) rfl rfl rfl rfl) ?_
        refine O_pure rfl rfl rfl rfl (P_move rfl rfl) ?_
        first | (refine O_pure rfl rfl rfl rfl (P_ixa0 (k) rfl ty_ar_208 rfl rfl (by first | rfl | omega) (by omega)) ?_) | (refine O_pure rfl rfl rfl rfl (P_ixa (k) rfl ty_ar_208 rfl rfl (by first | rfl | omega) (by omega)) ?_)
        refine O_val rfl rfl rfl rfl (V_load rfl rfl ty_sc_108 (hG.elim fun T h => h.elim fun fr h => Rd.glob rfl h (ints_at (by rw [addsK_length]; omega)))) ?_
        refine O_pure rfl rfl rfl rfl (P_move rfl rfl) ?_
        first | (refine O_pure rfl rfl rfl rfl (P_ixa0 (k) rfl ty_ar_208 rfl rfl (by first | rfl | omega) (by omega)) ?_) | (refine O_pure rfl rfl rfl rfl (P_ixa (k) rfl ty_ar_208 rfl rfl (by first | rfl | omega) (by omega)) ?_)
        refine O_val rfl rfl rfl rfl (V_load rfl rfl ty_sc_108 (Rd.blk .h1 (ints_at (by omega)))) ?_
        refine O_keep rfl rfl (W_callV rfl rfl rfl rfl fn_ca_231 (SpecV.mono (rotl_ok gl _ (-6)) (fun _ h => h) (by rw [rot6])) (fun _ _ => trivial) (K_keep (Weak.refl _) ?_))
        refine O_keep rfl rfl (W_callV rfl rfl rfl rfl fn_ca_231 (SpecV.mono (rotl_ok gl _ (-11)) (fun _ h => h) (by rw [rot11])) (fun _ _ => trivial) (K_keep (Weak.refl _) ?_))
        refine O_pure rfl rfl rfl rfl (P_bit (op := .xor) rfl rfl rfl rfl) ?_
        refine O_keep rfl rfl (W_callV rfl rfl rfl rfl fn_ca_231 (SpecV.mono (rotl_ok gl _ (-25)) (fun _ h => h) (by rw [rot25])) (fun _ _ => trivial) (K_keep (Weak.refl _) ?_))
        refine O_pure rfl rfl rfl rfl (P_bit (op := .xor) rfl rfl rfl rfl) ?_
        refine O_pure rfl rfl rfl rfl (P_add rfl rfl rfl) ?_
        refine O_pure rfl rfl rfl rfl (P_add rfl rfl rfl) ?_
        refine O_pure rfl rfl rfl rfl (P_add rfl rfl rfl) ?_
        refine O_pure rfl rfl rfl rfl (P_add rfl rfl rfl) ?_
        refine O_pure rfl rfl rfl rfl (P_assign rfl rfl) ?_
        refine O_nil ?_
        refine Q_then ?_
        refine R_seq ?_
        refine R_open [(0, 0), (2, 0), (5, 0), (8, 0), (9, 0), (10, 1), (11, 0), (12, 0), (13, 0), (14, 1), (15, 0), (16, 0), (17, 0), (18, 1), (19, 0), (20, 1), (21, 0), (22, 0), (1, 2), (3, 2), (4, 0), (6, 2), (7, 0), (23, 0), (24, 0)] mixed (by kernel_rfl) (QOk.then (QOk.block (QOk.then (QOk.then (QOk.block (QOk.then QOk.body)))))) ?_
        refine O_pure rfl rfl rfl rfl (P_move rfl rfl) ?_
        refine O_pure rfl rfl rfl rfl (P_move rfl rfl) ?_
        refine O_pure rfl rfl rfl rfl (P_move rfl rfl) ?_
        refine O_pure rfl rfl rfl rfl (P_move rfl rfl) ?_
        first | (refine O_pure rfl rfl rfl rfl (P_ixa0 (1) rfl ty_ar_291 rfl rfl (by first | rfl | omega) (by omega)) ?_) | (refine O_pure rfl rfl rfl rfl (P_ixa (1) rfl ty_ar_291 rfl rfl (by first | rfl | omega) (by omega)) ?_)
        refine O_val rfl rfl rfl rfl (V_load rfl rfl ty_sc_108 (by first | exact Rd.blk .h0 rfl | exact Rd.blk .h1 rfl | exact Rd.blk .h2 rfl | exact Rd.blk .h3 rfl | exact Rd.blk .h4 rfl | exact Rd.blk .h5 rfl | exact Rd.blk .h6 rfl | exact Rd.blk .h7 rfl)) ?_
        refine O_pure rfl rfl rfl rfl (P_bit (op := .and) rfl rfl rfl rfl) ?_
        refine O_pure rfl rfl rfl rfl (P_move rfl rfl) ?_
        first | (refine O_pure rfl rfl rfl rfl (P_ixa0 (2) rfl ty_ar_291 rfl rfl (by first | rfl | omega) (by omega)) ?_) | (refine O_pure rfl rfl rfl rfl (P_ixa (2) rfl ty_ar_291 rfl rfl (by first | rfl | omega) (by omega)) ?_)
        refine O_val rfl rfl rfl rfl (V_load rfl rfl ty_sc_108 (by first | exact Rd.blk .h0 rfl | exact Rd.blk .h1 rfl | exact Rd.blk .h2 rfl | exact Rd.blk .h3 rfl | exact Rd.blk .h4 rfl | exact Rd.blk .h5 rfl | exact Rd.blk .h6 rfl | exact Rd.blk .h7 rfl)) ?_
        refine O_pure rfl rfl rfl rfl (P_bit (op := .and) rfl rfl rfl rfl) ?_
        refine O_pure rfl rfl rfl rfl (P_bit (op := .xor) rfl rfl rfl rfl) ?_
        first | (refine O_pure rfl rfl rfl rfl (P_ixa0 (1) rfl ty_ar_291 rfl rfl (by first | rfl | omega) (by omega)) ?_) | (refine O_pure rfl rfl rfl rfl (P_ixa (1) rfl ty_ar_291 rfl rfl (by first | rfl | omega) (by omega)) ?_)
        refine O_val rfl rfl rfl rfl (V_load rfl rfl ty_sc_108 (by first | exact Rd.blk .h0 rfl | exact Rd.blk .h1 rfl | exact Rd.blk .h2 rfl | exact Rd.blk .h3 rfl | exact Rd.blk .h4 rfl | exact Rd.blk .h5 rfl | exact Rd.blk .h6 rfl | exact Rd.blk .h7 rfl)) ?_
        first | (refine O_pure rfl rfl rfl rfl (P_ixa0 (2) rfl ty_ar_291 rfl rfl (by first | rfl | omega) (by omega)) ?_) | (refine O_pure rfl rfl rfl rfl (P_ixa (2) rfl ty_ar_291 rfl rfl (by first | rfl | omega) (by omega)) ?_)
        refine O_val rfl rfl rfl rfl (V_load rfl rfl ty_sc_108 (by first | exact Rd.blk .h0 rfl | exact Rd.blk .h1 rfl | exact Rd.blk .h2 rfl | exact Rd.blk .h3 rfl | exact Rd.blk .h4 rfl | exact Rd.blk .h5 rfl | exact Rd.blk .h6 rfl | exact Rd.blk .h7 rfl)) ?_
        refine O_pure rfl rfl rfl rfl (P_bit (op := .and) rfl rfl rfl rfl) ?_
        refine O_pure rfl rfl rfl rfl (P_bit (op := .xor) rfl rfl rfl rfl) ?_
        refine O_keep rfl rfl (W_callV rfl rfl rfl rfl fn_ca_231 (SpecV.mono (rotl_ok gl _ (-2)) (fun _ h => h) (by rw [rot2])) (fun _ _ => trivial) (K_keep (Weak.refl _) ?_))
        refine O_keep rfl rfl (W_callV rfl rfl rfl rfl fn_ca_231 (SpecV.mono (rotl_ok gl _ (-13)) (fun _ h => h) (by rw [rot13])) (fun _ _ => trivial) (K_keep (Weak.refl _) ?_))
        refine O_pure rfl rfl rfl rfl (P_bit (op := .xor) rfl rfl rfl rfl) ?_
        refine O_keep rfl rfl (W_callV rfl rfl rfl rfl fn_ca_231 (SpecV.mono (rotl_ok gl _ (-22)) (fun _ h => h) (by rw [rot22])) (fun _ _ => trivial) (K_keep (Weak.refl _) ?_))
        refine O_pure rfl rfl rfl rfl (P_bit (op := .xor) rfl rfl rfl rfl) ?_
        refine O_pure rfl rfl rfl rfl (P_add rfl rfl rfl) ?_
        refine O_pure rfl rfl rfl rfl (P_assign rfl rfl) ?_
        refine O_nil ?_
        refine Q_then ?_
        refine R_region ?_
        refine L_val rfl rfl rfl (OpP.v (P_move rfl rfl)) ?_
        refine L_val rfl rfl rfl (OpP.v (P_move rfl rfl)) ?_
        refine L_val rfl rfl rfl (OpP.v (P_add rfl rfl rfl)) ?_
        refine L_val rfl rfl rfl (OpP.v (P_move rfl rfl)) ?_
        first | (refine L_val rfl rfl rfl (OpP.v (P_ixa0 (1) rfl ty_ar_291 rfl rfl (by first | rfl | omega) (by omega))) ?_) | (refine L_val rfl rfl rfl (OpP.v (P_ixa (1) rfl ty_ar_291 rfl rfl (by first | rfl | omega) (by omega))) ?_)
        refine L_val rfl rfl rfl (V_load rfl rfl ty_sc_108 (by first | exact Rd.blk .h0 rfl | exact Rd.blk .h1 rfl | exact Rd.blk .h2 rfl | exact Rd.blk .h3 rfl | exact Rd.blk .h4 rfl | exact Rd.blk .h5 rfl | exact Rd.blk .h6 rfl | exact Rd.blk .h7 rfl)) ?_
        first | (refine L_val rfl rfl rfl (OpP.v (P_ixa0 (2) rfl ty_ar_291 rfl rfl (by first | rfl | omega) (by omega))) ?_) | (refine L_val rfl rfl rfl (OpP.v (P_ixa (2) rfl ty_ar_291 rfl rfl (by first | rfl | omega) (by omega))) ?_)
        refine L_val rfl rfl rfl (V_load rfl rfl ty_sc_108 (by first | exact Rd.blk .h0 rfl | exact Rd.blk .h1 rfl | exact Rd.blk .h2 rfl | exact Rd.blk .h3 rfl | exact Rd.blk .h4 rfl | exact Rd.blk .h5 rfl | exact Rd.blk .h6 rfl | exact Rd.blk .h7 rfl)) ?_
        first | (refine L_val rfl rfl rfl (OpP.v (P_ixa0 (3) rfl ty_ar_291 rfl rfl (by first | rfl | omega) (by omega))) ?_) | (refine L_val rfl rfl rfl (OpP.v (P_ixa (3) rfl ty_ar_291 rfl rfl (by first | rfl | omega) (by omega))) ?_)
        refine L_val rfl rfl rfl (V_load rfl rfl ty_sc_108 (by first | exact Rd.blk .h0 rfl | exact Rd.blk .h1 rfl | exact Rd.blk .h2 rfl | exact Rd.blk .h3 rfl | exact Rd.blk .h4 rfl | exact Rd.blk .h5 rfl | exact Rd.blk .h6 rfl | exact Rd.blk .h7 rfl)) ?_
        refine L_val rfl rfl rfl (OpP.v (P_move rfl rfl)) ?_
        refine L_val rfl rfl rfl (OpP.v (P_add rfl rfl rfl)) ?_
        refine L_val rfl rfl rfl (OpP.v (P_move rfl rfl)) ?_
        first | (refine L_val rfl rfl rfl (OpP.v (P_ixa0 (5) rfl ty_ar_291 rfl rfl (by first | rfl | omega) (by omega))) ?_) | (refine L_val rfl rfl rfl (OpP.v (P_ixa (5) rfl ty_ar_291 rfl rfl (by first | rfl | omega) (by omega))) ?_)
        refine L_val rfl rfl rfl (V_load rfl rfl ty_sc_108 (by first | exact Rd.blk .h0 rfl | exact Rd.blk .h1 rfl | exact Rd.blk .h2 rfl | exact Rd.blk .h3 rfl | exact Rd.blk .h4 rfl | exact Rd.blk .h5 rfl | exact Rd.blk .h6 rfl | exact Rd.blk .h7 rfl)) ?_
        first | (refine L_val rfl rfl rfl (OpP.v (P_ixa0 (6) rfl ty_ar_291 rfl rfl (by first | rfl | omega) (by omega))) ?_) | (refine L_val rfl rfl rfl (OpP.v (P_ixa (6) rfl ty_ar_291 rfl rfl (by first | rfl | omega) (by omega))) ?_)
        refine L_val rfl rfl rfl (V_load rfl rfl ty_sc_108 (by first | exact Rd.blk .h0 rfl | exact Rd.blk .h1 rfl | exact Rd.blk .h2 rfl | exact Rd.blk .h3 rfl | exact Rd.blk .h4 rfl | exact Rd.blk .h5 rfl | exact Rd.blk .h6 rfl | exact Rd.blk .h7 rfl)) ?_
        refine L_val rfl rfl rfl (OpP.v (P_buildArr rfl ty_ar_291 ty_ze_291 rfl rfl rfl rfl (by simp [Value.oneCell']))) ?_
        refine L_op rfl (W_storeAll rfl rfl rfl rfl ty_ag_291 (by first | rfl | simp [ints]) (by intro v hv; simp at hv; rcases hv with rfl | rfl | rfl | rfl | rfl | rfl | rfl | rfl <;> rfl) .h0 (by first | rfl | simp [ints]) ?_)
        refine L_nil ?_
        refine Q_block ?_
        refine Q_then ?_
        refine R_region ?_
        first | (refine L_val rfl rfl rfl (OpP.v (P_addN rfl rfl rfl (by simp only [fits]; omega))) ?_) | (refine L_val rfl rfl rfl (OpP.v (P_add rfl rfl rfl)) ?_)
        refine L_val rfl rfl rfl (OpP.v (P_move rfl rfl)) ?_
        refine L_nil ?_
        refine E_nat (t := 98) (n := k + 1) rfl (by omega) ?_
        exact Q_round (k + 1) (by omega) (by omega) (by repeat (first | exact .nil | refine .cons rfl ?_)) (by rw [rnds, e8]; exact Weak.refl _)
      · skip
        refine R_exit ?_
        refine Q_then_exit ?_
        refine Q_then_exit ?_
        refine Q_block_eq ?_
        refine St.env (.cons (t := 2) rfl (.cons (t := 4) rfl (.cons (t := 12) rfl .nil))) ?_
        refine Q_then ?_
        refine R_seq ?_
        refine R_seq ?_
        refine R_region ?_
        refine L_val rfl rfl rfl (OpP.v (P_move rfl rfl)) ?_
        refine L_nil ?_
        refine Q_then ?_
        refine R_block ?_
        obtain rfl : k = 64 := by omega
        rw [← e8]
        refine R_loop (G := Nat) (fun k => [(2, .pointer (some ⟨b2, 0, none⟩)), (4, .pointer (some ⟨b4, 0, none⟩)), (12, .pointer (some ⟨b12, 0, none⟩)), (178, .int .i64 (k : Int))]) (fun k => [blk b12 (ints .u32 (rnds addsK (sch2 (sch1 p 16) 48) s 64)) 291, blk b5 (ints .u32 (sch2 (sch1 p 16) 48)) 208, blk b4 (List.replicate 8 (.int .u32 0)) 291, blk b3 (ints .u8 p) 292, blk b2 (ints .u32 (fin8 s (rnds addsK (sch2 (sch1 p 16) 48) s 64) k)) 291]) (fun k => k ≤ 8) (fun k => 8 - k) (0) (by omega) (by repeat (first | exact .nil | refine .cons rfl ?_)) (Weak.refl _) ?_
        intro k hk
        have hf : (fin8 s (rnds addsK (sch2 (sch1 p 16) 48) s 64) k).length = 8 := by rw [fin8_length, hs]
        have hr : (rnds addsK (sch2 (sch1 p 16) 48) s 64).length = 8 := by rw [rnds_length, hs]
        refine R_seq ?_
        refine R_region ?_
        refine L_val rfl rfl rfl (OpP.v (P_lss rfl rfl rfl)) ?_
        refine L_nil ?_
        refine Q_then ?_
        refine R_seq ?_
        refine R_condP rfl (fun hlt4 => ?_) (fun hlt4 => ?_)
        · skip
          refine R_skip ?_
          refine Q_then ?_
          refine R_seq ?_
          refine R_block ?_
          refine R_seq ?_
          refine R_region ?_
          refine L_val rfl rfl rfl (OpP.v (P_move rfl rfl)) ?_
          refine L_val rfl rfl rfl (OpP.v (P_assign rfl rfl)) ?_
          refine L_nil ?_
          refine Q_then ?_
          refine R_open [(0, 0), (1, 0), (2, 1), (3, 0), (4, 0), (5, 1), (6, 0), (7, 0), (8, 3)] mixed (by kernel_rfl) (QOk.block (QOk.then (QOk.then (QOk.block (QOk.then QOk.body))))) ?_
          refine O_pure rfl rfl rfl rfl (P_move rfl rfl) ?_
          first | (refine O_pure rfl rfl rfl rfl (P_ixa0 (k) rfl ty_ar_291 rfl rfl (by first | rfl | omega) (by omega)) ?_) | (refine O_pure rfl rfl rfl rfl (P_ixa (k) rfl ty_ar_291 rfl rfl (by first | rfl | omega) (by omega)) ?_)
          refine O_val rfl rfl rfl rfl (V_load rfl rfl ty_sc_108 (Rd.blk .h4 (ints_at (by omega)))) ?_
          refine O_pure rfl rfl rfl rfl (P_move rfl rfl) ?_
          first | (refine O_pure rfl rfl rfl rfl (P_ixa0 (k) rfl ty_ar_291 rfl rfl (by first | rfl | omega) (by omega)) ?_) | (refine O_pure rfl rfl rfl rfl (P_ixa (k) rfl ty_ar_291 rfl rfl (by first | rfl | omega) (by omega)) ?_)
          refine O_val rfl rfl rfl rfl (V_load rfl rfl ty_sc_108 (Rd.blk .h0 (ints_at (by omega)))) ?_
          refine O_pure rfl rfl rfl rfl (P_add rfl rfl rfl) ?_
          first | (refine O_pure rfl rfl rfl rfl (P_ixa0 (k) rfl ty_ar_291 rfl rfl (by first | rfl | omega) (by omega)) ?_) | (refine O_pure rfl rfl rfl rfl (P_ixa (k) rfl ty_ar_291 rfl rfl (by first | rfl | omega) (by omega)) ?_)
          refine O_new rfl rfl (W_store rfl rfl rfl rfl ty_sc_108 rfl .h4 (by rw [ints_length, hf]; omega) (K_new ?_))
          rw [ints_set]
          refine O_nil ?_
          refine Q_block ?_
          refine Q_then ?_
          refine R_region ?_
          first | (refine L_val rfl rfl rfl (OpP.v (P_addN rfl rfl rfl (by simp only [fits]; omega))) ?_) | (refine L_val rfl rfl rfl (OpP.v (P_add rfl rfl rfl)) ?_)
          refine L_val rfl rfl rfl (OpP.v (P_move rfl rfl)) ?_
          refine L_nil ?_
          refine E_nat (t := 178) (n := k + 1) rfl (by omega) ?_
          exact Q_round (k + 1) (by omega) (by omega) (by repeat (first | exact .nil | refine .cons rfl ?_)) (Weak.refl _)
        · skip
          refine R_exit ?_
          refine Q_then_exit ?_
          refine Q_then_exit ?_
          refine Q_block_eq ?_
          refine St.env (.cons (t := 2) rfl (.cons (t := 4) rfl .nil)) ?_
          refine Q_then ?_
          refine R_seq ?_
          refine R_region ?_
          obtain rfl : k = 8 := by omega
          refine L_val rfl rfl rfl (V_loadAgg rfl rfl ty_ag_291 (Rds.blk .h4) (by rw [ints_length, hf])) ?_
          refine L_op rfl (W_storeAll rfl rfl rfl rfl ty_ag_291 (by rw [ints_length, hf]) (ints_one) .h2 (by rw [ints_length, hf]; rfl) ?_)
          refine L_nil ?_
          refine St.env (.cons (t := 4) rfl .nil) ?_
          refine Q_then ?_
          refine R_ret ?_
          exact R_endV rfl rfl (.cell rfl (Rds.loadVar ty_ag_291 (Rds.blk .h2) (by rw [ints_length, hf])) .nil) (rfl)
end Go.Proofs.YtfhjhaogmdaepaaGreatDoor
