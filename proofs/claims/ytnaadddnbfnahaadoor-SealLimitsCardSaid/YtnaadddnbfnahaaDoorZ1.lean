/- Chunks of zeros, reckoned as natural numbers. Printed by gen.py. -/
import Derived.Test.YtnaadddnbfnahaaDoorS3
set_option linter.unusedVariables false
set_option linter.unusedSimpArgs false
set_option maxRecDepth 100000
namespace Go.Proofs.YtnaadddnbfnahaaDoor
open Go Go.RowKit Go.Proofs
/-! Words as natural numbers, in the form in which they are reckoned fast. -/
def up (v : List Nat) : List Int := v.map fun x : Nat => (x : Int)
theorem wrap_n (x : Nat) : IntKind.u32.wrap (x : Int) = ((x % 4294967296 : Nat) : Int) := by
  simp [IntKind.wrap, IntKind.signed, IntKind.bits]
theorem ofInt_n (a : Nat) : BitVec.ofInt 32 (a : Int) = BitVec.ofNat 32 a := by
  apply BitVec.eq_of_toNat_eq
  simp [BitVec.toNat_ofInt]
theorem and_n {a b : Nat} (ha : a < 4294967296) (hb : b < 4294967296) : bitI .and .u32 (a : Int) (b : Int) = ((Nat.land a b : Nat) : Int) := by
  show IntKind.u32.wrap ((BitVec.ofInt 32 (a : Int) &&& BitVec.ofInt 32 (b : Int)).toNat : Int) = _
  rw [ofInt_n, ofInt_n, wrap_n, BitVec.toNat_and, BitVec.toNat_ofNat, BitVec.toNat_ofNat, Nat.mod_eq_of_lt ha, Nat.mod_eq_of_lt hb]
  have : a &&& b < 2 ^ 32 := Nat.and_lt_two_pow _ hb
  rw [Nat.mod_eq_of_lt (by omega)]; rfl
theorem or_n {a b : Nat} (ha : a < 4294967296) (hb : b < 4294967296) : bitI .or .u32 (a : Int) (b : Int) = ((Nat.lor a b : Nat) : Int) := by
  show IntKind.u32.wrap ((BitVec.ofInt 32 (a : Int) ||| BitVec.ofInt 32 (b : Int)).toNat : Int) = _
  rw [ofInt_n, ofInt_n, wrap_n, BitVec.toNat_or, BitVec.toNat_ofNat, BitVec.toNat_ofNat, Nat.mod_eq_of_lt ha, Nat.mod_eq_of_lt hb]
  have : a ||| b < 2 ^ 32 := Nat.or_lt_two_pow ha hb
  rw [Nat.mod_eq_of_lt (by omega)]; rfl
theorem xor_n {a b : Nat} (ha : a < 4294967296) (hb : b < 4294967296) : bitI .xor .u32 (a : Int) (b : Int) = ((Nat.xor a b : Nat) : Int) := by
  show IntKind.u32.wrap ((BitVec.ofInt 32 (a : Int) ^^^ BitVec.ofInt 32 (b : Int)).toNat : Int) = _
  rw [ofInt_n, ofInt_n, wrap_n, BitVec.toNat_xor, BitVec.toNat_ofNat, BitVec.toNat_ofNat, Nat.mod_eq_of_lt ha, Nat.mod_eq_of_lt hb]
  have : a ^^^ b < 2 ^ 32 := Nat.xor_lt_two_pow ha hb
  rw [Nat.mod_eq_of_lt (by omega)]; rfl
theorem xor_lt {a b : Nat} (ha : a < 4294967296) (hb : b < 4294967296) : Nat.xor a b < 4294967296 := by
  have : a ^^^ b < 2 ^ 32 := Nat.xor_lt_two_pow ha hb
  exact this
theorem land_lt {a b : Nat} (hb : b < 4294967296) : Nat.land a b < 4294967296 := by
  have : a &&& b < 2 ^ 32 := Nat.and_lt_two_pow _ hb
  exact this
theorem xor_mod (a b : Nat) : Nat.xor (a % 4294967296) (b % 4294967296) = Nat.xor a b % 4294967296 := by
  have := @Nat.xor_mod_two_pow a b 32
  exact this.symm
theorem addW_n (a b : Nat) : addW (a : Int) (b : Int) = (((a + b) % 4294967296 : Nat) : Int) := by
  unfold addW
  have := wrap_n (a + b)
  rwa [Int.natCast_add] at this
theorem sh (a n : Nat) : Nat.shiftRight a n = a / 2 ^ n := Nat.shiftRight_eq_div_pow a n
theorem turn_n {a : Nat} (ha : a < 4294967296) (n m p q : Nat) (hm : IntKind.u64.wrap (32 - (n : Int)) = (m : Int)) (hn : n ≤ 32) (hml : m ≤ 32) (hp : 2 ^ n = p) (hq : 2 ^ m = q) (hpq : p * q = 4294967296) (hp0 : 0 < p) :
    turnI (a : Int) (n : Int) = ((Nat.shiftRight (Nat.mul a 4294967297) n % 4294967296 : Nat) : Int) := by
  have e1 : shrI .u32 (a : Int) (n : Int) = ((a / p : Nat) : Int) := by
    unfold shrI
    rw [Int.toNat_natCast, show min n IntKind.u32.bits = n from Nat.min_eq_left hn]
    rw [show ((2 : Int) ^ n) = ((p : Nat) : Int) by rw [← hp]; norm_cast]
    rw [Int.fdiv_eq_ediv_of_nonneg _ (by omega)]
    norm_cast
  have e2 : shlI .u32 (a : Int) (IntKind.u64.wrap (32 - (n : Int))) = ((a * q % 4294967296 : Nat) : Int) := by
    unfold shlI
    rw [hm, Int.toNat_natCast, show min m IntKind.u32.bits = m from Nat.min_eq_left hml]
    rw [show ((2 : Int) ^ m) = ((q : Nat) : Int) by rw [← hq]; norm_cast]
    rw [← Int.natCast_mul, wrap_n]
  unfold turnI
  have h1 : a / p < 4294967296 := Nat.lt_of_le_of_lt (Nat.div_le_self _ _) ha
  rw [e1, e2, or_n h1 (Nat.mod_lt _ (by decide))]
  congr 1
  have hq0 : 0 < q := Nat.pos_of_ne_zero fun e => by rw [e] at hpq; omega
  have e3 : a * q % 4294967296 = q * (a % p) := by
    rw [← hpq, Nat.mul_comm a q, Nat.mul_comm p q, Nat.mul_mod_mul_left]
  have h2 : a / p < q := by rw [Nat.div_lt_iff_lt_mul hp0, Nat.mul_comm]; omega
  have e4 : Nat.lor (a / p) (q * (a % p)) = q * (a % p) + a / p := by
    have h3 : q * (a % p) + a / p = q * (a % p) ||| a / p := by rw [← hq]; exact Nat.two_pow_add_eq_or_of_lt (by rw [hq]; exact h2) _
    rw [h3, Nat.or_comm]; rfl
  rw [e3, e4, sh, hp]
  show _ = a * 4294967297 / p % 4294967296
  have e5 : a * 4294967297 / p = a * q + a / p := by
    rw [show a * 4294967297 = a + p * (a * q) by rw [Nat.mul_comm a q, ← Nat.mul_assoc, hpq]; omega, Nat.add_mul_div_left _ _ hp0]; omega
  rw [e5]
  have e6 : a * q + a / p = (q * (a % p) + a / p) + 4294967296 * (a / p) := by
    have h4 : a * q = q * (a % p) + 4294967296 * (a / p) := by
      have h5 : (p * (a / p) + a % p) * q = a * q := by rw [Nat.div_add_mod]
      rw [← h5, Nat.add_mul, Nat.mul_right_comm, hpq, Nat.mul_comm (a % p) q, Nat.add_comm]
    omega
  rw [e6, Nat.add_mul_mod_self_left]
  refine (Nat.mod_eq_of_lt ?_).symm
  have h6 : q * (a % p) ≤ q * (p - 1) := Nat.mul_le_mul_left _ (by have := Nat.mod_lt a hp0; omega)
  have h7 : q * (p - 1) + q = 4294967296 := by rw [← hpq, Nat.mul_comm p q]; obtain ⟨p', rfl⟩ : ∃ p', p = p' + 1 := ⟨p - 1, by omega⟩; rw [Nat.add_sub_cancel, Nat.mul_succ]
  omega
def S0n (A : Nat) : Nat := Nat.xor (Nat.xor (Nat.shiftRight A 2) (Nat.shiftRight A 13)) (Nat.shiftRight A 22)
def S1n (E : Nat) : Nat := Nat.xor (Nat.xor (Nat.shiftRight E 6) (Nat.shiftRight E 11)) (Nat.shiftRight E 25)
def Chn (e f g : Nat) : Nat := Nat.xor (Nat.land e f) (Nat.land (Nat.xor 4294967295 e) g)
def Mjn (a b c : Nat) : Nat := Nat.xor (Nat.xor (Nat.land a b) (Nat.land a c)) (Nat.land b c)
theorem bs0_n {a : Nat} (ha : a < 4294967296) : bs0 (a : Int) = ((S0n (Nat.mul a 4294967297) % 4294967296 : Nat) : Int) := by
  unfold bs0 S0n
  have h1 := turn_n ha 2 30 4 1073741824 (by rfl) (by decide) (by decide) (by decide) (by decide) (by decide) (by decide)
  have h2 := turn_n ha 13 19 8192 524288 (by rfl) (by decide) (by decide) (by decide) (by decide) (by decide) (by decide)
  have h3 := turn_n ha 22 10 4194304 1024 (by rfl) (by decide) (by decide) (by decide) (by decide) (by decide) (by decide)
  have h1 : turnI (a : Int) 2 = _ := h1
  have h2 : turnI (a : Int) 13 = _ := h2
  have h3 : turnI (a : Int) 22 = _ := h3
  rw [h1, h2, h3, xor_n (Nat.mod_lt _ (by decide)) (Nat.mod_lt _ (by decide)), xor_mod, xor_n (Nat.mod_lt _ (by decide)) (Nat.mod_lt _ (by decide)), xor_mod]
theorem bs1_n {a : Nat} (ha : a < 4294967296) : bs1 (a : Int) = ((S1n (Nat.mul a 4294967297) % 4294967296 : Nat) : Int) := by
  unfold bs1 S1n
  have h1 := turn_n ha 6 26 64 67108864 (by rfl) (by decide) (by decide) (by decide) (by decide) (by decide) (by decide)
  have h2 := turn_n ha 11 21 2048 2097152 (by rfl) (by decide) (by decide) (by decide) (by decide) (by decide) (by decide)
  have h3 := turn_n ha 25 7 33554432 128 (by rfl) (by decide) (by decide) (by decide) (by decide) (by decide) (by decide)
  have h1 : turnI (a : Int) 6 = _ := h1
  have h2 : turnI (a : Int) 11 = _ := h2
  have h3 : turnI (a : Int) 25 = _ := h3
  rw [h1, h2, h3, xor_n (Nat.mod_lt _ (by decide)) (Nat.mod_lt _ (by decide)), xor_mod, xor_n (Nat.mod_lt _ (by decide)) (Nat.mod_lt _ (by decide)), xor_mod]
theorem ch_n {e f g : Nat} (he : e < 4294967296) (hf : f < 4294967296) (hg : g < 4294967296) : chI (e : Int) (f : Int) (g : Int) = ((Chn e f g : Nat) : Int) := by
  unfold chI Chn
  have h0 : (if IntKind.u32.signed then (-1 : Int) else IntKind.u32.max) = ((4294967295 : Nat) : Int) := rfl
  rw [h0, and_n he hf, xor_n (by decide) he, and_n (xor_lt (by decide) he) hg, xor_n (land_lt hf) (land_lt hg)]
theorem mj_n {a b c : Nat} (ha : a < 4294967296) (hb : b < 4294967296) (hc : c < 4294967296) : majI (a : Int) (b : Int) (c : Int) = ((Mjn a b c : Nat) : Int) := by
  unfold majI Mjn
  rw [and_n ha hb, and_n ha hc, and_n hb hc, xor_n (land_lt hb) (land_lt hc), xor_n (xor_lt (land_lt hb) (land_lt hc)) (land_lt hc)]
def T1n (e f g h x : Nat) : Nat := Nat.add (Nat.add h (S1n (Nat.mul e 4294967297))) (Nat.add (Chn e f g) x)
def stepN (x : Nat) : List Nat → List Nat
  | [a, b, c, d, e, f, g, h] => [Nat.mod (Nat.add (T1n e f g h x) (Nat.add (S0n (Nat.mul a 4294967297)) (Mjn a b c))) 4294967296, a, b, c, Nat.mod (Nat.add d (T1n e f g h x)) 4294967296, e, f, g]
  | v => v
def OK8 (v : List Nat) : Prop := v.length = 8 ∧ ∀ y ∈ v, y < 4294967296
theorem list8n {v : List Nat} (h : v.length = 8) : ∃ a b c d e f g i, v = [a, b, c, d, e, f, g, i] := by
  match v, h with
  | [a, b, c, d, e, f, g, i], _ => exact ⟨a, b, c, d, e, f, g, i, rfl⟩
theorem stepN_ok {v : List Nat} (h : OK8 v) (x : Nat) : OK8 (stepN x v) := by
  obtain ⟨a, b, c, d, e, f, g, i, rfl⟩ := list8n h.1
  refine ⟨rfl, fun y hy => ?_⟩
  have h := h.2
  simp only [List.mem_cons, List.not_mem_nil, or_false, forall_eq_or_imp, forall_eq] at h
  simp only [stepN, List.mem_cons, List.not_mem_nil, or_false] at hy
  rcases hy with rfl | rfl | rfl | rfl | rfl | rfl | rfl | rfl
  · exact Nat.mod_lt _ (by decide)
  · exact h.1
  · exact h.2.1
  · exact h.2.2.1
  · exact Nat.mod_lt _ (by decide)
  · exact h.2.2.2.2.1
  · exact h.2.2.2.2.2.1
  · exact h.2.2.2.2.2.2.1
theorem rnd1_n {v : List Nat} (h : OK8 v) {K w : List Int} {i x : Nat} (hK : K.getD i 0 = (x : Int)) (hw : w.getD i 0 = 0) : rnd1 K w i (up v) = up (stepN x v) := by
  obtain ⟨a, b, c, d, e, f, g, j, rfl⟩ := list8n h.1
  have h := h.2
  simp only [List.mem_cons, List.not_mem_nil, or_false, forall_eq_or_imp, forall_eq] at h
  obtain ⟨ha, hb, hc, hd, he, hf, hg, hj⟩ := h
  show [addW (addW (addW (addW (addW (j : Int) (bs1 e)) (chI e f g)) (K.getD i 0)) (w.getD i 0)) (addW (bs0 a) (majI a b c)), (a : Int), (b : Int), (c : Int), addW d (addW (addW (addW (addW (j : Int) (bs1 e)) (chI e f g)) (K.getD i 0)) (w.getD i 0)), (e : Int), (f : Int), (g : Int)] = _
  rw [hK, hw, bs1_n he, ch_n he hf hg, bs0_n ha, mj_n ha hb hc, show (0 : Int) = ((0 : Nat) : Int) from rfl, addW_n, addW_n, addW_n, addW_n, addW_n, addW_n, addW_n]
  have e1 : ((((j + S1n (Nat.mul e 4294967297) % 4294967296) % 4294967296 + Chn e f g) % 4294967296 + x) % 4294967296 + 0) % 4294967296 = T1n e f g j x % 4294967296 := by
    unfold T1n
    simp only [Nat.add_eq]
    omega
  rw [e1]
  have e2 : (T1n e f g j x % 4294967296 + (S0n (Nat.mul a 4294967297) % 4294967296 + Mjn a b c) % 4294967296) % 4294967296 = Nat.mod (Nat.add (T1n e f g j x) (Nat.add (S0n (Nat.mul a 4294967297)) (Mjn a b c))) 4294967296 := by
    show _ = (T1n e f g j x + (S0n (Nat.mul a 4294967297) + Mjn a b c)) % 4294967296
    omega
  have e3 : (d + T1n e f g j x % 4294967296) % 4294967296 = Nat.mod (Nat.add d (T1n e f g j x)) 4294967296 := by
    show _ = (d + T1n e f g j x) % 4294967296
    omega
  rw [e2, e3]
  rfl
def KSn : List Nat := [1116352408, 1899447441, 3049323471, 3921009573, 961987163, 1508970993, 2453635748, 2870763221, 3624381080, 310598401, 607225278, 1426881987, 1925078388, 2162078206, 2614888103, 3248222580, 3835390401, 4022224774, 264347078, 604807628, 770255983, 1249150122, 1555081692, 1996064986, 2554220882, 2821834349, 2952996808, 3210313671, 3336571891, 3584528711, 113926993, 338241895, 666307205, 773529912, 1294757372, 1396182291, 1695183700, 1986661051, 2177026350, 2456956037, 2730485921, 2820302411, 3259730800, 3345764771, 3516065817, 3600352804, 4094571909, 275423344, 430227734, 506948616, 659060556, 883997877, 958139571, 1322822218, 1537002063, 1747873779, 1955562222, 2024104815, 2227730452, 2361852424, 2428436474, 2756734187, 3204031479, 3329325298]
theorem addsK_n : addsK = up KSn := by decide +kernel
def runN (ks v : List Nat) : List Nat := ks.foldl (fun v x => stepN x v) v
theorem runN_ok : ∀ (ks : List Nat) {v : List Nat}, OK8 v → OK8 (runN ks v)
  | [], _, h => h
  | x :: ks, v, h => runN_ok ks (stepN_ok h x)
theorem runN_snoc (ks : List Nat) (x : Nat) (v : List Nat) : runN (ks ++ [x]) v = stepN x (runN ks v) := by unfold runN; rw [List.foldl_append]; rfl
theorem rnds_n {v : List Nat} (h : OK8 v) : ∀ k, k ≤ 64 → rnds addsK (List.replicate 64 0) (up v) k = up (runN (KSn.take k) v)
  | 0, _ => rfl
  | k + 1, hk => by
    have hl : KSn.length = 64 := rfl
    have ih := rnds_n h k (by omega)
    have hx : KSn[k]? = some (KSn[k]'(by omega)) := List.getElem?_eq_getElem (by omega)
    rw [rnds, ih, List.take_add_one, hx]
    show _ = up (runN (KSn.take k ++ [KSn[k]'(by omega)]) v)
    rw [runN_snoc]
    refine rnd1_n (runN_ok _ h) ?_ ?_
    · rw [addsK_n]
      unfold up
      rw [List.getD_eq_getElem?_getD, List.getElem?_map, hx]; rfl
    · rw [List.getD_eq_getElem?_getD, List.getElem?_replicate]
      split <;> rfl
def add8 : List Nat → List Nat → List Nat
  | [a, b, c, d, e, f, g, h], [a', b', c', d', e', f', g', h'] => [Nat.mod (Nat.add a a') 4294967296, Nat.mod (Nat.add b b') 4294967296, Nat.mod (Nat.add c c') 4294967296, Nat.mod (Nat.add d d') 4294967296, Nat.mod (Nat.add e e') 4294967296, Nat.mod (Nat.add f f') 4294967296, Nat.mod (Nat.add g g') 4294967296, Nat.mod (Nat.add h h') 4294967296]
  | v, _ => v
theorem add8_ok {u v : List Nat} (hu : OK8 u) (hv : OK8 v) : OK8 (add8 u v) := by
  obtain ⟨a, b, c, d, e, f, g, i, rfl⟩ := list8n hu.1
  obtain ⟨a', b', c', d', e', f', g', i', rfl⟩ := list8n hv.1
  refine ⟨rfl, fun y hy => ?_⟩
  simp only [add8, List.mem_cons, List.not_mem_nil, or_false] at hy
  rcases hy with rfl | rfl | rfl | rfl | rfl | rfl | rfl | rfl <;> exact Nat.mod_lt _ (by decide)
theorem fin8_n {u v : List Nat} (hu : OK8 u) (hv : OK8 v) : fin8 (up u) (up v) 8 = up (add8 u v) := by
  obtain ⟨a, b, c, d, e, f, g, i, rfl⟩ := list8n hu.1
  obtain ⟨a', b', c', d', e', f', g', i', rfl⟩ := list8n hv.1
  show [addW (a : Int) (a' : Int), addW (b : Int) (b' : Int), addW (c : Int) (c' : Int), addW (d : Int) (d' : Int), addW (e : Int) (e' : Int), addW (f : Int) (f' : Int), addW (g : Int) (g' : Int), addW (i : Int) (i' : Int)] = _
  rw [addW_n, addW_n, addW_n, addW_n, addW_n, addW_n, addW_n, addW_n]
  rfl
theorem sch_zero : sch2 (sch1 (List.replicate 64 0) 16) 48 = List.replicate 64 0 := by decide +kernel
/-- A chunk of zeros. -/
def blkL (v : List Nat) : List Nat := add8 v (runN KSn v)
theorem blkL_ok {v : List Nat} (h : OK8 v) : OK8 (blkL v) := add8_ok h (runN_ok _ h)
theorem mixF_zero {v : List Nat} (h : OK8 v) : mixF addsK (up v) (List.replicate 64 0) = up (blkL v) := by
  unfold mixF
  rw [sch_zero, rnds_n h 64 (Nat.le_refl _), List.take_of_length_le (by decide), fin8_n h (runN_ok _ h)]
  rfl
theorem cmpN_zero : ∀ (k : Nat) {v : List Nat} (ys : List Int), OK8 v → cmpN k (up v) (List.replicate (64 * k) 0 ++ ys) = up (Nat.repeat blkL k v)
  | 0, v, ys, h => rfl
  | k + 1, v, ys, h => by
    have e : List.replicate (64 * (k + 1)) (0 : Int) = List.replicate 64 0 ++ List.replicate (64 * k) 0 := by rw [List.replicate_append_replicate]; congr 1; omega
    have hl : (List.replicate 64 (0 : Int)).length = 64 := List.length_replicate
    rw [cmpN, e, List.append_assoc, List.take_append_of_le_length (by rw [hl]; exact Nat.le_refl _), List.take_of_length_le (by rw [hl]; exact Nat.le_refl _), mixF_zero h, List.drop_append_of_le_length (by rw [hl]; exact Nat.le_refl _), List.drop_eq_nil_of_le (by rw [hl]; exact Nat.le_refl _), List.nil_append, cmpN_zero k ys (blkL_ok h)]
    congr 1
    clear e hl h
    induction k generalizing v with
    | zero => rfl
    | succ k ih => show blkL (Nat.repeat blkL k (blkL v)) = blkL (Nat.repeat blkL (k + 1) v); rw [ih]
/-! The same, one number for eight words, each forced before the next: so the kernel reckons it. -/
noncomputable def goN (k : Nat → Nat → Nat → Nat → Nat → Nat → Nat → Nat → Nat) (ks : List Nat) : Nat → Nat → Nat → Nat → Nat → Nat → Nat → Nat → Nat :=
  List.rec (motive := fun _ => Nat → Nat → Nat → Nat → Nat → Nat → Nat → Nat → Nat) k
    (fun x _ ih a b c d e f g h => (fun t1 => ih (Nat.mod (Nat.add t1 (Nat.add (S0n (Nat.mul a 4294967297)) (Mjn a b c))) 4294967296) a b c (Nat.mod (Nat.add d t1) 4294967296) e f g) (T1n e f g h x)) ks
theorem goN_cons (k : Nat → Nat → Nat → Nat → Nat → Nat → Nat → Nat → Nat) (x : Nat) (ks : List Nat) (a b c d e f g h : Nat) : goN k (x :: ks) a b c d e f g h = goN k ks (Nat.mod (Nat.add (T1n e f g h x) (Nat.add (S0n (Nat.mul a 4294967297)) (Mjn a b c))) 4294967296) a b c (Nat.mod (Nat.add d (T1n e f g h x)) 4294967296) e f g := rfl
def app8 (k : Nat → Nat → Nat → Nat → Nat → Nat → Nat → Nat → Nat) : List Nat → Nat
  | [a, b, c, d, e, f, g, h] => k a b c d e f g h
  | _ => 0
theorem runN_cons (x : Nat) (ks v : List Nat) : runN (x :: ks) v = runN ks (stepN x v) := rfl
theorem stepN_eq (x a b c d e f g h : Nat) : stepN x [a, b, c, d, e, f, g, h] = [Nat.mod (Nat.add (T1n e f g h x) (Nat.add (S0n (Nat.mul a 4294967297)) (Mjn a b c))) 4294967296, a, b, c, Nat.mod (Nat.add d (T1n e f g h x)) 4294967296, e, f, g] := rfl
theorem goN_eq (k : Nat → Nat → Nat → Nat → Nat → Nat → Nat → Nat → Nat) (ks : List Nat) : ∀ (a b c d e f g h : Nat), goN k ks a b c d e f g h = app8 k (runN ks [a, b, c, d, e, f, g, h]) := by
  induction ks with
  | nil => intro a b c d e f g h; rfl
  | cons x ks ih => intro a b c d e f g h; rw [goN_cons, ih, runN_cons, stepN_eq]
noncomputable def force (x : Nat) (k : Nat → Nat) : Nat := Nat.rec (k 0) (fun m _ => k (Nat.succ m)) x
theorem force_eq (x : Nat) (k : Nat → Nat) : force x k = k x := by cases x <;> rfl
def wrd (s i : Nat) : Nat := Nat.mod (Nat.shiftRight s (Nat.mul 32 i)) 4294967296
def packN (a b c d e f g h : Nat) : Nat := Nat.add a (Nat.mul 4294967296 (Nat.add b (Nat.mul 4294967296 (Nat.add c (Nat.mul 4294967296 (Nat.add d (Nat.mul 4294967296 (Nat.add e (Nat.mul 4294967296 (Nat.add f (Nat.mul 4294967296 (Nat.add g (Nat.mul 4294967296 h)))))))))))))
theorem wrd_n (s i : Nat) : wrd s i = s / 2 ^ (32 * i) % 4294967296 := by
  unfold wrd
  rw [sh]; rfl
theorem wrd_pack {a b c d e f g h : Nat} (ha : a < 4294967296) (hb : b < 4294967296) (hc : c < 4294967296) (hd : d < 4294967296) (he : e < 4294967296) (hf : f < 4294967296) (hg : g < 4294967296) (hh : h < 4294967296) :
    wrd (packN a b c d e f g h) 0 = a ∧ wrd (packN a b c d e f g h) 1 = b ∧ wrd (packN a b c d e f g h) 2 = c ∧ wrd (packN a b c d e f g h) 3 = d ∧ wrd (packN a b c d e f g h) 4 = e ∧ wrd (packN a b c d e f g h) 5 = f ∧ wrd (packN a b c d e f g h) 6 = g ∧ wrd (packN a b c d e f g h) 7 = h := by
  have e0 : packN a b c d e f g h = a + 4294967296 * (b + 4294967296 * (c + 4294967296 * (d + 4294967296 * (e + 4294967296 * (f + 4294967296 * (g + 4294967296 * h)))))) := rfl
  have dv : ∀ (x y : Nat), x < 4294967296 → (x + 4294967296 * y) / 4294967296 = y := fun x y hx => by omega
  have md : ∀ (x y : Nat), x < 4294967296 → (x + 4294967296 * y) % 4294967296 = x := fun x y hx => by omega
  have pw : ∀ (s i : Nat), s / 2 ^ (32 * (i + 1)) = s / 4294967296 / 2 ^ (32 * i) := fun s i => by
    rw [Nat.div_div_eq_div_mul, show 32 * (i + 1) = 32 + 32 * i by omega, Nat.pow_add]
  have z : ∀ s : Nat, s / 2 ^ (32 * 0) = s := fun s => by simp
  simp only [wrd_n, e0]
  refine ⟨?_, ?_, ?_, ?_, ?_, ?_, ?_, ?_⟩
  · rw [z, md _ _ ha]
  · rw [pw _ 0, dv _ _ ha, z, md _ _ hb]
  · rw [pw _ 1, dv _ _ ha, pw _ 0, dv _ _ hb, z, md _ _ hc]
  · rw [pw _ 2, dv _ _ ha, pw _ 1, dv _ _ hb, pw _ 0, dv _ _ hc, z, md _ _ hd]
  · rw [pw _ 3, dv _ _ ha, pw _ 2, dv _ _ hb, pw _ 1, dv _ _ hc, pw _ 0, dv _ _ hd, z, md _ _ he]
  · rw [pw _ 4, dv _ _ ha, pw _ 3, dv _ _ hb, pw _ 2, dv _ _ hc, pw _ 1, dv _ _ hd, pw _ 0, dv _ _ he, z, md _ _ hf]
  · rw [pw _ 5, dv _ _ ha, pw _ 4, dv _ _ hb, pw _ 3, dv _ _ hc, pw _ 2, dv _ _ hd, pw _ 1, dv _ _ he, pw _ 0, dv _ _ hf, z, md _ _ hg]
  · rw [pw _ 6, dv _ _ ha, pw _ 5, dv _ _ hb, pw _ 4, dv _ _ hc, pw _ 3, dv _ _ hd, pw _ 2, dv _ _ he, pw _ 1, dv _ _ hf, pw _ 0, dv _ _ hg, z, Nat.mod_eq_of_lt hh]
noncomputable def blkN (s : Nat) : Nat := (fun a b c d e f g h => goN (fun a' b' c' d' e' f' g' h' => packN (Nat.mod (Nat.add a a') 4294967296) (Nat.mod (Nat.add b b') 4294967296) (Nat.mod (Nat.add c c') 4294967296) (Nat.mod (Nat.add d d') 4294967296) (Nat.mod (Nat.add e e') 4294967296) (Nat.mod (Nat.add f f') 4294967296) (Nat.mod (Nat.add g g') 4294967296) (Nat.mod (Nat.add h h') 4294967296)) KSn a b c d e f g h) (wrd s 0) (wrd s 1) (wrd s 2) (wrd s 3) (wrd s 4) (wrd s 5) (wrd s 6) (wrd s 7)
def packL : List Nat → Nat := app8 packN
theorem app8_add {a b c d e f g h : Nat} {v : List Nat} (hv : v.length = 8) : app8 (fun a' b' c' d' e' f' g' h' => packN (Nat.mod (Nat.add a a') 4294967296) (Nat.mod (Nat.add b b') 4294967296) (Nat.mod (Nat.add c c') 4294967296) (Nat.mod (Nat.add d d') 4294967296) (Nat.mod (Nat.add e e') 4294967296) (Nat.mod (Nat.add f f') 4294967296) (Nat.mod (Nat.add g g') 4294967296) (Nat.mod (Nat.add h h') 4294967296)) v = packL (add8 [a, b, c, d, e, f, g, h] v) := by
  obtain ⟨a', b', c', d', e', f', g', i', rfl⟩ := list8n hv
  rfl
theorem blkN_eq {v : List Nat} (h : OK8 v) : blkN (packL v) = packL (blkL v) := by
  obtain ⟨a, b, c, d, e, f, g, i, rfl⟩ := list8n h.1
  have h2 := h.2
  simp only [List.mem_cons, List.not_mem_nil, or_false, forall_eq_or_imp, forall_eq] at h2
  obtain ⟨ha, hb, hc, hd, he, hf, hg, hj⟩ := h2
  obtain ⟨w0, w1, w2, w3, w4, w5, w6, w7⟩ := wrd_pack ha hb hc hd he hf hg hj
  show blkN (packN a b c d e f g i) = _
  unfold blkN
  rw [w0, w1, w2, w3, w4, w5, w6, w7]
  show goN _ KSn a b c d e f g i = _
  rw [goN_eq, app8_add (runN_ok KSn h).1]
  rfl
noncomputable def iterN (n : Nat) : Nat → Nat := Nat.rec (fun s => s) (fun _ ih s => force (blkN s) ih) n
theorem iterN_eq : ∀ (n : Nat) {v : List Nat}, OK8 v → iterN n (packL v) = packL (Nat.repeat blkL n v) ∧ OK8 (Nat.repeat blkL n v)
  | 0, v, h => ⟨rfl, h⟩
  | n + 1, v, h => by
    have e : Nat.repeat blkL (n + 1) v = Nat.repeat blkL n (blkL v) := by
      clear h
      induction n generalizing v with
      | zero => rfl
      | succ n ih => show blkL (Nat.repeat blkL (n + 1) v) = blkL (Nat.repeat blkL n (blkL v)); rw [ih]
    rw [e]
    have ih := iterN_eq n (blkL_ok h)
    refine ⟨?_, ih.2⟩
    show force (blkN (packL v)) (iterN n) = _
    rw [force_eq, blkN_eq h, ih.1]
theorem iterN_add (m : Nat) : ∀ (n s : Nat), iterN (n + m) s = iterN m (iterN n s)
  | 0, s => by rw [Nat.zero_add]; rfl
  | n + 1, s => by
    rw [show n + 1 + m = (n + m) + 1 by omega]
    show force (blkN s) (iterN (n + m)) = iterN m (force (blkN s) (iterN n))
    rw [force_eq, force_eq, iterN_add m n]
def unpL (s : Nat) : List Nat := [wrd s 0, wrd s 1, wrd s 2, wrd s 3, wrd s 4, wrd s 5, wrd s 6, wrd s 7]
theorem unp_pack {v : List Nat} (h : OK8 v) : unpL (packL v) = v := by
  obtain ⟨a, b, c, d, e, f, g, i, rfl⟩ := list8n h.1
  have h2 := h.2
  simp only [List.mem_cons, List.not_mem_nil, or_false, forall_eq_or_imp, forall_eq] at h2
  obtain ⟨ha, hb, hc, hd, he, hf, hg, hj⟩ := h2
  obtain ⟨w0, w1, w2, w3, w4, w5, w6, w7⟩ := wrd_pack ha hb hc hd he hf hg hj
  show [wrd (packN a b c d e f g i) 0, wrd (packN a b c d e f g i) 1, wrd (packN a b c d e f g i) 2, wrd (packN a b c d e f g i) 3, wrd (packN a b c d e f g i) 4, wrd (packN a b c d e f g i) 5, wrd (packN a b c d e f g i) 6, wrd (packN a b c d e f g i) 7] = _
  rw [w0, w1, w2, w3, w4, w5, w6, w7]
end Go.Proofs.YtnaadddnbfnahaaDoor
