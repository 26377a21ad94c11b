/- The digests of two long rows of zeros. Printed by gen.py. -/
import Derived.Test.YtnaadddnbfnahaaDoorZ1
set_option linter.unusedVariables false
set_option linter.unusedSimpArgs false
set_option maxRecDepth 100000
namespace Go.Proofs.YtnaadddnbfnahaaDoor
open Go Go.RowKit Go.Proofs
theorem iter_step {n m s t u : Nat} (h1 : iterN n s = t) (h2 : iterN m t = u) : iterN (n + m) s = u := by rw [iterN_add, h1, h2]
theorem z_first : mixF addsK beginK (be8 7 ++ List.replicate 56 0) = up [2538168218, 3169808742, 3408150617, 887387275, 880819835, 928262616, 981001775, 1484528329] := by decide +kernel
theorem z_0 : iterN 1024 40022804581872106431284498492689101805673444352119487146036577142367756836762 = 5389265261941049994843058874450504643295986758061009637917412421815747073930 := Nat.eq_of_beq_eq_true (by decide +kernel)
theorem z_1 : iterN 1024 5389265261941049994843058874450504643295986758061009637917412421815747073930 = 4709027880419121257550263919117753798172467926199532746129786895520108373693 := Nat.eq_of_beq_eq_true (by decide +kernel)
theorem z_2 : iterN 1024 4709027880419121257550263919117753798172467926199532746129786895520108373693 = 23412451424220843426049663855857150080758231068912883269777246468451379105191 := Nat.eq_of_beq_eq_true (by decide +kernel)
theorem z_3 : iterN 1024 23412451424220843426049663855857150080758231068912883269777246468451379105191 = 51070820856081595978431050454745109338425738428330850313380679655920789409428 := Nat.eq_of_beq_eq_true (by decide +kernel)
theorem z_4 : iterN 1024 51070820856081595978431050454745109338425738428330850313380679655920789409428 = 886907503041808655569119433910645997538793155629167261096797346797798446575 := Nat.eq_of_beq_eq_true (by decide +kernel)
theorem z_5 : iterN 1024 886907503041808655569119433910645997538793155629167261096797346797798446575 = 74811605499582534951763947519847070969241708270909964022386631814073708508228 := Nat.eq_of_beq_eq_true (by decide +kernel)
theorem z_6 : iterN 1024 74811605499582534951763947519847070969241708270909964022386631814073708508228 = 84296639860272248402296727668690679734721741317649390500325901550449369409965 := Nat.eq_of_beq_eq_true (by decide +kernel)
theorem z_7 : iterN 1024 84296639860272248402296727668690679734721741317649390500325901550449369409965 = 47594417179421073457819903052645781367413631298413241233155222938732580247403 := Nat.eq_of_beq_eq_true (by decide +kernel)
theorem z_8 : iterN 1024 47594417179421073457819903052645781367413631298413241233155222938732580247403 = 19023482262210308969511953120479509775465821489723889855206135427266547916381 := Nat.eq_of_beq_eq_true (by decide +kernel)
theorem z_9 : iterN 1024 19023482262210308969511953120479509775465821489723889855206135427266547916381 = 112234797143039188108279037637367319577595674008133744969676426767588615775022 := Nat.eq_of_beq_eq_true (by decide +kernel)
theorem z_10 : iterN 1024 112234797143039188108279037637367319577595674008133744969676426767588615775022 = 50430540541447029411717957226769136689376954064185060128468576499368746970633 := Nat.eq_of_beq_eq_true (by decide +kernel)
theorem z_11 : iterN 1024 50430540541447029411717957226769136689376954064185060128468576499368746970633 = 5641102284901995050848637570480346849293936325522697812968078175799617080546 := Nat.eq_of_beq_eq_true (by decide +kernel)
theorem z_12 : iterN 1024 5641102284901995050848637570480346849293936325522697812968078175799617080546 = 48886374591756050021287641710481172425743724955438555373579944449684858070659 := Nat.eq_of_beq_eq_true (by decide +kernel)
theorem z_13 : iterN 1024 48886374591756050021287641710481172425743724955438555373579944449684858070659 = 93693758187313239582180932764947267374953074472584129188731813525171525327899 := Nat.eq_of_beq_eq_true (by decide +kernel)
theorem z_14 : iterN 1024 93693758187313239582180932764947267374953074472584129188731813525171525327899 = 15921122476425119675969257340599763681474442518997913498743928341040456714919 := Nat.eq_of_beq_eq_true (by decide +kernel)
theorem z_15 : iterN 1023 15921122476425119675969257340599763681474442518997913498743928341040456714919 = 53867165708272652765866662574539175472055318679816071269999443335859037955918 := Nat.eq_of_beq_eq_true (by decide +kernel)
theorem z_all : iterN (1024 + (1024 + (1024 + (1024 + (1024 + (1024 + (1024 + (1024 + (1024 + (1024 + (1024 + (1024 + (1024 + (1024 + (1024 + 1023))))))))))))))) 40022804581872106431284498492689101805673444352119487146036577142367756836762 = 53867165708272652765866662574539175472055318679816071269999443335859037955918 := (iter_step z_0 (iter_step z_1 (iter_step z_2 (iter_step z_3 (iter_step z_4 (iter_step z_5 (iter_step z_6 (iter_step z_7 (iter_step z_8 (iter_step z_9 (iter_step z_10 (iter_step z_11 (iter_step z_12 (iter_step z_13 (iter_step z_14 z_15)))))))))))))))
theorem z_sum : (1024 + (1024 + (1024 + (1024 + (1024 + (1024 + (1024 + (1024 + (1024 + (1024 + (1024 + (1024 + (1024 + (1024 + (1024 + 1023))))))))))))))) = 16383 := rfl
theorem z_pack : packL [2538168218, 3169808742, 3408150617, 887387275, 880819835, 928262616, 981001775, 1484528329] = 40022804581872106431284498492689101805673444352119487146036577142367756836762 := by decide +kernel
theorem z_ok : OK8 [2538168218, 3169808742, 3408150617, 887387275, 880819835, 928262616, 981001775, 1484528329] := ⟨rfl, by decide⟩
theorem z_unp : unpL 53867165708272652765866662574539175472055318679816071269999443335859037955918 = [1988257614, 2791290577, 1518753831, 3244914314, 2239328251, 3851165241, 2801326757, 1998044223] := by decide +kernel
theorem z_rep : Nat.repeat blkL 16383 [2538168218, 3169808742, 3408150617, 887387275, 880819835, 928262616, 981001775, 1484528329] = [1988257614, 2791290577, 1518753831, 3244914314, 2239328251, 3851165241, 2801326757, 1998044223] := by
  obtain ⟨h1, h2⟩ := iterN_eq 16383 z_ok
  have h3 := z_all
  rw [z_sum, ← z_pack, h1] at h3
  rw [← unp_pack h2, h3]
  exact z_unp
theorem padded_zeros (k r z n : Nat) (hn : n = 56 + (64 * k + r)) (hz : padZ (8 + n) = z) : padded (be8 7 ++ List.replicate n 0) = (be8 7 ++ List.replicate 56 0) ++ (List.replicate (64 * k) 0 ++ (List.replicate r 0 ++ ([128] ++ List.replicate z 0 ++ lenB (8 + n)))) := by
  have hl : (be8 7 ++ List.replicate n (0 : Int)).length = 8 + n := by rw [List.length_append, be8_length, List.length_replicate]
  have e : List.replicate n (0 : Int) = List.replicate 56 0 ++ (List.replicate (64 * k) 0 ++ List.replicate r 0) := by rw [List.replicate_append_replicate, List.replicate_append_replicate, hn]
  unfold padded
  rw [hl, hz, e]
  simp only [List.append_assoc]
theorem cmp_zeros (k r z n : Nat) {v : List Nat} (hv : OK8 v) (h1 : mixF addsK beginK (be8 7 ++ List.replicate 56 0) = up v) (hn : n = 56 + (64 * k + r)) (hz : padZ (8 + n) = z) (hrz : r + 1 + z + 8 = 64) :
    cmp (padded (be8 7 ++ List.replicate n 0)) = mixF addsK (up (Nat.repeat blkL k v)) (List.replicate r 0 ++ ([128] ++ List.replicate z 0 ++ lenB (8 + n))) := by
  rw [padded_zeros k r z n hn hz]
  obtain ⟨B0, hB0⟩ : ∃ B0, B0 = be8 7 ++ List.replicate 56 (0 : Int) := ⟨_, rfl⟩
  obtain ⟨L, hL⟩ : ∃ L, L = List.replicate r (0 : Int) ++ ([128] ++ List.replicate z 0 ++ lenB (8 + n)) := ⟨_, rfl⟩
  have lB : B0.length = 64 := by rw [hB0, List.length_append, be8_length, List.length_replicate]
  have lL : L.length = 64 := by rw [hL]; simp only [List.length_append, List.length_replicate, lenB_length, List.length_singleton]; omega
  rw [← hB0] at h1 ⊢
  rw [← hL]
  have lZ : (List.replicate (64 * k) (0 : Int)).length = 64 * k := List.length_replicate
  have ln : (B0 ++ (List.replicate (64 * k) 0 ++ L)).length / 64 = 1 + (k + 1) := by rw [List.length_append, List.length_append, lB, lZ, lL]; omega
  unfold cmp
  rw [ln, cmpN_add 1 (k + 1)]
  have d1 : (B0 ++ (List.replicate (64 * k) 0 ++ L)).drop (64 * 1) = List.replicate (64 * k) 0 ++ L := by rw [List.drop_append_of_le_length (by rw [lB]; exact Nat.le_refl _), List.drop_eq_nil_of_le (by rw [lB]; exact Nat.le_refl _)]; rfl
  have c1 : cmpN 1 beginK (B0 ++ (List.replicate (64 * k) 0 ++ L)) = up v := by
    have c0 : ∀ s X, cmpN 0 s X = s := fun _ _ => rfl
    rw [cmpN_succ 0, c0, Nat.mul_zero, List.drop_zero, List.take_append_of_le_length (by rw [lB]; exact Nat.le_refl _), List.take_of_length_le (by rw [lB]; exact Nat.le_refl _), h1]
  rw [d1, c1, cmpN_succ, cmpN_zero k L hv]
  have d2 : (List.replicate (64 * k) 0 ++ L).drop (64 * k) = L := by rw [List.drop_append_of_le_length (by rw [lZ]; exact Nat.le_refl _), List.drop_eq_nil_of_le (by rw [lZ]; exact Nat.le_refl _)]; rfl
  rw [d2, List.take_of_length_le (by rw [lL]; exact Nat.le_refl _)]
theorem seal_gen (k r z n : Nat) {v w : List Nat} (hv : OK8 v) (h1 : mixF addsK beginK (be8 7 ++ List.replicate 56 0) = up v) (hrep : Nat.repeat blkL k v = w) (hn : n = 56 + (64 * k + r)) (hz : padZ (8 + n) = z) (hrz : r + 1 + z + 8 = 64) : sealH 7 (List.replicate n 0) = (outB (mixF addsK (up w) (List.replicate r 0 ++ ([128] ++ List.replicate z 0 ++ lenB (8 + n))))).take 16 := by
  unfold sealH sha
  rw [cmp_zeros k r z n hv h1 hn hz hrz, hrep]
theorem z_out7 : (outB (mixF addsK (up [1988257614, 2791290577, 1518753831, 3244914314, 2239328251, 3851165241, 2801326757, 1998044223]) (List.replicate 7 0 ++ ([128] ++ List.replicate 48 0 ++ lenB (8 + 1048575))))).take 16 = [73, 87, 29, 121, 145, 34, 82, 6, 25, 183, 213, 130, 219, 88, 129, 179] := by decide +kernel
theorem seal_1048575 : sealH 7 (List.replicate 1048575 0) = [73, 87, 29, 121, 145, 34, 82, 6, 25, 183, 213, 130, 219, 88, 129, 179] := (seal_gen 16383 7 48 1048575 z_ok z_first z_rep (by decide) (by decide) (by decide)).trans z_out7
theorem z_out8 : (outB (mixF addsK (up [1988257614, 2791290577, 1518753831, 3244914314, 2239328251, 3851165241, 2801326757, 1998044223]) (List.replicate 8 0 ++ ([128] ++ List.replicate 47 0 ++ lenB (8 + 1048576))))).take 16 = [95, 112, 183, 80, 237, 202, 150, 138, 17, 63, 217, 143, 65, 113, 234, 174] := by decide +kernel
theorem seal_1048576 : sealH 7 (List.replicate 1048576 0) = [95, 112, 183, 80, 237, 202, 150, 138, 17, 63, 217, 143, 65, 113, 234, 174] := (seal_gen 16383 8 47 1048576 z_ok z_first z_rep (by decide) (by decide) (by decide)).trans z_out8
theorem seals_differ : sealH 7 (List.replicate 1048575 0) ≠ sealH 7 (List.replicate 1048576 0) := by rw [seal_1048575, seal_1048576]; decide
end Go.Proofs.YtnaadddnbfnahaaDoor
