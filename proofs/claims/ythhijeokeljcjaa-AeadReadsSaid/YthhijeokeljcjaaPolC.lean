/- poly: a product of two limbs added to a number. -/
import Derived.Test.YthhijeokeljcjaaPolB
namespace Go.Proofs.Ythhijeokeljcjaa
set_option linter.unusedVariables false
set_option linter.unusedSimpArgs false
open Go.RowKit Go.Proofs.YthhijeokeljcjaaL

abbrev T4 : Nat := 72
/-- One limb added to, with what is carried in and out. -/
theorem limb_step (Z : List Int) (i : Nat) (y c : Int) (hi : i < Z.length) :
    numB B64 (Z.set i ((Z.getD i 0 + y + c) % B64)) + B64 ^ (i + 1) * ((Z.getD i 0 + y + c) / B64) = numB B64 Z + B64 ^ i * (y + c) := by
  rw [numB_set B64 Z i _ hi, Int.pow_succ, Int.mul_assoc, Int.add_assoc, ← Int.mul_add]
  have h := Int.emod_add_mul_ediv (Z.getD i 0 + y + c) B64
  congr 2
  omega
theorem digB_of (Z : List Int) (T : Int) (i : Nat) (c : Int) (hi : 4 ≤ i) (hl : Z.length = 4) (ho : okB B64 Z) (h : (numB B64 Z + B64 ^ i * c) % B64 ^ 4 = T % B64 ^ 4) : Z = digB B64 4 T := by
  have h1 := digB_numB (B := B64) (by decide) Z ho
  rw [hl, ← digB_mod (by decide) 4] at h1
  have e : B64 ^ i = B64 ^ 4 * B64 ^ (i - 4) := by rw [← Int.pow_add]; congr 1; omega
  rw [e, Int.mul_assoc, Int.add_mul_emod_self_left] at h
  rw [h, digB_mod (by decide)] at h1
  exact h1.symm
theorem div_small (s : Int) (h0 : 0 ≤ s) (h1 : s < B64 + B64) : 0 ≤ s / B64 ∧ s / B64 ≤ 1 := by
  have : s / B64 < 2 := Int.ediv_lt_of_lt_mul (by decide) (by omega)
  exact ⟨Int.ediv_nonneg h0 (by decide), by omega⟩
theorem mod_small (s : Int) : 0 ≤ s % B64 ∧ s % B64 < B64 := ⟨Int.emod_nonneg _ (by decide), Int.emod_lt_of_pos _ (by decide)⟩

set_option maxHeartbeats 2000000 in
set_option maxRecDepth 100000 in
theorem padd_any (bx at_ : Nat) (X : List Int) (a b : Int) (w : World) (hbx : w.heap[bx]? = some (.cells (encK .u64 X) T4 (0, 0))) (hat : at_ ≤ 3) (hX : X.length = 4) (hoX : okB B64 X) (ha0 : 0 ≤ a) (ha1 : a < B64) (hb0 : 0 ≤ b) (hb1 : b < B64) :
    Calls Try.prog 41 #[.pointer (some ⟨bx, 0, none⟩), .int .i64 at_, .int .u64 a, .int .u64 b] w fun e w' => e = .returned (.tuple #[]) ∧ w'.heap[bx]? = some (.cells (encK .u64 (digB B64 4 (numB B64 X + B64 ^ at_ * (a * b)))) T4 (0, 0)) ∧ w.grownBy w' (some bx) := by
  have HX := Lib.hid hX
  have HOX := Lib.hid hoX
  have HBX := Lib.hid hbx
  have hm := mul64_range a b ha0 ha1 hb0 hb1
  obtain ⟨T, hT⟩ : ∃ T, T = numB B64 X + B64 ^ at_ * (a * b) := ⟨_, rfl⟩
  rw [← hT]
  have HT := Lib.hid hT
  clear hX hoX hbx hT
  go_enter Try.func41, Try.ntmps41
  go_wp2_with fail
  refine (mul64_int a b ha0 ha1 hb0 hb1 _).mono ?_
  rintro e w1 ⟨rfl, hw1⟩
  obtain ⟨hi, hhi⟩ : ∃ h, h = a * b / B64 := ⟨_, rfl⟩
  obtain ⟨lo, hlo⟩ : ∃ h, h = a * b % B64 := ⟨_, rfl⟩
  rw [← hhi, ← hlo] at hm ⊢
  obtain ⟨h1, h2, h3, h4, h5⟩ := hm
  have HM := Lib.hid h5
  have R1 : Hid (w1.heap[bx]? = some (.cells (encK .u64 X) T4 (0, 0))) := by rw [hw1]; exact HBX.out
  have HG1 : Hid (w.grownBy w1 (some bx)) := by rw [hw1]; exact grown_refl _ _
  clear hhi hlo h5 hw1 HBX
  have hat4 : (at_ : Int) < 4 := by omega
  have hat0 : 0 ≤ (at_ : Int) := by omega
  obtain ⟨y, hy⟩ : ∃ y, y = X.getD at_ 0 := ⟨_, rfl⟩
  have hy0 := ok_getD (by decide) HOX.out at_
  have e1 := rowK_at R1.out at_ (by rw [HX.out]; omega)
  rw [← hy] at hy0 e1
  have HY := Lib.hid hy
  clear hy
  go_wp2_with fail
  refine wp_region_grow [(2, 0), (2, 1), (2, 2), (2, 3), (2, 4), (2, 5), (1, 6), (2, 7), (2, 8), (2, 9), (2, 10), (2, 11), (2, 12), (2, 13), (3, 14), (2, 15)] (by kernel_rfl) (by kernel_rfl) (fun _ _ _ _ _ h => h) (fun _ _ _ _ _ h => h) ?_
  refine gSeq_name fun w4 hw4 => ?_
  have g4 : w1.grownBy w4 none := by rw [hw4]; exact grown_drew _ _
  have E1 := Lib.hid (g4.cell e1 (by simp))
  have R2 := Lib.hid (row_keep R1.out g4)
  have HG2 := Lib.hid (grown_trans HG1.out (grown_weak g4))
  clear e1 g4 hw4 R1 HG1
  have hadd := fun w => add64_run y lo 0 hy0.1 h3 (by decide) (by decide) w
  (repeat (first | (refine gSeq_skip rfl (by rfl) ?_; (try simp only [Act.put, Act.eval, List.setIfInBounds_toArray, List.set_cons_zero, List.set_cons_succ, Array.getD_eq_getD_getElem?, List.getElem?_toArray, List.getElem?_cons_succ, List.getElem?_cons_zero, Option.getD_some])) | (refine gSeq_move _ rfl rfl (by rfl) ?_; (try simp only [Act.put, Act.eval, List.setIfInBounds_toArray, List.set_cons_zero, List.set_cons_succ, Array.getD_eq_getD_getElem?, List.getElem?_toArray, List.getElem?_cons_succ, List.getElem?_cons_zero, Option.getD_some])) | (refine gSeq_assign _ rfl rfl (by rfl) ?_; (try simp only [Act.put, Act.eval, List.setIfInBounds_toArray, List.set_cons_zero, List.set_cons_succ, Array.getD_eq_getD_getElem?, List.getElem?_toArray, List.getElem?_cons_succ, List.getElem?_cons_zero, Option.getD_some])) | (fail) | (refine gSeq_pure rfl (by rfl) ?_ ?_ ?_; (rotate_left; (intro w'; (try (have d1 := hG.cell E1.out (by simp))); go_simp; (first | done | with_reducible rfl)); (try simp only [Act.put, Act.eval, List.setIfInBounds_toArray, List.set_cons_zero, List.set_cons_succ, Array.getD_eq_getD_getElem?, List.getElem?_toArray, List.getElem?_cons_succ, List.getElem?_cons_zero, Option.getD_some]))) | (refine gSeq_still rfl (by rfl) ?_ ?_ ?_; (rotate_left; (intro w' hG; (try (have d1 := hG.cell E1.out (by simp))); go_simp; (first | done | with_reducible rfl)); (try simp only [Act.put, Act.eval, List.setIfInBounds_toArray, List.set_cons_zero, List.set_cons_succ, Array.getD_eq_getD_getElem?, List.getElem?_toArray, List.getElem?_cons_succ, List.getElem?_cons_zero, Option.getD_some])))))
  have hst := limb_step X at_ lo 0 (by rw [HX.out]; omega)
  rw [← HY.out, Int.add_zero, Int.add_zero] at hst
  have hq0 := div_small (y + lo) (by omega) (by omega)
  have hq1 := mod_small (y + lo)
  obtain ⟨L1, hL1⟩ : ∃ z, z = (y + lo) % 18446744073709551616 := ⟨_, rfl⟩
  obtain ⟨C1, hC1⟩ : ∃ z, z = (y + lo) / 18446744073709551616 := ⟨_, rfl⟩
  rw [show (y + lo) % B64 = L1 from hL1.symm] at hq1 hst
  rw [show (y + lo) / B64 = C1 from hC1.symm] at hq0 hst
  rw [← hL1, ← hC1]
  have HST := Lib.hid hst
  clear hL1 hC1 hst hadd
  refine gSeq_store rfl (by rfl) _ _ _ rfl bx at_ _ rfl rfl _ _ R2.out (by rw [size_encK, HX.out]; omega) (by kernel_rfl) rfl rfl ?_
  intro w5 r5 g5
  (try simp only [Act.put, Act.eval, List.setIfInBounds_toArray, List.set_cons_zero, List.set_cons_succ, Array.getD_eq_getD_getElem?, List.getElem?_toArray, List.getElem?_cons_succ, List.getElem?_cons_zero, Option.getD_some])
  (repeat (first | (refine gSeq_skip rfl (by rfl) ?_; (try simp only [Act.put, Act.eval, List.setIfInBounds_toArray, List.set_cons_zero, List.set_cons_succ, Array.getD_eq_getD_getElem?, List.getElem?_toArray, List.getElem?_cons_succ, List.getElem?_cons_zero, Option.getD_some])) | (refine gSeq_move _ rfl rfl (by rfl) ?_; (try simp only [Act.put, Act.eval, List.setIfInBounds_toArray, List.set_cons_zero, List.set_cons_succ, Array.getD_eq_getD_getElem?, List.getElem?_toArray, List.getElem?_cons_succ, List.getElem?_cons_zero, Option.getD_some])) | (refine gSeq_assign _ rfl rfl (by rfl) ?_; (try simp only [Act.put, Act.eval, List.setIfInBounds_toArray, List.set_cons_zero, List.set_cons_succ, Array.getD_eq_getD_getElem?, List.getElem?_toArray, List.getElem?_cons_succ, List.getElem?_cons_zero, Option.getD_some])) | (fail) | (refine gSeq_pure rfl (by rfl) ?_ ?_ ?_; (rotate_left; (intro w'; (skip); go_simp; (first | done | with_reducible rfl)); (try simp only [Act.put, Act.eval, List.setIfInBounds_toArray, List.set_cons_zero, List.set_cons_succ, Array.getD_eq_getD_getElem?, List.getElem?_toArray, List.getElem?_cons_succ, List.getElem?_cons_zero, Option.getD_some]))) | (refine gSeq_still rfl (by rfl) ?_ ?_ ?_; (rotate_left; (intro w' hG; (skip); go_simp; (first | done | with_reducible rfl)); (try simp only [Act.put, Act.eval, List.setIfInBounds_toArray, List.set_cons_zero, List.set_cons_succ, Array.getD_eq_getD_getElem?, List.getElem?_toArray, List.getElem?_cons_succ, List.getElem?_cons_zero, Option.getD_some])))))
  refine gSeq_nil ?_
  obtain ⟨X1, hX1⟩ : ∃ Z, Z = X.set at_ L1 := ⟨_, rfl⟩
  have r6 := rowK_set r5
  rw [← hX1] at r6 HST
  have HX1 := Lib.hid (show X1.length = 4 by rw [hX1, List.length_set]; exact HX.out)
  have HO1 := Lib.hid (show okB B64 X1 by rw [hX1]; exact ok_set HOX.out _ _ hq1.1 hq1.2)
  have R3 := Lib.hid r6
  have HG3 := Lib.hid (grown_trans HG2.out g5)
  clear r5 r6 g5 R2 HG2 hX1 hq1 HY HX HOX E1
  by_cases h3' : at_ = 3
  · subst h3'
    have hfin : X1 = digB B64 4 T := by
      refine digB_of X1 T 4 C1 (by omega) HX1.out HO1.out ?_
      have q1 := HST.out
      have q2 := HM.out
      rw [HT.out, ← q2, q1, show B64 ^ 3 * (B64 * hi + lo) = B64 ^ 3 * lo + B64 ^ 4 * hi by rw [Int.mul_add, ← Int.mul_assoc, Int.add_comm]; rfl, ← Int.add_assoc, Int.add_mul_emod_self_left]
    have R3' := R3.out
    rw [hfin] at R3'
    have R4 := Lib.hid R3'
    clear hfin R3 R3' HST
    go_wp2_with fail
    go_loopw [11, 10] (fun i_ c_ wr => ∃ (c : Int), i_ = .int .i64 5 ∧ c_ = .int .u64 c ∧ wr.heap[bx]? = some (.cells (encK .u64 (digB B64 4 T)) T4 (0, 0)) ∧ w.grownBy wr (some bx)) (fun v _ _ => 0)
    case atStart => exact ⟨C1, by rfl, rfl, R4.out, HG3.out⟩
    case round =>
      obtain ⟨c, rfl, rfl, r1, hg⟩ := hrel
      have R5 := Lib.hid r1
      have HG5 := Lib.hid hg
      clear r1 hg R4 HG3
      go_wp2_with fail
      exact bodyPost_end (by simp [results, show Try.f41.results = #[] from rfl]) rfl ⟨rfl, R5.out, HG5.out⟩
  · have hat2 : at_ ≤ 2 := by omega
    have hat3 : (at_ : Int) + 1 < 4 := by omega
    obtain ⟨u, hu⟩ : ∃ u, u = X1.getD (at_ + 1) 0 := ⟨_, rfl⟩
    have hu0 := ok_getD (by decide) HO1.out (at_ + 1)
    have e1 := rowK_at R3.out (at_ + 1) (by rw [HX1.out]; omega)
    rw [← hu] at hu0 e1
    have HU := Lib.hid hu
    clear hu
    go_wp2_with fail
    refine wp_region_grow [(2, 0), (2, 1), (2, 2), (2, 3), (2, 4), (2, 5), (2, 6), (2, 7), (1, 8), (2, 9), (2, 10), (2, 11), (2, 12), (2, 13), (2, 14), (2, 15), (2, 16), (3, 17), (2, 18)] (by kernel_rfl) (by kernel_rfl) (fun _ _ _ _ _ h => h) (fun _ _ _ _ _ h => h) ?_
    refine gSeq_name fun w4 hw4 => ?_
    have g4 : w5.grownBy w4 none := by rw [hw4]; exact grown_drew _ _
    have E1 := Lib.hid (g4.cell e1 (by simp))
    have R4 := Lib.hid (row_keep R3.out g4)
    have HG4 := Lib.hid (grown_trans HG3.out (grown_weak g4))
    clear e1 g4 hw4 R3 HG3
    have hwk : IntKind.i64.wrap ((at_ : Int) + 1) = (at_ : Int) + 1 := IntWalk.i64_in _ (by omega)
    have htn : ((at_ : Int) + 1).toNat = at_ + 1 := by omega
    have hge : 0 ≤ (at_ : Int) + 1 := by omega
    have hhi1 : hi < B64 := by omega
    have hadd := fun w => add64_run u hi C1 hu0.1 h1 hq0.1 hq0.2 w
    (repeat (first | (refine gSeq_skip rfl (by rfl) ?_; (try simp only [Act.put, Act.eval, List.setIfInBounds_toArray, List.set_cons_zero, List.set_cons_succ, Array.getD_eq_getD_getElem?, List.getElem?_toArray, List.getElem?_cons_succ, List.getElem?_cons_zero, Option.getD_some])) | (refine gSeq_move _ rfl rfl (by rfl) ?_; (try simp only [Act.put, Act.eval, List.setIfInBounds_toArray, List.set_cons_zero, List.set_cons_succ, Array.getD_eq_getD_getElem?, List.getElem?_toArray, List.getElem?_cons_succ, List.getElem?_cons_zero, Option.getD_some])) | (refine gSeq_assign _ rfl rfl (by rfl) ?_; (try simp only [Act.put, Act.eval, List.setIfInBounds_toArray, List.set_cons_zero, List.set_cons_succ, Array.getD_eq_getD_getElem?, List.getElem?_toArray, List.getElem?_cons_succ, List.getElem?_cons_zero, Option.getD_some])) | (fail) | (refine gSeq_pure rfl (by rfl) ?_ ?_ ?_; (rotate_left; (intro w'; (try (have d1 := hG.cell E1.out (by simp))); go_simp; (first | done | with_reducible rfl)); (try simp only [Act.put, Act.eval, List.setIfInBounds_toArray, List.set_cons_zero, List.set_cons_succ, Array.getD_eq_getD_getElem?, List.getElem?_toArray, List.getElem?_cons_succ, List.getElem?_cons_zero, Option.getD_some]))) | (refine gSeq_still rfl (by rfl) ?_ ?_ ?_; (rotate_left; (intro w' hG; (try (have d1 := hG.cell E1.out (by simp))); go_simp; (first | done | with_reducible rfl)); (try simp only [Act.put, Act.eval, List.setIfInBounds_toArray, List.set_cons_zero, List.set_cons_succ, Array.getD_eq_getD_getElem?, List.getElem?_toArray, List.getElem?_cons_succ, List.getElem?_cons_zero, Option.getD_some])))))
    have hst := limb_step X1 (at_ + 1) hi C1 (by rw [HX1.out]; omega)
    rw [← HU.out] at hst
    have hqq0 := div_small (u + hi + C1) (by omega) (by omega)
    have hqq1 := mod_small (u + hi + C1)
    obtain ⟨L2, hL2⟩ : ∃ z, z = (u + hi + C1) % 18446744073709551616 := ⟨_, rfl⟩
    obtain ⟨C2, hC2⟩ : ∃ z, z = (u + hi + C1) / 18446744073709551616 := ⟨_, rfl⟩
    rw [show (u + hi + C1) % B64 = L2 from hL2.symm] at hqq1 hst
    rw [show (u + hi + C1) / B64 = C2 from hC2.symm] at hqq0 hst
    rw [← hL2, ← hC2]
    have HST2 := Lib.hid hst
    clear hL2 hC2 hst hadd hwk htn hge hhi1
    refine gSeq_store rfl (by rfl) _ _ _ rfl bx (at_ + 1) _ rfl rfl _ _ R4.out (by rw [size_encK, HX1.out]; omega) (by kernel_rfl) rfl rfl ?_
    intro w6 r5 g5
    (try simp only [Act.put, Act.eval, List.setIfInBounds_toArray, List.set_cons_zero, List.set_cons_succ, Array.getD_eq_getD_getElem?, List.getElem?_toArray, List.getElem?_cons_succ, List.getElem?_cons_zero, Option.getD_some])
    (repeat (first | (refine gSeq_skip rfl (by rfl) ?_; (try simp only [Act.put, Act.eval, List.setIfInBounds_toArray, List.set_cons_zero, List.set_cons_succ, Array.getD_eq_getD_getElem?, List.getElem?_toArray, List.getElem?_cons_succ, List.getElem?_cons_zero, Option.getD_some])) | (refine gSeq_move _ rfl rfl (by rfl) ?_; (try simp only [Act.put, Act.eval, List.setIfInBounds_toArray, List.set_cons_zero, List.set_cons_succ, Array.getD_eq_getD_getElem?, List.getElem?_toArray, List.getElem?_cons_succ, List.getElem?_cons_zero, Option.getD_some])) | (refine gSeq_assign _ rfl rfl (by rfl) ?_; (try simp only [Act.put, Act.eval, List.setIfInBounds_toArray, List.set_cons_zero, List.set_cons_succ, Array.getD_eq_getD_getElem?, List.getElem?_toArray, List.getElem?_cons_succ, List.getElem?_cons_zero, Option.getD_some])) | (fail) | (refine gSeq_pure rfl (by rfl) ?_ ?_ ?_; (rotate_left; (intro w'; (skip); go_simp; (first | done | with_reducible rfl)); (try simp only [Act.put, Act.eval, List.setIfInBounds_toArray, List.set_cons_zero, List.set_cons_succ, Array.getD_eq_getD_getElem?, List.getElem?_toArray, List.getElem?_cons_succ, List.getElem?_cons_zero, Option.getD_some]))) | (refine gSeq_still rfl (by rfl) ?_ ?_ ?_; (rotate_left; (intro w' hG; (skip); go_simp; (first | done | with_reducible rfl)); (try simp only [Act.put, Act.eval, List.setIfInBounds_toArray, List.set_cons_zero, List.set_cons_succ, Array.getD_eq_getD_getElem?, List.getElem?_toArray, List.getElem?_cons_succ, List.getElem?_cons_zero, Option.getD_some])))))
    refine gSeq_nil ?_
    obtain ⟨X2, hX2⟩ : ∃ Z, Z = X1.set (at_ + 1) L2 := ⟨_, rfl⟩
    have r6 := rowK_set r5
    rw [← hX2] at r6 HST2
    have HX2 := Lib.hid (show X2.length = 4 by rw [hX2, List.length_set]; exact HX1.out)
    have HO2 := Lib.hid (show okB B64 X2 by rw [hX2]; exact ok_set HO1.out _ _ hqq1.1 hqq1.2)
    have R5 := Lib.hid r6
    have HG5 := Lib.hid (grown_trans HG4.out g5)
    have HINV := Lib.hid (show (numB B64 X2 + B64 ^ (at_ + 2) * C2) = T by
      have q1 := HST.out
      have q2 := HM.out
      have q3 := HST2.out
      have e1 : B64 ^ (at_ + 1) = B64 ^ at_ * B64 := Int.pow_succ _ _
      rw [show at_ + 1 + 1 = at_ + 2 from rfl] at q3
      rw [q3, HT.out, ← q2, Int.mul_add, Int.mul_add, ← Int.mul_assoc (B64 ^ at_) B64 hi, ← e1]
      omega)
    clear r5 r6 g5 R4 HG4 hX2 hqq1 HU HX1 HO1 E1 HST HST2 hu0 hq0 h1 h2 h3 h4 hat3
    have hi2 : (at_ : Int) + 2 ≤ 9 := by omega
    go_wp2_with fail
    go_loopw [11, 10] (fun i_ c_ wr => ∃ (i : Nat) (c : Int) (Z : List Int), at_ + 2 ≤ i ∧ i ≤ 4 ∧ i_ = .int .i64 i ∧ c_ = .int .u64 c ∧ 0 ≤ c ∧ c ≤ 1 ∧ Hid (Z.length = 4 ∧ okB B64 Z ∧ (numB B64 Z + B64 ^ i * c) = T) ∧ wr.heap[bx]? = some (.cells (encK .u64 Z) T4 (0, 0)) ∧ w.grownBy wr (some bx)) (fun v _ _ => 4 - (intOf v).toNat)
    case atStart => exact ⟨at_ + 2, C2, X2, by omega, by omega, by congr 1, rfl, hqq0.1, hqq0.2, ⟨HX2.out, HO2.out, HINV.out⟩, R5.out, HG5.out⟩
    case round =>
      obtain ⟨i, c, Z, hi1, hi4, rfl, rfl, hc0, hc1, HZ, r1, hg⟩ := hrel
      clear R5 HG5 HX2 HO2 HINV hqq0
      have R6 := Lib.hid r1
      have HG6 := Lib.hid hg
      clear r1 hg
      by_cases hlt : i < 4
      · have hi0 : 0 ≤ (i : Int) := by omega
        have hi4' : (i : Int) < 4 := by omega
        obtain ⟨z, hz⟩ : ∃ z, z = Z.getD i 0 := ⟨_, rfl⟩
        have hz0 := ok_getD (by decide) HZ.out.2.1 i
        have e1 := rowK_at R6.out i (by rw [HZ.out.1]; omega)
        rw [← hz] at hz0 e1
        have HZ0 := Lib.hid hz
        clear hz
        go_wp2_with fail
        refine wp_region_grow [(2, 0), (2, 1), (2, 2), (2, 3), (2, 4), (2, 5), (1, 6), (2, 7), (2, 8), (2, 9), (2, 10), (2, 11), (2, 12), (2, 13), (3, 14), (2, 15)] (by kernel_rfl) (by kernel_rfl) (fun _ _ _ _ _ h => h) (fun _ _ _ _ _ h => h) ?_
        refine gSeq_name fun w7 hw7 => ?_
        have g7 : wr.grownBy w7 none := by rw [hw7]; exact grown_drew _ _
        have E1 := Lib.hid (g7.cell e1 (by simp))
        have R7 := Lib.hid (row_keep R6.out g7)
        have HG7 := Lib.hid (grown_trans HG6.out (grown_weak g7))
        clear e1 g7 hw7 R6 HG6
        have hadd := fun w => add64_run z 0 c hz0.1 (by decide) hc0 hc1 w
        (repeat (first | (refine gSeq_skip rfl (by rfl) ?_; (try simp only [Act.put, Act.eval, List.setIfInBounds_toArray, List.set_cons_zero, List.set_cons_succ, Array.getD_eq_getD_getElem?, List.getElem?_toArray, List.getElem?_cons_succ, List.getElem?_cons_zero, Option.getD_some])) | (refine gSeq_move _ rfl rfl (by rfl) ?_; (try simp only [Act.put, Act.eval, List.setIfInBounds_toArray, List.set_cons_zero, List.set_cons_succ, Array.getD_eq_getD_getElem?, List.getElem?_toArray, List.getElem?_cons_succ, List.getElem?_cons_zero, Option.getD_some])) | (refine gSeq_assign _ rfl rfl (by rfl) ?_; (try simp only [Act.put, Act.eval, List.setIfInBounds_toArray, List.set_cons_zero, List.set_cons_succ, Array.getD_eq_getD_getElem?, List.getElem?_toArray, List.getElem?_cons_succ, List.getElem?_cons_zero, Option.getD_some])) | (fail) | (refine gSeq_pure rfl (by rfl) ?_ ?_ ?_; (rotate_left; (intro w'; (try (have d1 := hG.cell E1.out (by simp))); go_simp; (first | done | with_reducible rfl)); (try simp only [Act.put, Act.eval, List.setIfInBounds_toArray, List.set_cons_zero, List.set_cons_succ, Array.getD_eq_getD_getElem?, List.getElem?_toArray, List.getElem?_cons_succ, List.getElem?_cons_zero, Option.getD_some]))) | (refine gSeq_still rfl (by rfl) ?_ ?_ ?_; (rotate_left; (intro w' hG; (try (have d1 := hG.cell E1.out (by simp))); go_simp; (first | done | with_reducible rfl)); (try simp only [Act.put, Act.eval, List.setIfInBounds_toArray, List.set_cons_zero, List.set_cons_succ, Array.getD_eq_getD_getElem?, List.getElem?_toArray, List.getElem?_cons_succ, List.getElem?_cons_zero, Option.getD_some])))))
        have hst := limb_step Z i 0 c (by rw [HZ.out.1]; omega)
        rw [← HZ0.out, Int.add_zero, Int.zero_add] at hst
        have hqq0 := div_small (z + c) (by omega) (by have e : (1 : Int) ≤ B64 := (by decide); omega)
        have hqq1 := mod_small (z + c)
        obtain ⟨L2, hL2⟩ : ∃ y, y = (z + c) % 18446744073709551616 := ⟨_, rfl⟩
        obtain ⟨C2, hC2⟩ : ∃ y, y = (z + c) / 18446744073709551616 := ⟨_, rfl⟩
        rw [show (z + c) % B64 = L2 from hL2.symm] at hqq1 hst
        rw [show (z + c) / B64 = C2 from hC2.symm] at hqq0 hst
        rw [← hL2, ← hC2]
        have HST2 := Lib.hid hst
        clear hL2 hC2 hst hadd
        refine gSeq_store rfl (by rfl) _ _ _ rfl bx i _ rfl rfl _ _ R7.out (by rw [size_encK, HZ.out.1]; omega) (by kernel_rfl) rfl rfl ?_
        intro w8 r8 g8
        (try simp only [Act.put, Act.eval, List.setIfInBounds_toArray, List.set_cons_zero, List.set_cons_succ, Array.getD_eq_getD_getElem?, List.getElem?_toArray, List.getElem?_cons_succ, List.getElem?_cons_zero, Option.getD_some])
        (repeat (first | (refine gSeq_skip rfl (by rfl) ?_; (try simp only [Act.put, Act.eval, List.setIfInBounds_toArray, List.set_cons_zero, List.set_cons_succ, Array.getD_eq_getD_getElem?, List.getElem?_toArray, List.getElem?_cons_succ, List.getElem?_cons_zero, Option.getD_some])) | (refine gSeq_move _ rfl rfl (by rfl) ?_; (try simp only [Act.put, Act.eval, List.setIfInBounds_toArray, List.set_cons_zero, List.set_cons_succ, Array.getD_eq_getD_getElem?, List.getElem?_toArray, List.getElem?_cons_succ, List.getElem?_cons_zero, Option.getD_some])) | (refine gSeq_assign _ rfl rfl (by rfl) ?_; (try simp only [Act.put, Act.eval, List.setIfInBounds_toArray, List.set_cons_zero, List.set_cons_succ, Array.getD_eq_getD_getElem?, List.getElem?_toArray, List.getElem?_cons_succ, List.getElem?_cons_zero, Option.getD_some])) | (fail) | (refine gSeq_pure rfl (by rfl) ?_ ?_ ?_; (rotate_left; (intro w'; (skip); go_simp; (first | done | with_reducible rfl)); (try simp only [Act.put, Act.eval, List.setIfInBounds_toArray, List.set_cons_zero, List.set_cons_succ, Array.getD_eq_getD_getElem?, List.getElem?_toArray, List.getElem?_cons_succ, List.getElem?_cons_zero, Option.getD_some]))) | (refine gSeq_still rfl (by rfl) ?_ ?_ ?_; (rotate_left; (intro w' hG; (skip); go_simp; (first | done | with_reducible rfl)); (try simp only [Act.put, Act.eval, List.setIfInBounds_toArray, List.set_cons_zero, List.set_cons_succ, Array.getD_eq_getD_getElem?, List.getElem?_toArray, List.getElem?_cons_succ, List.getElem?_cons_zero, Option.getD_some])))))
        refine gSeq_nil ?_
        have R8 := Lib.hid (rowK_set r8)
        have HG8 := Lib.hid (grown_trans HG7.out g8)
        have HZ' : Hid ((Z.set i L2).length = 4 ∧ okB B64 (Z.set i L2) ∧ (numB B64 (Z.set i L2) + B64 ^ (i + 1) * C2) = T) :=
          ⟨by rw [List.length_set]; exact HZ.out.1, ok_set HZ.out.2.1 _ _ hqq1.1 hqq1.2, HST2.out.trans HZ.out.2.2⟩
        clear r8 g8 R7 HG7 E1 HZ0 hz0
        go_wp2_with fail
        exact ⟨⟨i + 1, C2, _, by omega, by omega, by go_num, rfl, hqq0.1, hqq0.2, HZ'.out, R8.out, HG8.out⟩, by simp [intOf]; omega⟩
      · have : i = 4 := by omega
        subst this
        have hfin : Z = digB B64 4 T := digB_of Z T 4 c (by omega) HZ.out.1 HZ.out.2.1 (by rw [HZ.out.2.2])
        have R7 := R6.out
        rw [hfin] at R7
        have R8 := Lib.hid R7
        clear R7 R6 hfin
        go_wp2_with fail
        exact bodyPost_end (by simp [results, show Try.f41.results = #[] from rfl]) rfl ⟨rfl, R8.out, HG6.out⟩
end Go.Proofs.Ythhijeokeljcjaa
