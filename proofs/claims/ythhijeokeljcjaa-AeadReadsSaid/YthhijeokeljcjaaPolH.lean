/- poly's reference: limbs brought low. -/
import Derived.Test.YthhijeokeljcjaaPolE
import Derived.Test.YthhijeokeljcjaaCopy
namespace Go.Proofs.Ythhijeokeljcjaa
set_option linter.unusedVariables false
set_option linter.unusedSimpArgs false
open Go.RowKit Go.Proofs.YthhijeokeljcjaaL

abbrev A17 : Nat := 68
def z17 : List Int := List.replicate 17 0
theorem z17_getD (k : Nat) : z17.getD k 0 = 0 := by
  rw [z17, List.getD_eq_getElem?_getD, List.getElem?_replicate]; split <;> rfl
theorem numB_rep0 (B : Int) : ∀ n, numB B (List.replicate n 0) = 0
  | 0 => rfl
  | n + 1 => by rw [List.replicate_succ, numB, numB_rep0 B n]; simp
theorem carry_low {Z : List Int} {M : Int} (hM : 0 ≤ M) (h : ∀ k, 0 ≤ Z.getD k 0 ∧ Z.getD k 0 ≤ M) : ∀ k, 0 ≤ carry 256 Z z17 k ∧ carry 256 Z z17 k ≤ M / 255
  | 0 => ⟨Int.le_refl _, by show (0 : Int) ≤ M / 255; omega⟩
  | k + 1 => by
    have ih := carry_low hM h k
    have hk := h k
    rw [carry, z17_getD]
    omega
theorem sums_z (Z : List Int) (k : Nat) (hk : k ≤ 17) (hl : Z.length = 17) : numB 256 (sums 256 Z z17 k) + 256 ^ k * carry 256 Z z17 k = numB 256 (Z.take k) := by
  have h := sums_num (B := 256) (by decide) Z z17 17 hl (List.length_replicate ..) k hk
  have : numB 256 (z17.take k) = 0 := by rw [z17, List.take_replicate, numB_rep0]
  rw [this, Int.add_zero] at h
  exact h
/-- Limbs that are no greater than a bound. -/
def lowL (M : Int) (Z : List Int) : Prop := Z.length = 17 ∧ ∀ k, 0 ≤ Z.getD k 0 ∧ Z.getD k 0 ≤ M
theorem getD_set (s : List Int) (i k : Nat) (v : Int) (hi : i < s.length) : (s.set i v).getD k 0 = if k = i then v else s.getD k 0 := by
  by_cases h : k = i
  · subst h; rw [if_pos rfl, List.getD_eq_getElem?_getD, List.getElem?_set_self hi]; rfl
  · rw [if_neg h, List.getD_eq_getElem?_getD, List.getElem?_set_ne (by omega), ← List.getD_eq_getElem?_getD]
theorem sums_getD (a b : List Int) (n k : Nat) : 0 ≤ (sums 256 a b n).getD k 0 ∧ (sums 256 a b n).getD k 0 ≤ 255 := by
  have := ok_getD (B := 256) (by decide) (ok_sums (by decide) a b n) k
  omega
/-- One round. -/
theorem squeeze_round {M : Int} (hM : 0 ≤ M) {Z : List Int} (h : lowL M Z) (c : Int) (hc : c = carry 256 Z z17 16 + Z.getD 16 0) :
    let Y := ((sums 256 Z z17 16 ++ Z.drop 16).set 16 (c % 4)).set 0 ((sums 256 Z z17 16 ++ Z.drop 16).getD 0 0 + 5 * (c / 4))
    lowL (255 + 5 * ((M + M / 255) / 4)) Y ∧ numB 256 Y = foldI (numB 256 Z) ∧ 0 ≤ c ∧ c ≤ M + M / 255 ∧ 0 ≤ (sums 256 Z z17 16 ++ Z.drop 16).getD 0 0 ∧ (sums 256 Z z17 16 ++ Z.drop 16).getD 0 0 ≤ 255 := by
  obtain ⟨hl, hb⟩ := h
  have hcl := carry_low hM hb 16
  have hz := hb 16
  have hlen : (sums 256 Z z17 16 ++ Z.drop 16).length = 17 := by rw [List.length_append, length_sums, List.length_drop, hl]
  have hdrop : Z.drop 16 = [Z.getD 16 0] := by
    rw [drop_at Z 16 (by omega), List.drop_of_length_le (by omega)]
  obtain ⟨X, hX⟩ : ∃ X, X = sums 256 Z z17 16 ++ Z.drop 16 := ⟨_, rfl⟩
  have hX0 : X.getD 0 0 = (sums 256 Z z17 16).getD 0 0 := by
    rw [hX, List.getD_eq_getElem?_getD, List.getElem?_append_left (by rw [length_sums]; decide), ← List.getD_eq_getElem?_getD]
  have hXk : ∀ k, k ≠ 16 → 0 ≤ X.getD k 0 ∧ X.getD k 0 ≤ 255 := fun k hk => by
    by_cases hlt : k < 16
    · rw [hX, List.getD_eq_getElem?_getD, List.getElem?_append_left (by rw [length_sums]; exact hlt), ← List.getD_eq_getElem?_getD]
      exact sums_getD _ _ _ _
    · rw [List.getD_eq_getElem?_getD, List.getElem?_eq_none (by rw [hX, hlen]; omega)]; exact ⟨Int.le_refl _, by decide⟩
  rw [← hX] at hlen ⊢
  have hx0 := hXk 0 (by decide)
  refine ⟨⟨by rw [List.length_set, List.length_set, hlen], fun k => ?_⟩, ?_, by omega, by omega, hx0.1, hx0.2⟩
  · rw [getD_set _ 0 k _ (by rw [List.length_set, hlen]; decide), getD_set _ 16 k _ (by rw [hlen]; decide)]
    split
    · omega
    · split
      · omega
      · have := hXk k (by assumption); omega
  · rw [numB_set 256 _ 0 _ (by rw [List.length_set, hlen]; decide), getD_set _ 16 0 _ (by rw [hlen]; decide), if_neg (by decide), numB_set 256 X 16 _ (by rw [hlen]; decide)]
    have hX16 : X.getD 16 0 = Z.getD 16 0 := by
      rw [hX, List.getD_eq_getElem?_getD, List.getElem?_append_right (by rw [length_sums]; exact Nat.le_refl _), length_sums, hdrop]; rfl
    have hXn : numB 256 X = numB 256 (sums 256 Z z17 16) + 256 ^ 16 * Z.getD 16 0 := by
      rw [hX, numB_append, length_sums, hdrop]; simp [numB]
    have hs := sums_z Z 16 (by decide) hl
    have hZn : numB 256 Z = numB 256 (Z.take 16) + 256 ^ 16 * Z.getD 16 0 := by
      have := numB_next 256 Z 16 (by omega)
      rw [List.take_of_length_le (by omega)] at this
      exact this
    have hr := numB_range (B := 256) (by decide) _ (ok_sums (B := 256) (by decide) Z z17 16)
    rw [length_sums] at hr
    have e16 : (256 : Int) ^ 16 = 340282366920938463463374607431768211456 := by decide
    have e2 : P2 = 1361129467683753853853498429727072845824 := rfl
    rw [hX16, hXn]
    unfold foldI
    rw [e16] at *
    rw [e2]
    have hT : numB 256 Z = numB 256 (sums 256 Z z17 16) + 340282366920938463463374607431768211456 * c := by rw [hZn, hc]; omega
    rw [hT]
    simp only [Int.pow_zero, Int.one_mul]
    omega
theorem lowL_mono {M N : Int} {Z : List Int} (h : lowL M Z) (hM : M ≤ N) : lowL N Z := ⟨h.1, fun k => ⟨(h.2 k).1, Int.le_trans (h.2 k).2 hM⟩⟩
def bnd (r : Nat) : Int := if r = 0 then 400000000 else if r = 1 then 505000000 else 640000000
theorem bnd_hi (r : Nat) : 0 ≤ bnd r ∧ bnd r ≤ 640000000 := by
  unfold bnd
  split
  · omega
  · split <;> omega
theorem u32_andm (x : Int) (m : Nat) (h0 : 0 ≤ x) (h1 : x < 4294967296) (hm : 2 ^ m - 1 < 4294967296) : bits .and .u32 x (((2 ^ m - 1 : Nat) : Int)) = x % ((2 ^ m : Nat) : Int) := by
  obtain ⟨X, rfl⟩ := Int.eq_ofNat_of_zero_le h0
  rw [u32_and_nat X _ (by omega) hm, Nat.and_two_pow_sub_one_eq_mod]
  rfl
theorem u32_and255 (x : Int) (h0 : 0 ≤ x) (h1 : x < 4294967296) : bits .and .u32 x 255 = x % 256 := u32_andm x 8 h0 h1 (by decide)
theorem u32_and3 (x : Int) (h0 : 0 ≤ x) (h1 : x < 4294967296) : bits .and .u32 x 3 = x % 4 := u32_andm x 2 h0 h1 (by decide)
set_option maxHeartbeats 1000000 in
set_option maxRecDepth 100000 in
theorem squeeze_any (a : List Int) (w : World) (ha : lowL 400000000 a) :
    Calls Try.prog 44 #[.agg (encK .u32 a)] w fun e w' => e = .returned (.agg (encK .u32 (digB 256 17 (foldN (numB 256 a) 2)))) ∧ w.grownBy w' none := by
  have HA := Lib.hid ha
  clear ha
  go_enter Try.func44, Try.ntmps44
  obtain ⟨p, hp⟩ : ∃ p, w.heap.size = p := ⟨_, rfl⟩
  have HP := Lib.hid hp
  clear hp
  go_wp2_with fail
  rw [HP.out]
  go_loopw [3] (fun v wr => ∃ (r : Nat) (Z : List Int), r ≤ 2 ∧ v = .int .i64 r ∧ wr.heap[p]? = some (.cells (encK .u32 Z) A17 (0, 0)) ∧ wr.heap[p + 1]? = some (.cells (encK .u32 (List.replicate 17 0)) A17 (0, 0)) ∧ Hid (lowL (bnd r) Z ∧ numB 256 Z = foldN (numB 256 a) r) ∧ w.grownBy wr none) (fun v _ => 2 - (intOf v).toNat)
  case atStart =>
    rw [← HP.out]
    exact ⟨0, a, by omega, rfl, two_0 _ _ _, two_1 _ _ _, ⟨HA.out, rfl⟩, two_g _ _ _⟩
  case round =>
    obtain ⟨r, Z, hr, rfl, r0, r1, HZ, hg⟩ := hrel
    have R0 := Lib.hid r0
    have R1 := Lib.hid r1
    have HG := Lib.hid hg
    clear r0 r1 hg
    by_cases hlr : r < 2
    · have hr0 : 0 ≤ (r : Int) := by omega
      have hr2 : (r : Int) < 2 := by omega
      go_wp2_with fail
      go_loopw [5, 4] (fun v c_ wr => ∃ k : Nat, k ≤ 16 ∧ v = .int .i64 k ∧ c_ = .int .u32 (carry 256 Z z17 k) ∧ wr.heap[p]? = some (.cells (encK .u32 (sums 256 Z z17 k ++ Z.drop k)) A17 (0, 0)) ∧ wr.heap[p + 1]? = some (.cells (encK .u32 (List.replicate 17 0)) A17 (0, 0)) ∧ w.grownBy wr none) (fun v _ _ => 16 - (intOf v).toNat)
      case atStart => exact ⟨0, by omega, rfl, rfl, R0.out, R1.out, HG.out⟩
      case round =>
        clear R0 R1 HG
        obtain ⟨k, hk, rfl, rfl, r0, r1, hg⟩ := hrel
        have R0 := Lib.hid r0
        have R1 := Lib.hid r1
        have HG := Lib.hid hg
        clear r0 r1 hg
        have hbr := bnd_hi r
        have hZl := HZ.out.1.1
        by_cases hlt : k < 16
        · have hk0 : 0 ≤ (k : Int) := by omega
          have hk16 : (k : Int) < 17 := by omega
          have hk16' : (k : Int) < 16 := by omega
          have e1 := rowK_at R0.out k (by rw [List.length_append, length_sums, List.length_drop, hZl]; omega)
          rw [getD_app_drop _ Z k (length_sums _ _ _ _) (by rw [hZl]; omega)] at e1
          obtain ⟨z, hz⟩ : ∃ z, z = Z.getD k 0 := ⟨_, rfl⟩
          obtain ⟨c, hc⟩ : ∃ c, c = carry 256 Z z17 k := ⟨_, rfl⟩
          have hz0 := HZ.out.1.2 k
          have hc0 := carry_low hbr.1 HZ.out.1.2 k
          rw [← hz] at e1 hz0
          rw [← hc] at hc0 ⊢
          have HS := Lib.hid (show bits .and .u32 (c + z) 255 = sumAt 256 Z z17 k by rw [u32_and255 _ (by omega) (by omega), sumAt, z17_getD, ← hz, ← hc]; congr 1; omega)
          have HC := Lib.hid (show (c + z) / 256 = carry 256 Z z17 (k + 1) by rw [carry, z17_getD, ← hz, ← hc]; congr 1; omega)
          have HZL := Lib.hid hZl
          have hcz : 0 ≤ c + z ∧ c + z ≤ 4294967295 := by omega
          clear hz hc hZl hbr hz0 hc0
          go_wp2_with (refine wpList_store_cell rfl _ (.tmp 24) (.tmp 23) rfl p k _ rfl rfl _ _ R0.out (by rw [size_encK, List.length_append, length_sums, List.length_drop, HZL.out]; omega) (by kernel_rfl) rfl rfl ?_)
          intro w5 r5 g5
          rw [HS.out] at r5
          have r6 := rowK_set r5
          rw [sums_set 256 Z z17 Z k (by rw [HZL.out]; omega)] at r6
          have R0' := Lib.hid r6
          have R1' := Lib.hid ((g5.block _ (row_lt R1.out) (by intro e; injection e; omega)).trans R1.out)
          have HG' := Lib.hid (grown_row HG.out g5 (fun j hj => by injection hj with hj; have := HP.out; omega))
          clear r5 r6 g5 R0 R1 HG e1
          go_wp2_with fail
          exact ⟨⟨k + 1, by omega, by go_num, by rw [← HC.out], R0'.out, R1'.out, HG'.out⟩, by simp [intOf]; omega⟩
        · have : k = 16 := by omega
          subst this
          obtain ⟨c, hc⟩ : ∃ c, c = carry 256 Z z17 16 + Z.getD 16 0 := ⟨_, rfl⟩
          have hq := squeeze_round hbr.1 HZ.out.1 c hc
          obtain ⟨X, hX⟩ : ∃ X, X = sums 256 Z z17 16 ++ Z.drop 16 := ⟨_, rfl⟩
          have hXl : X.length = 17 := by rw [hX, List.length_append, length_sums, List.length_drop, hZl]
          have hX16 : X.getD 16 0 = Z.getD 16 0 := by rw [hX]; exact getD_app_drop _ Z 16 (length_sums _ _ _ _) (by rw [hZl]; decide)
          have R0' := R0.out
          rw [← hX] at R0' hq
          have e1 := rowK_at R0' 16 (by rw [hXl]; decide)
          rw [hX16] at e1
          obtain ⟨q1, q2, q3, q4, q5, q6⟩ := hq
          obtain ⟨z, hz⟩ : ∃ z, z = Z.getD 16 0 := ⟨_, rfl⟩
          obtain ⟨c1, hc1⟩ : ∃ c, c = carry 256 Z z17 16 := ⟨_, rfl⟩
          have hz0 := HZ.out.1.2 16
          have hc10 := carry_low hbr.1 HZ.out.1.2 16
          rw [← hz] at e1 hc hz0
          rw [← hc1] at hc hc10 ⊢
          have hcz : 0 ≤ c1 + z ∧ c1 + z ≤ 4294967295 := by omega
          obtain ⟨y, hy⟩ : ∃ y, y = X.getD 0 0 := ⟨_, rfl⟩
          rw [← hy] at q1 q2 q5 q6
          have HAND := Lib.hid (show bits .and .u32 (c1 + z) 3 = c % 4 by rw [← hc]; exact u32_and3 _ (by omega) (by omega))
          have HCZ := Lib.hid hc
          have HY := Lib.hid hy
          have HXL := Lib.hid hXl
          have R0 := Lib.hid R0'
          have HQ := Lib.hid (show lowL (bnd (r + 1)) ((X.set 16 (c % 4)).set 0 (y + 5 * (c / 4))) ∧ numB 256 ((X.set 16 (c % 4)).set 0 (y + 5 * (c / 4))) = foldN (numB 256 a) (r + 1) by
            refine ⟨lowL_mono q1 ?_, by rw [q2, HZ.out.2]; rfl⟩
            have hrr : r = 0 ∨ r = 1 := by omega
            rcases hrr with rfl | rfl <;> simp [bnd])
          clear q1 q2 hz hc hc1 hX hXl hX16 R0' hy hZl
          go_wp2_with (refine wpList_store_cell rfl _ (.tmp 33) (.tmp 32) rfl p 16 _ rfl rfl _ _ R0.out (by rw [size_encK, HXL.out]; decide) (by kernel_rfl) rfl rfl ?_)
          intro w5 r5 g5
          rw [HAND.out] at r5
          have r6 := rowK_set r5
          have e0 := rowK_at r6 0 (by rw [List.length_set, HXL.out]; decide)
          rw [getD_set _ 16 0 _ (by rw [HXL.out]; decide), if_neg (by decide), ← HY.out] at e0
          have R0' := Lib.hid r6
          have R1' := Lib.hid ((g5.block _ (row_lt R1.out) (by intro e; injection e; omega)).trans R1.out)
          have HG' := Lib.hid (grown_row HG.out g5 (fun j hj => by injection hj with hj; have := HP.out; omega))
          rw [HCZ.out.symm]
          clear r5 r6 g5 R0 R1 HG e1 hcz hz0 hc10
          have hc4 : 5 * (c / 4) ≤ 4294967295 := by omega
          have hc40 : 0 ≤ 5 * (c / 4) := by omega
          have hy4 : y + 5 * (c / 4) ≤ 4294967295 := by omega
          go_wp2_with (refine wpList_store_cell rfl _ (.tmp 40) (.tmp 39) rfl p 0 _ rfl rfl _ _ R0'.out (by rw [size_encK, List.length_set, HXL.out]; decide) (by kernel_rfl) rfl rfl ?_)
          intro w6 r7 g7
          have r8 := rowK_set r7
          have R0 := Lib.hid r8
          have R1 := Lib.hid ((g7.block _ (row_lt R1'.out) (by intro e; injection e; omega)).trans R1'.out)
          have HG := Lib.hid (grown_row HG'.out g7 (fun j hj => by injection hj with hj; have := HP.out; omega))
          clear r7 r8 g7 R0' R1' HG' e0 hc4 hc40 hy4
          go_wp2_with fail
          exact ⟨⟨r + 1, _, by omega, by go_num, R0.out, R1.out, HQ.out, HG.out⟩, by simp [intOf]; omega⟩
    · have : r = 2 := by omega
      have hI : (r : Int) = 2 := by omega
      rw [hI]
      clear hI
      subst this
      have hZl := HZ.out.1.1
      have hZb : ∀ k, 0 ≤ Z.getD k 0 ∧ Z.getD k 0 ≤ 640000000 := HZ.out.1.2
      go_wp2_with fail
      go_loopw [7, 6] (fun v c_ wr => ∃ k : Nat, k ≤ 17 ∧ v = .int .i64 k ∧ c_ = .int .u32 (carry 256 Z z17 k) ∧ wr.heap[p]? = some (.cells (encK .u32 (sums 256 Z z17 k ++ Z.drop k)) A17 (0, 0)) ∧ wr.heap[p + 1]? = some (.cells (encK .u32 (List.replicate 17 0)) A17 (0, 0)) ∧ w.grownBy wr none) (fun v _ _ => 17 - (intOf v).toNat)
      case atStart => exact ⟨0, by omega, rfl, rfl, R0.out, R1.out, HG.out⟩
      case round =>
        clear R0 R1 HG
        obtain ⟨k, hk, rfl, rfl, r0, r1, hg⟩ := hrel
        have R0 := Lib.hid r0
        have R1 := Lib.hid r1
        have HG := Lib.hid hg
        clear r0 r1 hg
        by_cases hlt : k < 17
        · have hk0 : 0 ≤ (k : Int) := by omega
          have hk16 : (k : Int) < 17 := by omega
          have e1 := rowK_at R0.out k (by rw [List.length_append, length_sums, List.length_drop, hZl]; omega)
          rw [getD_app_drop _ Z k (length_sums _ _ _ _) (by rw [hZl]; omega)] at e1
          obtain ⟨z, hz⟩ : ∃ z, z = Z.getD k 0 := ⟨_, rfl⟩
          obtain ⟨c, hc⟩ : ∃ c, c = carry 256 Z z17 k := ⟨_, rfl⟩
          have hz0 := hZb k
          have hc0 := carry_low (M := 640000000) (by decide) hZb k
          rw [← hz] at e1 hz0
          rw [← hc] at hc0 ⊢
          have HS := Lib.hid (show bits .and .u32 (c + z) 255 = sumAt 256 Z z17 k by rw [u32_and255 _ (by omega) (by omega), sumAt, z17_getD, ← hz, ← hc]; congr 1; omega)
          have HC := Lib.hid (show (c + z) / 256 = carry 256 Z z17 (k + 1) by rw [carry, z17_getD, ← hz, ← hc]; congr 1; omega)
          have HZL := Lib.hid hZl
          have HZB := Lib.hid hZb
          have hcz : 0 ≤ c + z ∧ c + z ≤ 4294967295 := by omega
          clear hz hc hZl hz0 hc0 hZb
          go_wp2_with (refine wpList_store_cell rfl _ (.tmp 53) (.tmp 52) rfl p k _ rfl rfl _ _ R0.out (by rw [size_encK, List.length_append, length_sums, List.length_drop, HZL.out]; omega) (by kernel_rfl) rfl rfl ?_)
          intro w5 r5 g5
          rw [HS.out] at r5
          have r6 := rowK_set r5
          rw [sums_set 256 Z z17 Z k (by rw [HZL.out]; omega)] at r6
          have R0' := Lib.hid r6
          have R1' := Lib.hid ((g5.block _ (row_lt R1.out) (by intro e; injection e; omega)).trans R1.out)
          have HG' := Lib.hid (grown_row HG.out g5 (fun j hj => by injection hj with hj; have := HP.out; omega))
          clear r5 r6 g5 R0 R1 HG e1
          go_wp2_with fail
          exact ⟨⟨k + 1, by omega, by go_num, by rw [← HC.out], R0'.out, R1'.out, HG'.out⟩, by simp [intOf]; omega⟩
        · have : k = 17 := by omega
          subst this
          have R5 := R0.out
          rw [List.drop_of_length_le (by rw [hZl]; decide), List.append_nil, (sums_eq (B := 256) (by decide) hZl (show z17.length = 17 from List.length_replicate ..)).1, show numB 256 z17 = 0 from numB_rep0 256 17, Int.add_zero, HZ.out.2] at R5
          have R6 := Lib.hid R5
          clear R5 R0 hZb
          go_wp2_with (first | (refine wpList_load_row rfl A17 (.tmp 1) rfl (p) rfl _ _ _ _ R6.out Try.underlying68 rfl (by rw [size_encK, length_digB]; kernel_rfl) ?_) | (refine wpList_store_range rfl A17 (.tmp 2) (.tmp 56) rfl (p + 1) 0 (encK .u32 (digB 256 17 (foldN (numB 256 a) 2))) rfl rfl _ _ R1.out (by rw [size_encK, size_encK, length_digB]; decide) (by rw [size_encK, length_digB]; kernel_rfl) (one_encK _ _) ?_))
          intro w8 r8 g8
          rw [putAt_all _ _ (by rw [Array.length_toList, size_encK, size_encK, length_digB]; rfl)] at r8
          have R9 : Hid (w8.heap[p + 1]? = some (.cells (encK .u32 (digB 256 17 (foldN (numB 256 a) 2))) A17 (0, 0))) := r8
          have HG9 : Hid (w.grownBy w8 none) := grown_row HG.out g8 (fun k hk => by injection hk with hk; have := HP.out; omega)
          clear r8 g8
          go_wp2_with fail
          exact bodyPost_ret (results_cell_row rfl _ _ (p + 1) _ _ _ _ rfl R9.out Try.underlying68 rfl (by rw [size_encK, length_digB]; kernel_rfl)) rfl ⟨rfl, HG9.out⟩
end Go.Proofs.Ythhijeokeljcjaa
