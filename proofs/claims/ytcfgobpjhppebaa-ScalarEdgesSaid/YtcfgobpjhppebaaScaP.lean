/- scalar's reference: products. -/
import Derived.Test.YtcfgobpjhppebaaScaO
namespace Go.Proofs.Ytcfgobpjhppebaa
set_option linter.unusedVariables false
set_option linter.unusedSimpArgs false
open Go.RowKit Go.Proofs.YtcfgobpjhppebaaL

abbrev U64 : Nat := 51
theorem zeros_getD (n k : Nat) : (List.replicate n (0 : Int)).getD k 0 = 0 := by
  rw [List.getD_eq_getElem?_getD, List.getElem?_replicate]; split <;> rfl
theorem numB_zeros (B : Int) : ∀ n, numB B (List.replicate n 0) = 0
  | 0 => rfl
  | n + 1 => by rw [List.replicate_succ, numB, numB_zeros B n]; simp
def zs64 : List Int := List.replicate 64 0
theorem carry_low {Z : List Int} {M : Int} (hM : 0 ≤ M) (h : ∀ k, 0 ≤ Z.getD k 0 ∧ Z.getD k 0 ≤ M) : ∀ k, 0 ≤ carry 256 Z zs64 k ∧ carry 256 Z zs64 k ≤ M
  | 0 => ⟨Int.le_refl _, hM⟩
  | k + 1 => by
    have ih := carry_low hM h k
    have hk := h k
    rw [carry, show zs64.getD k 0 = 0 from zeros_getD 64 k]
    omega
set_option maxHeartbeats 1000000 in
set_option maxRecDepth 100000 in
theorem rmul_any (a b : List Int) (w : World) (ha : a.length = 32) (hoa : okB 256 a) (hb : b.length = 32) (hob : okB 256 b) :
    Calls Try.prog 13 #[.agg (encK .u8 a), .agg (encK .u8 b)] w fun e w' => e = .returned (.agg (encK .u8 (digB 256 32 (numB 256 a * numB 256 b % ordL)))) ∧ w.grownBy w' none := by
  have HA := Lib.hid ha
  have HOA := Lib.hid hoa
  have HB := Lib.hid hb
  have HOB := Lib.hid hob
  clear ha hoa hb hob
  go_enter Try.func13, Try.ntmps13
  obtain ⟨p, hp⟩ : ∃ p, w.heap.size = p := ⟨_, rfl⟩
  have HP := Lib.hid hp
  clear hp
  go_wp2_with fail
  rw [HP.out]
  go_loopw [6] (fun v wr => ∃ (i : Nat) (Z : List Int), i ≤ 32 ∧ v = .int .i64 i ∧ wr.heap[p]? = some (.cells (encK .u8 a) A32 (0, 0)) ∧ wr.heap[p + 1]? = some (.cells (encK .u8 b) A32 (0, 0)) ∧
    wr.heap[p + 1 + 1]? = some (.cells (encK .u8 (List.replicate 32 0)) A32 (0, 0)) ∧ wr.heap[p + 1 + 1 + 1]? = some (.cells (encK .u32 Z) U64 (0, 0)) ∧
    Hid (Z.length = 64 ∧ numB 256 Z = numB 256 (a.take i) * numB 256 b ∧ ∀ k, 0 ≤ Z.getD k 0 ∧ Z.getD k 0 ≤ 65025 * i) ∧ w.grownBy wr none) (fun v _ => 32 - (intOf v).toNat)
  case atStart =>
    rw [← HP.out]
    exact ⟨0, List.replicate 64 0, by omega, rfl, four_0 _ _ _ _ _, four_1 _ _ _ _ _, four_2 _ _ _ _ _, four_3 _ _ _ _ _, ⟨List.length_replicate .., by rw [numB_zeros]; simp [numB], fun k => by rw [zeros_getD]; omega⟩, four_g _ _ _ _ _⟩
  case round =>
    obtain ⟨i, Z, hi, rfl, r0, r1, r2, r3, HZ, hg⟩ := hrel
    have R0 := Lib.hid r0
    have R1 := Lib.hid r1
    have R2 := Lib.hid r2
    have R3 := Lib.hid r3
    have HG := Lib.hid hg
    clear r0 r1 r2 r3 hg
    by_cases hlt : i < 32
    · have hi0 : (0 : Int) ≤ (i : Int) := by omega
      have hi32 : (i : Int) < 32 := by omega
      obtain ⟨x, hx⟩ : ∃ x, x = a.getD i 0 := ⟨_, rfl⟩
      have hx0 := ok_getD (by decide) HOA.out i
      rw [← hx] at hx0
      have HX := Lib.hid hx
      clear hx
      go_wp2_with fail
      go_loopw [7] (fun v wr => ∃ (j : Nat) (Z : List Int), j ≤ 32 ∧ v = .int .i64 j ∧ wr.heap[p]? = some (.cells (encK .u8 a) A32 (0, 0)) ∧ wr.heap[p + 1]? = some (.cells (encK .u8 b) A32 (0, 0)) ∧
        wr.heap[p + 1 + 1]? = some (.cells (encK .u8 (List.replicate 32 0)) A32 (0, 0)) ∧ wr.heap[p + 1 + 1 + 1]? = some (.cells (encK .u32 Z) U64 (0, 0)) ∧
        Hid (Z.length = 64 ∧ numB 256 Z = numB 256 (a.take i) * numB 256 b + 256 ^ i * (x * numB 256 (b.take j)) ∧ ∀ k, 0 ≤ Z.getD k 0 ∧ Z.getD k 0 ≤ 65025 * (i + 1) ∧ (i + j ≤ k → Z.getD k 0 ≤ 65025 * i)) ∧ w.grownBy wr none) (fun v _ => 32 - (intOf v).toNat)
      case atStart =>
        obtain ⟨z1, z2, z3⟩ := HZ.out
        exact ⟨0, Z, by omega, rfl, R0.out, R1.out, R2.out, R3.out, ⟨z1, by rw [z2]; simp [numB], fun k => by have := z3 k; omega⟩, HG.out⟩
      case round =>
        clear HZ R0 R1 R2 R3 HG
        obtain ⟨j, Z, hj, rfl, r0, r1, r2, r3, HZ, hg⟩ := hrel
        have R0 := Lib.hid r0
        have R1 := Lib.hid r1
        have R2 := Lib.hid r2
        have R3 := Lib.hid r3
        have HG := Lib.hid hg
        clear r0 r1 r2 r3 hg
        by_cases hlj : j < 32
        · have hj0 : (0 : Int) ≤ (j : Int) := by omega
          have hj32 : (j : Int) < 32 := by omega
          have e1 := rowK_at R0.out i (by rw [HA.out]; exact hlt)
          have e2 := rowK_at R1.out j (by rw [HB.out]; exact hlj)
          have e3 := rowK_at R3.out (i + j) (by rw [HZ.out.1]; omega)
          obtain ⟨y, hy⟩ : ∃ y, y = b.getD j 0 := ⟨_, rfl⟩
          obtain ⟨z, hz⟩ : ∃ z, z = Z.getD (i + j) 0 := ⟨_, rfl⟩
          have hy0 := ok_getD (by decide) HOB.out j
          have hz0 := HZ.out.2.2 (i + j)
          rw [← HX.out] at e1
          rw [← hy] at e2 hy0
          rw [← hz] at e3 hz0
          have hz1 := hz0.2.2 (Nat.le_refl _)
          have hxy0 : 0 ≤ x * y := Int.mul_nonneg hx0.1 hy0.1
          have hxy1 : x * y ≤ 255 * 255 := Int.mul_le_mul (by omega) (by omega) hy0.1 (by decide)
          have HY := Lib.hid hy
          have HZ0 := Lib.hid hz
          clear hy hz
          go_wp2_with fail
          refine wp_region_grow [(2, 0), (2, 1), (2, 2), (2, 3), (1, 4), (2, 5), (2, 6), (1, 7), (2, 8), (2, 9), (2, 10), (1, 11), (2, 12), (2, 13), (2, 14), (2, 15), (3, 16)] (by kernel_rfl) (by kernel_rfl) (fun _ _ _ _ _ h => h) (fun _ _ _ _ _ h => h) ?_
          refine gSeq_name fun w4 hw4 => ?_
          have g4 : wr.grownBy w4 none := by rw [hw4]; exact grown_drew _ _
          have E1 := Lib.hid (g4.cell e1 (by simp))
          have E2 := Lib.hid (g4.cell e2 (by simp))
          have E3 := Lib.hid (g4.cell e3 (by simp))
          have R0' := Lib.hid ((g4.block _ (row_lt R0.out) (by simp)).trans R0.out)
          have R1' := Lib.hid ((g4.block _ (row_lt R1.out) (by simp)).trans R1.out)
          have R2' := Lib.hid ((g4.block _ (row_lt R2.out) (by simp)).trans R2.out)
          have R3' := Lib.hid ((g4.block _ (row_lt R3.out) (by simp)).trans R3.out)
          have HG' := Lib.hid (grown_trans HG.out g4)
          clear g4 hw4 e1 e2 e3 R0 R1 R2 R3 HG
          have wij : IntKind.i64.wrap ((i : Int) + (j : Int)) = (i : Int) + (j : Int) := IntWalk.i64_in _ (by omega)
          have tij : ((i : Int) + (j : Int)).toNat = i + j := by omega
          have lij : (i : Int) + (j : Int) < 64 := by omega
          have gij : 0 ≤ (i : Int) + (j : Int) := by omega
          have wx : IntKind.u32.wrap x = x := IntWalk.u32_in _ (by omega)
          have wy : IntKind.u32.wrap y = y := IntWalk.u32_in _ (by omega)
          have wxy : IntKind.u32.wrap (x * y) = x * y := IntWalk.u32_in _ (by omega)
          have wz : IntKind.u32.wrap (z + x * y) = z + x * y := IntWalk.u32_in _ (by omega)
          (repeat (first | (refine gSeq_skip rfl (by rfl) ?_; (try simp only [Act.put, Act.eval, List.setIfInBounds_toArray, List.set_cons_zero, List.set_cons_succ, Array.getD_eq_getD_getElem?, List.getElem?_toArray, List.getElem?_cons_succ, List.getElem?_cons_zero, Option.getD_some])) | (refine gSeq_move _ rfl rfl (by rfl) ?_; (try simp only [Act.put, Act.eval, List.setIfInBounds_toArray, List.set_cons_zero, List.set_cons_succ, Array.getD_eq_getD_getElem?, List.getElem?_toArray, List.getElem?_cons_succ, List.getElem?_cons_zero, Option.getD_some])) | (refine gSeq_assign _ rfl rfl (by rfl) ?_; (try simp only [Act.put, Act.eval, List.setIfInBounds_toArray, List.set_cons_zero, List.set_cons_succ, Array.getD_eq_getD_getElem?, List.getElem?_toArray, List.getElem?_cons_succ, List.getElem?_cons_zero, Option.getD_some])) | (fail) | (refine gSeq_pure rfl (by rfl) ?_ ?_ ?_; (rotate_left; (intro w'; (try (have d1 := hG.cell E1.out (by simp); have d2 := hG.cell E2.out (by simp); have d3 := hG.cell E3.out (by simp))); go_simp; (first | done | with_reducible rfl)); (try simp only [Act.put, Act.eval, List.setIfInBounds_toArray, List.set_cons_zero, List.set_cons_succ, Array.getD_eq_getD_getElem?, List.getElem?_toArray, List.getElem?_cons_succ, List.getElem?_cons_zero, Option.getD_some]))) | (refine gSeq_still rfl (by rfl) ?_ ?_ ?_; (rotate_left; (intro w' hG; (try (have d1 := hG.cell E1.out (by simp); have d2 := hG.cell E2.out (by simp); have d3 := hG.cell E3.out (by simp))); go_simp; (first | done | with_reducible rfl)); (try simp only [Act.put, Act.eval, List.setIfInBounds_toArray, List.set_cons_zero, List.set_cons_succ, Array.getD_eq_getD_getElem?, List.getElem?_toArray, List.getElem?_cons_succ, List.getElem?_cons_zero, Option.getD_some])))))
          clear wij tij lij gij wx wy wxy wz
          refine gSeq_store rfl (by rfl) _ _ _ rfl (p + 1 + 1 + 1) (i + j) _ rfl rfl _ _ R3'.out (by rw [size_encK, HZ.out.1]; omega) (by kernel_rfl) rfl rfl ?_
          intro w5 r5 g5
          (try simp only [Act.put, Act.eval, List.setIfInBounds_toArray, List.set_cons_zero, List.set_cons_succ, Array.getD_eq_getD_getElem?, List.getElem?_toArray, List.getElem?_cons_succ, List.getElem?_cons_zero, Option.getD_some])
          refine gSeq_nil ?_
          have r6 := rowK_set r5
          obtain ⟨z1, z2, z3⟩ := HZ.out
          have HZ' : Hid ((Z.set (i + j) (z + x * y)).length = 64 ∧ numB 256 (Z.set (i + j) (z + x * y)) = numB 256 (a.take i) * numB 256 b + 256 ^ i * (x * numB 256 (b.take (j + 1))) ∧ ∀ k, 0 ≤ (Z.set (i + j) (z + x * y)).getD k 0 ∧ (Z.set (i + j) (z + x * y)).getD k 0 ≤ 65025 * (i + 1) ∧ (i + (j + 1) ≤ k → (Z.set (i + j) (z + x * y)).getD k 0 ≤ 65025 * i)) := by
            refine ⟨by rw [List.length_set, z1], ?_, fun k => ?_⟩
            · rw [numB_set 256 Z (i + j) _ (by omega), ← HZ0.out, z2, numB_next 256 b j (by rw [HB.out]; exact hlj), ← HY.out, show z + x * y - z = x * y by omega, Int.mul_add, Int.mul_add, Int.pow_add]
              have : (256 : Int) ^ i * (x * (256 ^ j * y)) = 256 ^ i * 256 ^ j * (x * y) := by
                rw [← Int.mul_assoc x, Int.mul_comm x (256 ^ j), Int.mul_assoc, ← Int.mul_assoc]
              omega
            · by_cases hkk : k = i + j
              · subst hkk
                rw [List.getD_eq_getElem?_getD, List.getElem?_set_self (by omega), Option.getD_some]
                omega
              · rw [List.getD_eq_getElem?_getD, List.getElem?_set_ne (by omega), ← List.getD_eq_getElem?_getD]
                have := z3 k
                omega
          have R0 := Lib.hid ((g5.block _ (row_lt R0'.out) (by intro e; injection e; omega)).trans R0'.out)
          have R1 := Lib.hid ((g5.block _ (row_lt R1'.out) (by intro e; injection e; omega)).trans R1'.out)
          have R2 := Lib.hid ((g5.block _ (row_lt R2'.out) (by intro e; injection e; omega)).trans R2'.out)
          have R3 := Lib.hid r6
          have HG := Lib.hid (grown_row HG'.out g5 (fun j hj => by injection hj with hj; have := HP.out; omega))
          clear r5 g5 r6 z1 z2 z3 R0' R1' R2' R3' HG' HZ hx0 hy0 hz0 hz1 hxy0 hxy1
          go_wp2_with fail
          exact ⟨⟨j + 1, _, by omega, by go_num, R0.out, R1.out, R2.out, R3.out, HZ'.out, HG.out⟩, by simp [intOf]; omega⟩
        · have : j = 32 := by omega
          subst this
          have HZ' : Hid (Z.length = 64 ∧ numB 256 Z = numB 256 (a.take (i + 1)) * numB 256 b ∧ ∀ k, 0 ≤ Z.getD k 0 ∧ Z.getD k 0 ≤ 65025 * ((i + 1 : Nat) : Int)) := by
            obtain ⟨z1, z2, z3⟩ := HZ.out
            refine ⟨z1, ?_, fun k => by have := z3 k; omega⟩
            rw [z2, List.take_of_length_le (l := b) (by rw [HB.out]; omega), numB_next 256 a i (by rw [HA.out]; exact hlt), ← HX.out, Int.add_mul, Int.mul_assoc]
          go_wp2_with fail
          exact ⟨⟨i + 1, Z, by omega, by go_num, R0.out, R1.out, R2.out, R3.out, HZ'.out, HG.out⟩, by simp [intOf]; omega⟩
    · have : i = 32 := by omega
      have hI : (i : Int) = 32 := by omega
      rw [hI]
      clear hI
      subst this
      have HZ' : Hid (Z.length = 64 ∧ numB 256 Z = numB 256 a * numB 256 b ∧ ∀ k, 0 ≤ Z.getD k 0 ∧ Z.getD k 0 ≤ 2080800) := by
        obtain ⟨z1, z2, z3⟩ := HZ.out
        refine ⟨z1, by rw [z2, List.take_of_length_le (by rw [HA.out]; omega)], fun k => by have := z3 k; omega⟩
      clear HZ
      obtain ⟨q, hq⟩ : ∃ q, wr.heap.size = q := ⟨_, rfl⟩
      have HPQ := Lib.hid (show p + 1 + 1 + 1 < q by rw [← hq]; exact row_lt R3.out)
      have HQ := Lib.hid hq
      clear hq
      go_wp2_with fail
      rw [HQ.out]
      go_loopw [10, 9] (fun v c_ wr' => ∃ k : Nat, k ≤ 64 ∧ v = .int .i64 k ∧ c_ = .int .u32 (carry 256 Z zs64 k) ∧ wr'.heap[p + 1 + 1]? = some (.cells (encK .u8 (List.replicate 32 0)) A32 (0, 0)) ∧
        wr'.heap[p + 1 + 1 + 1]? = some (.cells (encK .u32 Z) U64 (0, 0)) ∧ wr'.heap[q]? = some (.cells (encK .u8 (sums 256 Z zs64 k ++ List.replicate (64 - k) 0)) A64 (0, 0)) ∧ w.grownBy wr' none) (fun v _ _ => 64 - (intOf v).toNat)
      case atStart =>
        exact ⟨0, by omega, rfl, rfl, (alloc_up _ _ (row_lt R2.out)).trans R2.out, (alloc_up _ _ (row_lt R3.out)).trans R3.out, alloc_at _ _ HQ.out.symm, grown_alloc HG.out _⟩
      case round =>
        obtain ⟨k, hk, rfl, rfl, r2, r3, r4, hg⟩ := hrel
        clear R0 R1 R2 R3 HG
        have R2 := Lib.hid r2
        have R3 := Lib.hid r3
        have R4 := Lib.hid r4
        have HG := Lib.hid hg
        clear r2 r3 r4 hg
        by_cases hlk : k < 64
        · have hk0 : (0 : Int) ≤ (k : Int) := by omega
          have hk64 : (k : Int) < 64 := by omega
          have e1 := rowK_at R3.out k (by rw [HZ'.out.1]; exact hlk)
          obtain ⟨z, hz⟩ : ∃ z, z = Z.getD k 0 := ⟨_, rfl⟩
          obtain ⟨c, hc⟩ : ∃ c, c = carry 256 Z zs64 k := ⟨_, rfl⟩
          have hz0 := HZ'.out.2.2 k
          have hc0 := carry_low (M := 2080800) (by decide) HZ'.out.2.2 k
          rw [← hz] at e1 hz0
          rw [← hc] at hc0 ⊢
          have HS := Lib.hid (show (c + z) % 256 = sumAt 256 Z zs64 k by rw [sumAt, show zs64.getD k 0 = 0 from zeros_getD 64 k, ← hz, ← hc]; congr 1; omega)
          have HC := Lib.hid (show (c + z) / 256 = carry 256 Z zs64 (k + 1) by rw [carry, show zs64.getD k 0 = 0 from zeros_getD 64 k, ← hz, ← hc]; congr 1; omega)
          clear hz hc
          go_wp2_with (refine wpList_store_cell rfl _ (.tmp 47) (.tmp 46) rfl q k _ rfl rfl _ _ R4.out (by rw [size_encK, List.length_append, length_sums, List.length_replicate]; omega) (by kernel_rfl) rfl rfl ?_)
          intro w5 r5 g5
          have r6 := rowK_set r5
          have hset : (sums 256 Z zs64 k ++ List.replicate (64 - k) 0).set k (sumAt 256 Z zs64 k) = sums 256 Z zs64 (k + 1) ++ List.replicate (64 - (k + 1)) 0 := set_next _ k 64 hlk
          rw [HS.out, hset] at r6
          have R2' := Lib.hid ((g5.block _ (row_lt R2.out) (by intro e; injection e; have := HPQ.out; omega)).trans R2.out)
          have R3' := Lib.hid ((g5.block _ (row_lt R3.out) (by intro e; injection e; have := HPQ.out; omega)).trans R3.out)
          have R4' := Lib.hid r6
          have HG' := Lib.hid (grown_row HG.out g5 (fun j hj => by injection hj with hj; have := HP.out; have := HPQ.out; omega))
          clear r5 g5 r6 hset e1 R2 R3 R4 HG
          go_wp2_with fail
          exact ⟨⟨k + 1, by omega, by go_num, by rw [← HC.out], R2'.out, R3'.out, R4'.out, HG'.out⟩, by simp [intOf]; omega⟩
        · have : k = 64 := by omega
          subst this
          have R5 := R4.out
          have hv := mulrange (B := 256) (by decide) HA.out HOA.out HOB.out 32 (by rw [HB.out]; decide)
          rw [List.take_of_length_le (by rw [HB.out]; decide)] at hv
          rw [show sums 256 Z zs64 64 ++ List.replicate (64 - 64) 0 = sums 256 Z zs64 64 by simp, (sums_eq (B := 256) (by decide) HZ'.out.1 (show zs64.length = 64 from List.length_replicate ..)).1, HZ'.out.2.1, show numB 256 zs64 = 0 from numB_zeros 256 64, Int.add_zero] at R5
          have R6 := Lib.hid R5
          have HV := Lib.hid hv
          clear R5 hv HZ'
          go_wp2_with (refine wpList_slice rfl _ _ _ _ rfl _ rfl _ _ rfl rfl _ (sliceAt_all _ 64 5 Try.underlying44 rfl q 0) ?_)
          refine (rscalar_any _ 64 64 (digB 256 64 (numB 256 a * numB 256 b)) _ (by have h := rd_row R6.out; rw [length_digB] at h; exact h) (ok_digB (by decide) _ _) (by decide)).mono ?_
          rintro e w7 ⟨rfl, hg7⟩
          rw [numB_digB (by decide), Int.emod_eq_of_lt HV.out.1 HV.out.2]
          have R2' := Lib.hid ((hg7.block _ (row_lt R2.out) (by simp)).trans R2.out)
          have HG' := Lib.hid (grown_trans HG.out hg7)
          clear hg7 R2 HG R6
          go_wp2_with (refine wpList_store_range rfl A32 (.tmp 4) (.tmp 51) rfl (p + 1 + 1) 0 (encK .u8 (digB 256 32 (numB 256 a * numB 256 b % ordL))) rfl rfl _ _ R2'.out (by rw [size_encK, size_encK, length_digB]; decide) (by rw [size_encK, length_digB]; kernel_rfl) (one_encK _ _) ?_)
          intro w8 r8 g8
          rw [putAt_all _ _ (by rw [Array.length_toList, size_encK, size_encK, length_digB]; rfl)] at r8
          have R9 : Hid (w8.heap[p + 1 + 1]? = some (.cells (encK .u8 (digB 256 32 (numB 256 a * numB 256 b % ordL))) A32 (0, 0))) := r8
          have HG9 : Hid (w.grownBy w8 none) := grown_row HG'.out g8 (fun k hk => by injection hk with hk; have := HP.out; omega)
          clear r8 g8
          go_wp2_with fail
          exact bodyPost_ret (results_cell_row rfl _ _ (p + 1 + 1) _ _ _ _ rfl R9.out Try.underlying22 rfl (by rw [size_encK, length_digB]; kernel_rfl)) rfl ⟨rfl, HG9.out⟩
end Go.Proofs.Ytcfgobpjhppebaa
