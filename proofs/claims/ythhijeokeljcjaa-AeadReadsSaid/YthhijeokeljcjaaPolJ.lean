/- poly's reference: products. -/
import Derived.Test.YthhijeokeljcjaaPolI
namespace Go.Proofs.Ythhijeokeljcjaa
set_option linter.unusedVariables false
set_option linter.unusedSimpArgs false
open Go.RowKit Go.Proofs.YthhijeokeljcjaaL

/-- The place of a product of two limbs. -/
def idx (i j : Nat) : Nat := if i + j < 17 then i + j else i + j - 17
theorem idx_lt (i j : Nat) (hi : i < 17) (hj : j < 17) : idx i j < 17 := by unfold idx; split <;> omega
theorem idx_ne (i j j' : Nat) (hi : i < 17) (hj : j < j') (hj' : j' < 17) : idx i j ≠ idx i j' := by unfold idx; split <;> split <;> omega
/-- Its weight. -/
def wgt (i j : Nat) : Int := if i + j < 17 then 1 else 320
theorem wgt_mod (i j : Nat) (x : Int) : (256 ^ idx i j * (wgt i j * x)) % PP = (256 ^ (i + j) * x) % PP := by
  unfold idx wgt
  split
  · rw [Int.one_mul]
  · rename_i h
    have e : (256 : Int) ^ (i + j) = 256 ^ (i + j - 17) * 256 ^ 17 := by rw [← Int.pow_add]; congr 1; omega
    have e17 : (256 : Int) ^ 17 = 320 + PP * 64 := by decide
    rw [e, e17, Int.mul_assoc, Int.add_mul, Int.mul_add, Int.mul_assoc PP, ← Int.mul_assoc (256 ^ (i + j - 17)) PP, Int.mul_comm (256 ^ (i + j - 17)) PP, Int.mul_assoc PP, Int.add_mul_emod_self_left]
/-- What holds in a row. -/
def RowI (a b : List Int) (i : Nat) (x : Int) (j : Nat) (Z : List Int) : Prop :=
  lowL (20808000 * (i + 1)) Z ∧ 0 ≤ numB 256 Z ∧ numB 256 Z % PP = (numB 256 (a.take i) * numB 256 b + 256 ^ i * (x * numB 256 (b.take j))) % PP ∧ ∀ j', j ≤ j' → j' < 17 → Z.getD (idx i j') 0 ≤ 20808000 * i
theorem rowI_step {a b : List Int} {i : Nat} {x : Int} {j : Nat} {Z : List Int} (h : RowI a b i x j Z) (hi : i < 17) (hj : j < 17) (hx : 0 ≤ x ∧ x < 256) (hob : okB 256 b) (hb : b.length = 17) :
    RowI a b i x (j + 1) (Z.set (idx i j) (Z.getD (idx i j) 0 + wgt i j * (x * b.getD j 0))) := by
  obtain ⟨⟨h1, h2⟩, h3, h4, h5⟩ := h
  have hk := idx_lt i j hi hj
  have hy := ok_getD (B := 256) (by decide) hob j
  have hxy0 : 0 ≤ x * b.getD j 0 := Int.mul_nonneg hx.1 hy.1
  have hxy1 : x * b.getD j 0 ≤ 255 * 255 := Int.mul_le_mul (by omega) (by omega) hy.1 (by decide)
  have hw : 0 ≤ wgt i j * (x * b.getD j 0) ∧ wgt i j * (x * b.getD j 0) ≤ 20808000 := by unfold wgt; split <;> omega
  have hz := h5 j (Nat.le_refl _) hj
  have hz0 := h2 (idx i j)
  have hn : numB 256 (Z.set (idx i j) (Z.getD (idx i j) 0 + wgt i j * (x * b.getD j 0))) = numB 256 Z + 256 ^ idx i j * (wgt i j * (x * b.getD j 0)) := by
    rw [numB_set 256 Z _ _ (by omega)]; congr 2; omega
  refine ⟨⟨by rw [List.length_set, h1], fun k => ?_⟩, ?_, ?_, fun j' hj1 hj2 => ?_⟩
  · rw [getD_set _ _ _ _ (by omega)]
    split
    · omega
    · exact h2 k
  · rw [hn]
    have := Int.mul_nonneg (show (0 : Int) ≤ 256 ^ idx i j from Int.le_of_lt (Int.pow_pos (by decide))) hw.1
    omega
  · rw [hn, Int.add_emod, wgt_mod, h4, ← Int.add_emod, numB_next 256 b j (by omega), Int.mul_add, Int.mul_add, Int.pow_add, Int.add_assoc]
    congr 3
    rw [← Int.mul_assoc x, Int.mul_comm x (256 ^ j), Int.mul_assoc (256 ^ j), ← Int.mul_assoc]
    simp only [Int.mul_assoc]
  · rw [getD_set _ _ _ _ (by omega), if_neg (fun e => idx_ne i j j' hi (by omega) hj2 e.symm)]
    exact h5 j' (by omega) hj2
theorem rowI_end {a b : List Int} {i : Nat} {Z : List Int} (h : RowI a b i (a.getD i 0) 17 Z) (hi : i < a.length) (hb : b.length = 17) :
    lowL (20808000 * (i + 1)) Z ∧ 0 ≤ numB 256 Z ∧ numB 256 Z % PP = (numB 256 (a.take (i + 1)) * numB 256 b) % PP := by
  obtain ⟨h1, h3, h4, h5⟩ := h
  refine ⟨h1, h3, ?_⟩
  rw [h4, List.take_of_length_le (l := b) (by omega), numB_next 256 a i hi, Int.add_mul, Int.mul_assoc]
theorem rowI_start {a b : List Int} {i : Nat} {x : Int} {Z : List Int} (h : lowL (20808000 * i) Z ∧ 0 ≤ numB 256 Z ∧ numB 256 Z % PP = (numB 256 (a.take i) * numB 256 b) % PP) : RowI a b i x 0 Z := by
  obtain ⟨h1, h3, h4⟩ := h
  refine ⟨lowL_mono h1 (by omega), h3, ?_, fun j' _ _ => (h1.2 _).2⟩
  rw [h4]; simp [numB]

set_option maxHeartbeats 2000000 in
set_option maxRecDepth 100000 in
theorem rprod_any (a b : List Int) (w : World) (ha : a.length = 17) (hoa : okB 256 a) (hb : b.length = 17) (hob : okB 256 b) :
    Calls Try.prog 37 #[.agg (encK .u32 a), .agg (encK .u32 b)] w fun e w' => ∃ v, e = .returned (.agg (encK .u32 (digB 256 17 v))) ∧ 0 ≤ v ∧ v < P2 ∧ v % PP = (numB 256 a * numB 256 b) % PP ∧ w.grownBy w' none := by
  have HA := Lib.hid ha
  have HOA := Lib.hid hoa
  have HB := Lib.hid hb
  have HOB := Lib.hid hob
  clear ha hoa hb hob
  go_enter Try.func37, Try.ntmps37
  obtain ⟨p, hp⟩ : ∃ p, w.heap.size = p := ⟨_, rfl⟩
  have HP := Lib.hid hp
  clear hp
  go_wp2_with fail
  rw [HP.out]
  go_loopw [6] (fun v wr => ∃ (i : Nat) (Z : List Int), i ≤ 17 ∧ v = .int .i64 i ∧ wr.heap[p]? = some (.cells (encK .u32 a) A17 (0, 0)) ∧ wr.heap[p + 1]? = some (.cells (encK .u32 b) A17 (0, 0)) ∧ wr.heap[p + 1 + 1]? = some (.cells (encK .u32 (List.replicate 17 0)) A17 (0, 0)) ∧ wr.heap[p + 1 + 1 + 1]? = some (.cells (encK .u32 Z) A17 (0, 0)) ∧
    Hid (lowL (20808000 * i) Z ∧ 0 ≤ numB 256 Z ∧ numB 256 Z % PP = (numB 256 (a.take i) * numB 256 b) % PP) ∧ w.grownBy wr none) (fun v _ => 17 - (intOf v).toNat)
  case atStart =>
    rw [← HP.out]
    exact ⟨0, z17, by omega, rfl, four_0 _ _ _ _ _, four_1 _ _ _ _ _, four_2 _ _ _ _ _, four_3 _ _ _ _ _, ⟨⟨List.length_replicate .., fun k => by rw [z17_getD]; omega⟩, by rw [z17, numB_rep0]; exact Int.le_refl _, by rw [z17, numB_rep0]; simp [numB]⟩, four_g _ _ _ _ _⟩
  case round =>
    obtain ⟨i, Z, hi, rfl, r0, r1, r2, r3, HZ, hg⟩ := hrel
    have R0 := Lib.hid r0
    have R1 := Lib.hid r1
    have R2 := Lib.hid r2
    have R3 := Lib.hid r3
    have HG := Lib.hid hg
    clear r0 r1 r2 r3 hg
    by_cases hlt : i < 17
    · have hi0 : 0 ≤ (i : Int) := by omega
      have hi17 : (i : Int) < 17 := by omega
      obtain ⟨x, hx⟩ : ∃ x, x = a.getD i 0 := ⟨_, rfl⟩
      have hx0 := ok_getD (B := 256) (by decide) HOA.out i
      rw [← hx] at hx0
      have HX := Lib.hid hx
      have HX0 := Lib.hid hx0
      clear hx
      go_wp2_with fail
      go_loopw [7] (fun v wr => ∃ (j : Nat) (Z : List Int), j ≤ 17 ∧ v = .int .i64 j ∧ wr.heap[p]? = some (.cells (encK .u32 a) A17 (0, 0)) ∧ wr.heap[p + 1]? = some (.cells (encK .u32 b) A17 (0, 0)) ∧ wr.heap[p + 1 + 1]? = some (.cells (encK .u32 (List.replicate 17 0)) A17 (0, 0)) ∧ wr.heap[p + 1 + 1 + 1]? = some (.cells (encK .u32 Z) A17 (0, 0)) ∧
        Hid (RowI a b i x j Z) ∧ w.grownBy wr none) (fun v _ => 17 - (intOf v).toNat)
      case atStart => exact ⟨0, Z, by omega, rfl, R0.out, R1.out, R2.out, R3.out, rowI_start HZ.out, HG.out⟩
      case round =>
        clear HZ R0 R1 R2 R3 HG
        obtain ⟨j, Z, hj, rfl, r0, r1, r2, r3, HZ, hg⟩ := hrel
        have R0 := Lib.hid r0
        have R1 := Lib.hid r1
        have R2 := Lib.hid r2
        have R3 := Lib.hid r3
        have HG := Lib.hid hg
        clear r0 r1 r2 r3 hg
        by_cases hlj : j < 17
        · have hj0 : 0 ≤ (j : Int) := by omega
          have hj17 : (j : Int) < 17 := by omega
          have hst := rowI_step HZ.out hlt hlj HX0.out HOB.out HB.out
          have hk := idx_lt i j hlt hlj
          have e1 := rowK_at R0.out i (by rw [HA.out]; exact hlt)
          have e2 := rowK_at R1.out j (by rw [HB.out]; exact hlj)
          have e3 := rowK_at R3.out (idx i j) (by rw [HZ.out.1.1]; exact hk)
          have hz0 := HZ.out.1.2 (idx i j)
          have hz1 := HZ.out.2.2.2 j (Nat.le_refl _) hlj
          have hy0 := ok_getD (B := 256) (by decide) HOB.out j
          obtain ⟨y, hy⟩ : ∃ y, y = b.getD j 0 := ⟨_, rfl⟩
          obtain ⟨z, hz⟩ : ∃ z, z = Z.getD (idx i j) 0 := ⟨_, rfl⟩
          rw [← HX.out] at e1
          rw [← hy] at e2 hy0 hst
          rw [← hz] at e3 hz0 hz1 hst
          have HST := Lib.hid hst
          have HZL := Lib.hid HZ.out.1.1
          have hxy0 : 0 ≤ x * y := Int.mul_nonneg hx0.1 hy0.1
          have hxy1 : x * y ≤ 255 * 255 := Int.mul_le_mul (by omega) (by omega) hy0.1 (by decide)
          have hzb : 0 ≤ z ∧ z ≤ 332928000 := by omega
          clear hy hz hst hk hz0 hz1 HZ
          by_cases hc : i + j < 17
          · have hid : idx i j = i + j := if_pos hc
            have hwg : wgt i j = 1 := if_pos hc
            have hs := HST.out
            rw [hid, hwg, Int.one_mul] at hs
            rw [hid] at e3
            have HS := Lib.hid hs
            have wij : IntKind.i64.wrap ((i : Int) + (j : Int)) = (i : Int) + (j : Int) := IntWalk.i64_in _ (by omega)
            have hc' : (i : Int) + (j : Int) < 17 := by omega
            clear hs hid hwg HST
            go_wp2_with fail
            refine wp_region_grow [(2, 0), (2, 1), (2, 2), (2, 3), (1, 4), (2, 5), (2, 6), (1, 7), (2, 8), (2, 9), (1, 10), (2, 11), (2, 12), (2, 13), (3, 14)] (by kernel_rfl) (by kernel_rfl) (fun _ _ _ _ _ h => h) (fun _ _ _ _ _ h => h) ?_
            refine gSeq_name fun w4 hw4 => ?_
            have g4 : wr.grownBy w4 none := by rw [hw4]; exact grown_drew _ _
            have E1 := Lib.hid (g4.cell e1 (by simp))
            have E2 := Lib.hid (g4.cell e2 (by simp))
            have E3 := Lib.hid (g4.cell e3 (by simp))
            have R0' := Lib.hid (row_keep R0.out g4)
            have R1' := Lib.hid (row_keep R1.out g4)
            have R2' := Lib.hid (row_keep R2.out g4)
            have R3' := Lib.hid (row_keep R3.out g4)
            have HG' := Lib.hid (grown_trans HG.out g4)
            clear g4 hw4 e1 e2 e3 R0 R1 R2 R3 HG
            have tij : ((i : Int) + (j : Int)).toNat = i + j := by omega
            have gij : 0 ≤ (i : Int) + (j : Int) := by omega
            have wxy : IntKind.u32.wrap (x * y) = x * y := IntWalk.u32_in _ (by omega)
            have wz : IntKind.u32.wrap (z + x * y) = z + x * y := IntWalk.u32_in _ (by omega)
            (repeat (first | (refine gSeq_skip rfl (by rfl) ?_; (try simp only [Act.put, Act.eval, List.setIfInBounds_toArray, List.set_cons_zero, List.set_cons_succ, Array.getD_eq_getD_getElem?, List.getElem?_toArray, List.getElem?_cons_succ, List.getElem?_cons_zero, Option.getD_some])) | (refine gSeq_move _ rfl rfl (by rfl) ?_; (try simp only [Act.put, Act.eval, List.setIfInBounds_toArray, List.set_cons_zero, List.set_cons_succ, Array.getD_eq_getD_getElem?, List.getElem?_toArray, List.getElem?_cons_succ, List.getElem?_cons_zero, Option.getD_some])) | (refine gSeq_assign _ rfl rfl (by rfl) ?_; (try simp only [Act.put, Act.eval, List.setIfInBounds_toArray, List.set_cons_zero, List.set_cons_succ, Array.getD_eq_getD_getElem?, List.getElem?_toArray, List.getElem?_cons_succ, List.getElem?_cons_zero, Option.getD_some])) | (fail) | (refine gSeq_pure rfl (by rfl) ?_ ?_ ?_; (rotate_left; (intro w'; (try (have d1 := hG.cell E1.out (by simp); have d2 := hG.cell E2.out (by simp); have d3 := hG.cell E3.out (by simp))); go_simp; (first | done | with_reducible rfl)); (try simp only [Act.put, Act.eval, List.setIfInBounds_toArray, List.set_cons_zero, List.set_cons_succ, Array.getD_eq_getD_getElem?, List.getElem?_toArray, List.getElem?_cons_succ, List.getElem?_cons_zero, Option.getD_some]))) | (refine gSeq_still rfl (by rfl) ?_ ?_ ?_; (rotate_left; (intro w' hG; (try (have d1 := hG.cell E1.out (by simp); have d2 := hG.cell E2.out (by simp); have d3 := hG.cell E3.out (by simp))); go_simp; (first | done | with_reducible rfl)); (try simp only [Act.put, Act.eval, List.setIfInBounds_toArray, List.set_cons_zero, List.set_cons_succ, Array.getD_eq_getD_getElem?, List.getElem?_toArray, List.getElem?_cons_succ, List.getElem?_cons_zero, Option.getD_some])))))
            clear wij tij gij wxy wz
            refine gSeq_store rfl (by rfl) _ _ _ rfl (p + 1 + 1 + 1) (i + j) _ rfl rfl _ _ R3'.out (by rw [size_encK, HZL.out]; exact hc) (by kernel_rfl) rfl rfl ?_
            intro w5 r5 g5
            (try simp only [Act.put, Act.eval, List.setIfInBounds_toArray, List.set_cons_zero, List.set_cons_succ, Array.getD_eq_getD_getElem?, List.getElem?_toArray, List.getElem?_cons_succ, List.getElem?_cons_zero, Option.getD_some])
            refine gSeq_nil ?_
            have R3 := Lib.hid (rowK_set r5)
            have R0 := Lib.hid ((g5.block _ (row_lt R0'.out) (by intro e; injection e; omega)).trans R0'.out)
            have R1 := Lib.hid ((g5.block _ (row_lt R1'.out) (by intro e; injection e; omega)).trans R1'.out)
            have R2 := Lib.hid ((g5.block _ (row_lt R2'.out) (by intro e; injection e; omega)).trans R2'.out)
            have HG := Lib.hid (grown_row HG'.out g5 (fun j hj => by injection hj with hj; have := HP.out; omega))
            clear r5 g5 R0' R1' R2' R3' HG' hx0 hy0 hxy0 hxy1 hzb hc hc'
            go_wp2_with fail
            exact ⟨⟨j + 1, _, by omega, by go_num, R0.out, R1.out, R2.out, R3.out, HS, HG.out⟩, by simp [intOf]; omega⟩
          · have hid : idx i j = i + j - 17 := if_neg hc
            have hwg : wgt i j = 320 := if_neg hc
            have hs := HST.out
            rw [hid, hwg] at hs
            rw [hid] at e3
            have HS := Lib.hid hs
            have wij : IntKind.i64.wrap ((i : Int) + (j : Int)) = (i : Int) + (j : Int) := IntWalk.i64_in _ (by omega)
            have hc' : ¬ (i : Int) + (j : Int) < 17 := by omega
            have wij2 : IntKind.i64.wrap ((i : Int) + (j : Int) - 17) = (i : Int) + (j : Int) - 17 := IntWalk.i64_in _ (by omega)
            clear hs hid hwg HST
            go_wp2_with fail
            refine wp_region_grow [(2, 0), (2, 1), (2, 2), (2, 3), (2, 4), (1, 5), (2, 6), (2, 7), (1, 8), (2, 9), (2, 10), (2, 11), (1, 12), (2, 13), (2, 14), (2, 15), (3, 16)] (by kernel_rfl) (by kernel_rfl) (fun _ _ _ _ _ h => h) (fun _ _ _ _ _ h => h) ?_
            refine gSeq_name fun w4 hw4 => ?_
            have g4 : wr.grownBy w4 none := by rw [hw4]; exact grown_drew _ _
            have E1 := Lib.hid (g4.cell e1 (by simp))
            have E2 := Lib.hid (g4.cell e2 (by simp))
            have E3 := Lib.hid (g4.cell e3 (by simp))
            have R0' := Lib.hid (row_keep R0.out g4)
            have R1' := Lib.hid (row_keep R1.out g4)
            have R2' := Lib.hid (row_keep R2.out g4)
            have R3' := Lib.hid (row_keep R3.out g4)
            have HG' := Lib.hid (grown_trans HG.out g4)
            clear g4 hw4 e1 e2 e3 R0 R1 R2 R3 HG
            have tij : ((i : Int) + (j : Int) - 17).toNat = i + j - 17 := by omega
            have gij : 0 ≤ (i : Int) + (j : Int) - 17 := by omega
            have lij : (i : Int) + (j : Int) - 17 < 17 := by omega
            have hxe : 320 * x * y = 320 * (x * y) := Int.mul_assoc _ _ _
            have wx : IntKind.u32.wrap (320 * x) = 320 * x := IntWalk.u32_in _ (by omega)
            have wxy : IntKind.u32.wrap (320 * x * y) = 320 * x * y := IntWalk.u32_in _ (by omega)
            have wz : IntKind.u32.wrap (z + 320 * x * y) = z + 320 * x * y := IntWalk.u32_in _ (by omega)
            have HXE := Lib.hid hxe
            clear hxe
            (repeat (first | (refine gSeq_skip rfl (by rfl) ?_; (try simp only [Act.put, Act.eval, List.setIfInBounds_toArray, List.set_cons_zero, List.set_cons_succ, Array.getD_eq_getD_getElem?, List.getElem?_toArray, List.getElem?_cons_succ, List.getElem?_cons_zero, Option.getD_some])) | (refine gSeq_move _ rfl rfl (by rfl) ?_; (try simp only [Act.put, Act.eval, List.setIfInBounds_toArray, List.set_cons_zero, List.set_cons_succ, Array.getD_eq_getD_getElem?, List.getElem?_toArray, List.getElem?_cons_succ, List.getElem?_cons_zero, Option.getD_some])) | (refine gSeq_assign _ rfl rfl (by rfl) ?_; (try simp only [Act.put, Act.eval, List.setIfInBounds_toArray, List.set_cons_zero, List.set_cons_succ, Array.getD_eq_getD_getElem?, List.getElem?_toArray, List.getElem?_cons_succ, List.getElem?_cons_zero, Option.getD_some])) | (fail) | (refine gSeq_pure rfl (by rfl) ?_ ?_ ?_; (rotate_left; (intro w'; (try (have d1 := hG.cell E1.out (by simp); have d2 := hG.cell E2.out (by simp); have d3 := hG.cell E3.out (by simp))); go_simp; (first | done | with_reducible rfl)); (try simp only [Act.put, Act.eval, List.setIfInBounds_toArray, List.set_cons_zero, List.set_cons_succ, Array.getD_eq_getD_getElem?, List.getElem?_toArray, List.getElem?_cons_succ, List.getElem?_cons_zero, Option.getD_some]))) | (refine gSeq_still rfl (by rfl) ?_ ?_ ?_; (rotate_left; (intro w' hG; (try (have d1 := hG.cell E1.out (by simp); have d2 := hG.cell E2.out (by simp); have d3 := hG.cell E3.out (by simp))); go_simp; (first | done | with_reducible rfl)); (try simp only [Act.put, Act.eval, List.setIfInBounds_toArray, List.set_cons_zero, List.set_cons_succ, Array.getD_eq_getD_getElem?, List.getElem?_toArray, List.getElem?_cons_succ, List.getElem?_cons_zero, Option.getD_some])))))
            clear wij wij2 tij gij lij wx wxy wz
            rw [HXE.out]
            refine gSeq_store rfl (by rfl) _ _ _ rfl (p + 1 + 1 + 1) (i + j - 17) _ rfl rfl _ _ R3'.out (by rw [size_encK, HZL.out]; omega) (by kernel_rfl) rfl rfl ?_
            intro w5 r5 g5
            (try simp only [Act.put, Act.eval, List.setIfInBounds_toArray, List.set_cons_zero, List.set_cons_succ, Array.getD_eq_getD_getElem?, List.getElem?_toArray, List.getElem?_cons_succ, List.getElem?_cons_zero, Option.getD_some])
            refine gSeq_nil ?_
            have R3 := Lib.hid (rowK_set r5)
            have R0 := Lib.hid ((g5.block _ (row_lt R0'.out) (by intro e; injection e; omega)).trans R0'.out)
            have R1 := Lib.hid ((g5.block _ (row_lt R1'.out) (by intro e; injection e; omega)).trans R1'.out)
            have R2 := Lib.hid ((g5.block _ (row_lt R2'.out) (by intro e; injection e; omega)).trans R2'.out)
            have HG := Lib.hid (grown_row HG'.out g5 (fun j hj => by injection hj with hj; have := HP.out; omega))
            clear r5 g5 R0' R1' R2' R3' HG' hx0 hy0 hxy0 hxy1 hzb hc hc'
            go_wp2_with fail
            exact ⟨⟨j + 1, _, by omega, by go_num, R0.out, R1.out, R2.out, R3.out, HS, HG.out⟩, by simp [intOf]; omega⟩
        · have : j = 17 := by omega
          subst this
          have hz := HZ.out
          rw [HX.out] at hz
          have HZ' := Lib.hid (rowI_end hz (by rw [HA.out]; exact hlt) HB.out)
          clear hz HZ
          go_wp2_with fail
          refine ⟨⟨i + 1, Z, by omega, by go_num, R0.out, R1.out, R2.out, R3.out, ?_, HG.out⟩, by simp [intOf]; omega⟩
          exact ⟨lowL_mono HZ'.out.1 (by omega), HZ'.out.2⟩
    · have : i = 17 := by omega
      subst this
      have HZ' := Lib.hid (lowL_mono HZ.out.1 (show (20808000 * ((17 : Nat) : Int)) ≤ 400000000 by decide))
      have HV := Lib.hid (fold_two HZ.out.2.1 (low_bound HZ'.out (by decide) (Int.le_refl _)).2)
      have HZN := Lib.hid (show numB 256 Z % PP = (numB 256 a * numB 256 b) % PP by rw [HZ.out.2.2, List.take_of_length_le (by rw [HA.out]; decide)])
      go_wp2_with (refine wpList_load_row rfl A17 (.tmp 5) rfl (p + 1 + 1 + 1) rfl _ _ _ _ R3.out Try.underlying68 rfl (by rw [size_encK, HZ'.out.1]; kernel_rfl) ?_)
      refine (squeeze_any Z _ HZ'.out).mono ?_
      rintro e w3 ⟨rfl, hg3⟩
      obtain ⟨v, hv⟩ : ∃ v, v = foldN (numB 256 Z) 2 := ⟨_, rfl⟩
      rw [← hv] at HV ⊢
      have R2' := Lib.hid (row_keep R2.out hg3)
      have HG' := Lib.hid (grown_trans HG.out hg3)
      clear hg3 R2 HG R0 R1 R3 hv HZ
      go_wp2_with (refine wpList_store_range rfl A17 (.tmp 4) (.tmp 51) rfl (p + 1 + 1) 0 (encK .u32 (digB 256 17 v)) rfl rfl _ _ R2'.out (by rw [size_encK, size_encK, length_digB]; decide) (by rw [size_encK, length_digB]; kernel_rfl) (one_encK _ _) ?_)
      intro w8 r8 g8
      rw [putAt_all _ _ (by rw [Array.length_toList, size_encK, size_encK, length_digB]; rfl)] at r8
      have R9 : Hid (w8.heap[p + 1 + 1]? = some (.cells (encK .u32 (digB 256 17 v)) A17 (0, 0))) := r8
      have HG9 : Hid (w.grownBy w8 none) := grown_row HG'.out g8 (fun k hk => by injection hk with hk; have := HP.out; omega)
      clear r8 g8
      go_wp2_with fail
      exact bodyPost_ret (results_cell_row rfl _ _ (p + 1 + 1) _ _ _ _ rfl R9.out Try.underlying68 rfl (by rw [size_encK, length_digB]; kernel_rfl)) rfl ⟨v, rfl, HV.out.1, HV.out.2.1, HV.out.2.2.trans HZN.out, HG9.out⟩
end Go.Proofs.Ythhijeokeljcjaa
