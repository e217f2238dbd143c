/- poly's reference: sums and products. -/
import Derived.Test.YthhijeokeljcjaaPolH
namespace Go.Proofs.Ythhijeokeljcjaa
set_option linter.unusedVariables false
set_option linter.unusedSimpArgs false
open Go.RowKit Go.Proofs.YthhijeokeljcjaaL

theorem numB_bound {M : Int} : ∀ (Z : List Int), (∀ x ∈ Z, 0 ≤ x ∧ x ≤ M) → 0 ≤ numB 256 Z ∧ 255 * numB 256 Z ≤ M * (256 ^ Z.length - 1)
  | [], _ => by simp [numB]
  | x :: r, h => by
    have hx := h x (by simp)
    have ih := numB_bound r (fun y hy => h y (by simp [hy]))
    rw [numB, List.length_cons, Int.pow_succ, Int.mul_sub] 
    rw [Int.mul_sub] at ih
    have e : M * (256 ^ r.length * 256) = 256 * (M * 256 ^ r.length) := by rw [← Int.mul_assoc, Int.mul_comm]
    rw [e]
    omega
theorem low_bound {M : Int} {Z : List Int} (h : lowL M Z) (hM0 : 0 ≤ M) (hM : M ≤ 400000000) : 0 ≤ numB 256 Z ∧ numB 256 Z < 2 ^ 170 := by
  have h1 := numB_bound (M := M) Z (fun x hx => by
    obtain ⟨i, hi, rfl⟩ := List.getElem_of_mem hx
    have := h.2 i
    rw [List.getD_eq_getElem?_getD, List.getElem?_eq_getElem hi] at this
    exact this)
  rw [h.1] at h1
  have h2 : M * (256 ^ 17 - 1) ≤ 400000000 * (256 ^ 17 - 1) := Int.mul_le_mul_of_nonneg_right hM (by decide)
  have e : (400000000 : Int) * (256 ^ 17 - 1) < 255 * 2 ^ 170 := by decide
  omega
theorem fold_two {v : Int} (h0 : 0 ≤ v) (h1 : v < 2 ^ 170) : 0 ≤ foldN v 2 ∧ foldN v 2 < P2 ∧ foldN v 2 % PP = v % PP := by
  have a0 : 0 ≤ v % P2 ∧ v % P2 < P2 := ⟨Int.emod_nonneg _ (by decide), Int.emod_lt_of_pos _ (by decide)⟩
  have a1 : 0 ≤ v / P2 ∧ v / P2 < 1099511627776 := ⟨Int.ediv_nonneg h0 (by decide), Int.ediv_lt_of_lt_mul (by decide) (Int.lt_of_lt_of_le h1 (by decide))⟩
  have e2 : P2 = 1361129467683753853853498429727072845824 := rfl
  have hm : foldN v 2 % PP = v % PP := (foldI_mod _).trans (foldI_mod _)
  obtain ⟨u, hu⟩ : ∃ u, u = foldI v := ⟨_, rfl⟩
  have hu1 : 0 ≤ u ∧ u < P2 + 5497558138880 := by rw [hu]; unfold foldI; omega
  have hf : foldN v 2 = foldI u := by rw [hu]; rfl
  rw [hf] at hm ⊢
  refine ⟨?_, ?_, hm⟩
  · unfold foldI; rw [e2] at hu1 ⊢; omega
  · unfold foldI; rw [e2] at hu1 ⊢; omega
set_option maxHeartbeats 1000000 in
set_option maxRecDepth 100000 in
theorem rplus_any (a b : List Int) (w : World) (ha : a.length = 17) (hoa : okB 256 a) (hb : b.length = 17) (hob : okB 256 b) :
    Calls Try.prog 38 #[.agg (encK .u32 a), .agg (encK .u32 b)] w fun e w' => e = .returned (.agg (encK .u32 (digB 256 17 (foldN (numB 256 a + numB 256 b) 2)))) ∧ w.grownBy w' none := by
  have HA := Lib.hid ha
  have HOA := Lib.hid hoa
  have HB := Lib.hid hb
  have HOB := Lib.hid hob
  clear ha hoa hb hob
  go_enter Try.func38, Try.ntmps38
  obtain ⟨p, hp⟩ : ∃ p, w.heap.size = p := ⟨_, rfl⟩
  have HP := Lib.hid hp
  clear hp
  go_wp2_with fail
  rw [HP.out]
  go_loopw [5] (fun v wr => ∃ (k : Nat) (Z : List Int), k ≤ 17 ∧ v = .int .i64 k ∧ wr.heap[p]? = some (.cells (encK .u32 Z) A17 (0, 0)) ∧ wr.heap[p + 1]? = some (.cells (encK .u32 b) A17 (0, 0)) ∧ wr.heap[p + 1 + 1]? = some (.cells (encK .u32 (List.replicate 17 0)) A17 (0, 0)) ∧
    Hid (lowL 510 Z ∧ numB 256 Z = numB 256 a + numB 256 (b.take k) ∧ ∀ j, k ≤ j → Z.getD j 0 ≤ 255) ∧ w.grownBy wr none) (fun v _ => 17 - (intOf v).toNat)
  case atStart =>
    rw [← HP.out]
    exact ⟨0, a, by omega, rfl, three_0 _ _ _ _, three_1 _ _ _ _, three_2 _ _ _ _, ⟨⟨HA.out, fun k => by have := ok_getD (B := 256) (by decide) HOA.out k; omega⟩, by simp [numB], fun k _ => by have := ok_getD (B := 256) (by decide) HOA.out k; omega⟩, three_g _ _ _ _⟩
  case round =>
    obtain ⟨k, Z, hk, rfl, r0, r1, r2, HZ, hg⟩ := hrel
    have R0 := Lib.hid r0
    have R1 := Lib.hid r1
    have R2 := Lib.hid r2
    have HG := Lib.hid hg
    clear r0 r1 r2 hg
    by_cases hlt : k < 17
    · have hk0 : 0 ≤ (k : Int) := by omega
      have hk17 : (k : Int) < 17 := by omega
      obtain ⟨x, hx⟩ : ∃ x, x = Z.getD k 0 := ⟨_, rfl⟩
      obtain ⟨y, hy⟩ : ∃ y, y = b.getD k 0 := ⟨_, rfl⟩
      have e1 := rowK_at R0.out k (by rw [HZ.out.1.1]; exact hlt)
      have e2 := rowK_at R1.out k (by rw [HB.out]; exact hlt)
      have hx0 := HZ.out.1.2 k
      have hx1 := HZ.out.2.2 k (Nat.le_refl _)
      have hy0 := ok_getD (B := 256) (by decide) HOB.out k
      rw [← hx] at e1 hx0 hx1
      rw [← hy] at e2 hy0
      have HX := Lib.hid hx
      have HY := Lib.hid hy
      clear hx hy
      go_wp2_with fail
      refine wp_region_grow [(2, 0), (2, 1), (1, 2), (2, 3), (2, 4), (1, 5), (2, 6), (2, 7), (3, 8)] (by kernel_rfl) (by kernel_rfl) (fun _ _ _ _ _ h => h) (fun _ _ _ _ _ h => h) ?_
      refine gSeq_name fun w4 hw4 => ?_
      have g4 : wr.grownBy w4 none := by rw [hw4]; exact grown_drew _ _
      have E1 := Lib.hid (g4.cell e1 (by simp))
      have E2 := Lib.hid (g4.cell e2 (by simp))
      have R0' := Lib.hid (row_keep R0.out g4)
      have R1' := Lib.hid (row_keep R1.out g4)
      have R2' := Lib.hid (row_keep R2.out g4)
      have HG' := Lib.hid (grown_trans HG.out g4)
      clear g4 hw4 e1 e2 R0 R1 R2 HG
      have hxy : IntKind.u32.wrap (x + y) = x + y := IntWalk.u32_in _ (by omega)
      (repeat (first | (refine gSeq_skip rfl (by rfl) ?_; (try simp only [Act.put, Act.eval, List.setIfInBounds_toArray, List.set_cons_zero, List.set_cons_succ, Array.getD_eq_getD_getElem?, List.getElem?_toArray, List.getElem?_cons_succ, List.getElem?_cons_zero, Option.getD_some])) | (refine gSeq_move _ rfl rfl (by rfl) ?_; (try simp only [Act.put, Act.eval, List.setIfInBounds_toArray, List.set_cons_zero, List.set_cons_succ, Array.getD_eq_getD_getElem?, List.getElem?_toArray, List.getElem?_cons_succ, List.getElem?_cons_zero, Option.getD_some])) | (refine gSeq_assign _ rfl rfl (by rfl) ?_; (try simp only [Act.put, Act.eval, List.setIfInBounds_toArray, List.set_cons_zero, List.set_cons_succ, Array.getD_eq_getD_getElem?, List.getElem?_toArray, List.getElem?_cons_succ, List.getElem?_cons_zero, Option.getD_some])) | (fail) | (refine gSeq_pure rfl (by rfl) ?_ ?_ ?_; (rotate_left; (intro w'; (try (have d1 := hG.cell E1.out (by simp); have d2 := hG.cell E2.out (by simp))); go_simp; (first | done | with_reducible rfl)); (try simp only [Act.put, Act.eval, List.setIfInBounds_toArray, List.set_cons_zero, List.set_cons_succ, Array.getD_eq_getD_getElem?, List.getElem?_toArray, List.getElem?_cons_succ, List.getElem?_cons_zero, Option.getD_some]))) | (refine gSeq_still rfl (by rfl) ?_ ?_ ?_; (rotate_left; (intro w' hG; (try (have d1 := hG.cell E1.out (by simp); have d2 := hG.cell E2.out (by simp))); go_simp; (first | done | with_reducible rfl)); (try simp only [Act.put, Act.eval, List.setIfInBounds_toArray, List.set_cons_zero, List.set_cons_succ, Array.getD_eq_getD_getElem?, List.getElem?_toArray, List.getElem?_cons_succ, List.getElem?_cons_zero, Option.getD_some])))))
      refine gSeq_store rfl (by rfl) _ _ _ rfl p k _ rfl rfl _ _ R0'.out (by rw [size_encK, HZ.out.1.1]; exact hlt) (by kernel_rfl) rfl rfl ?_
      intro w5 r5 g5
      (try simp only [Act.put, Act.eval, List.setIfInBounds_toArray, List.set_cons_zero, List.set_cons_succ, Array.getD_eq_getD_getElem?, List.getElem?_toArray, List.getElem?_cons_succ, List.getElem?_cons_zero, Option.getD_some])
      refine gSeq_nil ?_
      have HZ' : Hid (lowL 510 (Z.set k (x + y)) ∧ numB 256 (Z.set k (x + y)) = numB 256 a + numB 256 (b.take (k + 1)) ∧ ∀ j, k + 1 ≤ j → (Z.set k (x + y)).getD j 0 ≤ 255) := by
        obtain ⟨⟨z1, z2⟩, z3, z4⟩ := HZ.out
        refine ⟨⟨by rw [List.length_set, z1], fun j => ?_⟩, ?_, fun j hj => ?_⟩
        · rw [getD_set _ _ _ _ (by rw [z1]; exact hlt)]
          split
          · omega
          · exact z2 j
        · rw [numB_set 256 Z k _ (by rw [z1]; exact hlt), z3, numB_next 256 b k (by rw [HB.out]; exact hlt), ← HX.out, ← HY.out, show x + y - x = y by omega]; omega
        · rw [getD_set _ _ _ _ (by rw [z1]; exact hlt), if_neg (by omega)]; exact z4 j (by omega)
      have R0 := Lib.hid (rowK_set r5)
      have R1 := Lib.hid ((g5.block _ (row_lt R1'.out) (by intro e; injection e; omega)).trans R1'.out)
      have R2 := Lib.hid ((g5.block _ (row_lt R2'.out) (by intro e; injection e; omega)).trans R2'.out)
      have HG := Lib.hid (grown_row HG'.out g5 (fun j hj => by injection hj with hj; have := HP.out; omega))
      clear r5 g5 R0' R1' R2' HG' HZ hx0 hx1 hy0 hxy
      go_wp2_with fail
      exact ⟨⟨k + 1, _, by omega, by go_num, R0.out, R1.out, R2.out, HZ'.out, HG.out⟩, by simp [intOf]; omega⟩
    · have : k = 17 := by omega
      subst this
      have HZ' := Lib.hid (lowL_mono HZ.out.1 (show (510 : Int) ≤ 400000000 by decide))
      have HZN := Lib.hid (show numB 256 Z = numB 256 a + numB 256 b by rw [HZ.out.2.1, List.take_of_length_le (by rw [HB.out]; decide)])
      go_wp2_with (refine wpList_load_row rfl A17 (.tmp 2) rfl p rfl _ _ _ _ R0.out Try.underlying68 rfl (by rw [size_encK, HZ'.out.1]; kernel_rfl) ?_)
      refine (squeeze_any Z _ HZ'.out).mono ?_
      rintro e w3 ⟨rfl, hg3⟩
      rw [HZN.out]
      have R2' := Lib.hid (row_keep R2.out hg3)
      have HG' := Lib.hid (grown_trans HG.out hg3)
      clear hg3 R2 HG R0 R1
      go_wp2_with (refine wpList_store_range rfl A17 (.tmp 4) (.tmp 19) rfl (p + 1 + 1) 0 (encK .u32 (digB 256 17 (foldN (numB 256 a + numB 256 b) 2))) rfl rfl _ _ R2'.out (by rw [size_encK, size_encK, length_digB]; decide) (by rw [size_encK, length_digB]; kernel_rfl) (one_encK _ _) ?_)
      intro w8 r8 g8
      rw [putAt_all _ _ (by rw [Array.length_toList, size_encK, size_encK, length_digB]; rfl)] at r8
      have R9 : Hid (w8.heap[p + 1 + 1]? = some (.cells (encK .u32 (digB 256 17 (foldN (numB 256 a + numB 256 b) 2))) A17 (0, 0))) := r8
      have HG9 : Hid (w.grownBy w8 none) := grown_row HG'.out g8 (fun k hk => by injection hk with hk; have := HP.out; omega)
      clear r8 g8
      go_wp2_with fail
      exact bodyPost_ret (results_cell_row rfl _ _ (p + 1 + 1) _ _ _ _ rfl R9.out Try.underlying68 rfl (by rw [size_encK, length_digB]; kernel_rfl)) rfl ⟨rfl, HG9.out⟩
end Go.Proofs.Ythhijeokeljcjaa
