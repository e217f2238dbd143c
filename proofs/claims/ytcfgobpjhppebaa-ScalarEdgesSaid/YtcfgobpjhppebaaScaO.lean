/- scalar's reference: sums. -/
import Derived.Test.YtcfgobpjhppebaaScaN
namespace Go.Proofs.Ytcfgobpjhppebaa
set_option linter.unusedVariables false
set_option linter.unusedSimpArgs false
open Go.RowKit Go.Proofs.YtcfgobpjhppebaaL

abbrev A33 : Nat := 30
set_option maxHeartbeats 1000000 in
set_option maxRecDepth 100000 in
theorem radd_any (a b : List Int) (w : World) (ha : a.length = 32) (hoa : okB 256 a) (hb : b.length = 32) (hob : okB 256 b) :
    Calls Try.prog 11 #[.agg (encK .u8 a), .agg (encK .u8 b)] w fun e w' => e = .returned (.agg (encK .u8 (digB 256 32 ((numB 256 a + numB 256 b) % ordL)))) ∧ w.grownBy w' none := by
  have HA := Lib.hid ha
  have HOA := Lib.hid hoa
  have HB := Lib.hid hb
  have HOB := Lib.hid hob
  clear ha hoa hb hob
  go_enter Try.func11, Try.ntmps11
  obtain ⟨p, hp⟩ : ∃ p, w.heap.size = p := ⟨_, rfl⟩
  have HP := Lib.hid hp
  clear hp
  go_wp2_with fail
  rw [HP.out]
  go_loopw [7, 6] (fun v c_ wr => ∃ k : Nat, k ≤ 32 ∧ v = .int .i64 k ∧ c_ = .int .i64 (carry 256 a b k) ∧ wr.heap[p]? = some (.cells (encK .u8 a) A32 (0, 0)) ∧ wr.heap[p + 1]? = some (.cells (encK .u8 b) A32 (0, 0)) ∧
    wr.heap[p + 1 + 1]? = some (.cells (encK .u8 (List.replicate 32 0)) A32 (0, 0)) ∧ wr.heap[p + 1 + 1 + 1]? = some (.cells (encK .u8 (sums 256 a b k ++ List.replicate (33 - k) 0)) A33 (0, 0)) ∧ w.grownBy wr none) (fun v _ _ => 32 - (intOf v).toNat)
  case atStart =>
    rw [← HP.out]
    exact ⟨0, by omega, rfl, rfl, four_0 _ _ _ _ _, four_1 _ _ _ _ _, four_2 _ _ _ _ _, four_3 _ _ _ _ _, four_g _ _ _ _ _⟩
  case round =>
    obtain ⟨k, hk, rfl, rfl, r0, r1, r2, r3, hg⟩ := hrel
    have R0 := Lib.hid r0
    have R1 := Lib.hid r1
    have R2 := Lib.hid r2
    have R3 := Lib.hid r3
    have HG := Lib.hid hg
    clear r0 r1 r2 r3 hg
    by_cases hlt : k < 32
    · have hk0 : (0 : Int) ≤ (k : Int) := by omega
      have hk32 : (k : Int) < 32 := by omega
      have hk33 : (k : Int) < 33 := by omega
      have e1 := rowK_at R0.out k (by rw [HA.out]; exact hlt)
      have e2 := rowK_at R1.out k (by rw [HB.out]; exact hlt)
      obtain ⟨x, hx⟩ : ∃ x, x = a.getD k 0 := ⟨_, rfl⟩
      obtain ⟨y, hy⟩ : ∃ y, y = b.getD k 0 := ⟨_, rfl⟩
      obtain ⟨c, hc⟩ : ∃ c, c = carry 256 a b k := ⟨_, rfl⟩
      have hx0 := ok_getD (by decide) HOA.out k
      have hy0 := ok_getD (by decide) HOB.out k
      have hc0 := carry_range (by decide) HOA.out HOB.out k
      rw [← hx] at e1 hx0
      rw [← hy] at e2 hy0
      rw [← hc] at hc0 ⊢
      have HS := Lib.hid (show sumAt 256 a b k = (x + y + c) % 256 by rw [hx, hy, hc]; rfl)
      have HC := Lib.hid (show carry 256 a b (k + 1) = (x + y + c) / 256 by rw [hx, hy, hc]; rfl)
      clear hx hy hc
      go_wp2_with fail
      refine wp_region_grow [(2, 0), (2, 1), (2, 2), (1, 3), (2, 4), (2, 5), (2, 6), (1, 7), (2, 8), (2, 9), (2, 10), (2, 11)] (by kernel_rfl) (by kernel_rfl) (fun _ _ _ _ _ h => h) (fun _ _ _ _ _ h => h) ?_
      refine gSeq_name fun w4 hw4 => ?_
      have g4 : wr.grownBy w4 none := by rw [hw4]; exact grown_drew _ _
      have E1 := Lib.hid (g4.cell e1 (by simp))
      have E2 := Lib.hid (g4.cell e2 (by simp))
      have R0' := Lib.hid ((g4.block _ (row_lt R0.out) (by simp)).trans R0.out)
      have R1' := Lib.hid ((g4.block _ (row_lt R1.out) (by simp)).trans R1.out)
      have R2' := Lib.hid ((g4.block _ (row_lt R2.out) (by simp)).trans R2.out)
      have R3' := Lib.hid ((g4.block _ (row_lt R3.out) (by simp)).trans R3.out)
      have HG' := Lib.hid (grown_trans HG.out g4)
      clear g4 hw4 e1 e2 R0 R1 R2 R3 HG
      have wu : IntKind.i64.wrap x = x := IntWalk.i64_in _ (by omega)
      have wv : IntKind.i64.wrap y = y := IntWalk.i64_in _ (by omega)
      have wuv : IntKind.i64.wrap (x + y) = x + y := IntWalk.i64_in _ (by omega)
      have wuvo : IntKind.i64.wrap (c + (x + y)) = c + (x + y) := IntWalk.i64_in _ (by omega)
      (repeat (first | (refine gSeq_skip rfl (by rfl) ?_; (try simp only [Act.put, Act.eval, List.setIfInBounds_toArray, List.set_cons_zero, List.set_cons_succ, Array.getD_eq_getD_getElem?, List.getElem?_toArray, List.getElem?_cons_succ, List.getElem?_cons_zero, Option.getD_some])) | (refine gSeq_move _ rfl rfl (by rfl) ?_; (try simp only [Act.put, Act.eval, List.setIfInBounds_toArray, List.set_cons_zero, List.set_cons_succ, Array.getD_eq_getD_getElem?, List.getElem?_toArray, List.getElem?_cons_succ, List.getElem?_cons_zero, Option.getD_some])) | (refine gSeq_assign _ rfl rfl (by rfl) ?_; (try simp only [Act.put, Act.eval, List.setIfInBounds_toArray, List.set_cons_zero, List.set_cons_succ, Array.getD_eq_getD_getElem?, List.getElem?_toArray, List.getElem?_cons_succ, List.getElem?_cons_zero, Option.getD_some])) | (fail) | (refine gSeq_pure rfl (by rfl) ?_ ?_ ?_; (rotate_left; (intro w'; (try (have d1 := hG.cell E1.out (by simp); have d2 := hG.cell E2.out (by simp))); go_simp; (first | done | with_reducible rfl)); (try simp only [Act.put, Act.eval, List.setIfInBounds_toArray, List.set_cons_zero, List.set_cons_succ, Array.getD_eq_getD_getElem?, List.getElem?_toArray, List.getElem?_cons_succ, List.getElem?_cons_zero, Option.getD_some]))) | (refine gSeq_still rfl (by rfl) ?_ ?_ ?_; (rotate_left; (intro w' hG; (try (have d1 := hG.cell E1.out (by simp); have d2 := hG.cell E2.out (by simp))); go_simp; (first | done | with_reducible rfl)); (try simp only [Act.put, Act.eval, List.setIfInBounds_toArray, List.set_cons_zero, List.set_cons_succ, Array.getD_eq_getD_getElem?, List.getElem?_toArray, List.getElem?_cons_succ, List.getElem?_cons_zero, Option.getD_some])))))
      refine gSeq_nil ?_
      rw [show c + (x + y) = x + y + c by omega]
      clear wu wv wuv wuvo
      obtain ⟨z, hz⟩ : ∃ z, z = x + y + c := ⟨_, rfl⟩
      have hz0 : 0 ≤ z ∧ z < 512 := by omega
      rw [← hz] at HS HC ⊢
      clear hz hx0 hy0 hc0
      go_wp2_with (refine wpList_store_cell rfl _ (.tmp 26) (.tmp 25) rfl (p + 1 + 1 + 1) k _ rfl rfl _ _ R3'.out (by rw [size_encK, List.length_append, length_sums, List.length_replicate]; omega) (by kernel_rfl) rfl rfl ?_)
      intro w5 r5 g5
      have r6 := rowK_set r5
      have hset : (sums 256 a b k ++ List.replicate (33 - k) 0).set k (sumAt 256 a b k) = sums 256 a b (k + 1) ++ List.replicate (33 - (k + 1)) 0 := set_next (sumAt 256 a b) k 33 (by omega)
      rw [← HS.out, hset] at r6
      have R0 := Lib.hid ((g5.block _ (row_lt R0'.out) (by intro e; injection e; omega)).trans R0'.out)
      have R1 := Lib.hid ((g5.block _ (row_lt R1'.out) (by intro e; injection e; omega)).trans R1'.out)
      have R2 := Lib.hid ((g5.block _ (row_lt R2'.out) (by intro e; injection e; omega)).trans R2'.out)
      have R3 := Lib.hid r6
      have HG := Lib.hid (grown_row HG'.out g5 (fun j hj => by injection hj with hj; have := HP.out; omega))
      clear r5 g5 r6 R0' R1' R2' R3' HG'
      go_wp2_with fail
      exact ⟨⟨k + 1, by omega, by go_num, by rw [HC.out], R0.out, R1.out, R2.out, R3.out, HG.out⟩, by simp [intOf]; omega⟩
    · have : k = 32 := by omega
      subst this
      have hfin : sums 256 a b 32 ++ [carry 256 a b 32] = digB 256 33 (numB 256 a + numB 256 b) := by
        rw [(sums_eq (B := 256) (by decide) HA.out HB.out).1, (sums_eq (B := 256) (by decide) HA.out HB.out).2, digB_next 256 (by decide) 32]
        congr 2
        have h1 := carry_range (B := 256) (by decide) HOA.out HOB.out 32
        rw [(sums_eq (B := 256) (by decide) HA.out HB.out).2] at h1
        exact (Int.emod_eq_of_lt h1.1 (by omega)).symm
      have hcr := carry_range (B := 256) (by decide) HOA.out HOB.out 32
      obtain ⟨c, hc⟩ : ∃ c, c = carry 256 a b 32 := ⟨_, rfl⟩
      rw [← hc] at hfin hcr ⊢
      have HF := Lib.hid hfin
      have hs33 : (sums 256 a b 32 ++ [0]).set 32 c = sums 256 a b 32 ++ [c] := by
        rw [List.set_append_right _ _ (by rw [length_sums]; omega), length_sums]; rfl
      have HS33 := Lib.hid hs33
      clear hc hfin hs33
      go_wp2_with (refine wpList_store_cell rfl _ (.tmp 31) (.tmp 30) rfl (p + 1 + 1 + 1) 32 _ rfl rfl _ _ R3.out (by rw [size_encK, List.length_append, length_sums, List.length_replicate]; decide) (by kernel_rfl) rfl rfl ?_)
      intro w5 r5 g5
      have r6 := rowK_set r5
      rw [HS33.out, HF.out] at r6
      have R2' := Lib.hid ((g5.block _ (row_lt R2.out) (by intro e; injection e; omega)).trans R2.out)
      have R3' := Lib.hid r6
      have HG' := Lib.hid (grown_row HG.out g5 (fun j hj => by injection hj with hj; have := HP.out; omega))
      clear r5 g5 r6 R0 R1 R2 R3 HG
      go_wp2_with (refine wpList_slice rfl _ _ _ _ rfl _ rfl _ _ rfl rfl _ (sliceAt_all _ 33 5 Try.underlying30 rfl (p + 1 + 1 + 1) 0) ?_)
      refine (rscalar_any _ 33 33 (digB 256 33 (numB 256 a + numB 256 b)) _ (by have h := rd_row R3'.out; rw [length_digB] at h; exact h) (ok_digB (by decide) _ _) (by decide)).mono ?_
      rintro e w7 ⟨rfl, hg7⟩
      have hn33 : numB 256 (digB 256 33 (numB 256 a + numB 256 b)) = numB 256 a + numB 256 b := by
        have h1 := num32 HA.out HOA.out
        have h2 := num32 HB.out HOB.out
        have h3 : B64 ^ 4 + B64 ^ 4 < 256 ^ 33 := by decide
        rw [numB_digB (by decide), Int.emod_eq_of_lt (by omega) (by omega)]
      rw [hn33]
      have R2 := Lib.hid ((hg7.block _ (row_lt R2'.out) (by simp)).trans R2'.out)
      have HG := Lib.hid (grown_trans HG'.out hg7)
      clear hg7 R2' HG' hn33
      go_wp2_with (refine wpList_store_range rfl A32 (.tmp 4) (.tmp 33) rfl (p + 1 + 1) 0 (encK .u8 (digB 256 32 ((numB 256 a + numB 256 b) % ordL))) rfl rfl _ _ R2.out (by rw [size_encK, size_encK, length_digB]; decide) (by rw [size_encK, length_digB]; kernel_rfl) (one_encK _ _) ?_)
      intro w8 r8 g8
      rw [putAt_all _ _ (by rw [Array.length_toList, size_encK, size_encK, length_digB]; rfl)] at r8
      have R9 : Hid (w8.heap[p + 1 + 1]? = some (.cells (encK .u8 (digB 256 32 ((numB 256 a + numB 256 b) % ordL))) A32 (0, 0))) := r8
      have HG9 : Hid (w.grownBy w8 none) := grown_row HG.out g8 (fun k hk => by injection hk with hk; have := HP.out; omega)
      clear r8 g8
      go_wp2_with fail
      exact bodyPost_ret (results_cell_row rfl _ _ (p + 1 + 1) _ _ _ _ rfl R9.out Try.underlying22 rfl (by rw [size_encK, length_digB]; kernel_rfl)) rfl ⟨rfl, HG9.out⟩
end Go.Proofs.Ytcfgobpjhppebaa
