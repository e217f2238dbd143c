/- scalar: sums. -/
import Derived.Test.YtcfgobpjhppebaaScaH
namespace Go.Proofs.Ytcfgobpjhppebaa
set_option linter.unusedVariables false
set_option linter.unusedSimpArgs false
open Go.RowKit Go.Proofs.YtcfgobpjhppebaaL

/-- Numbers below the order, written out, and read again. -/
theorem numL (v : Int) (h0 : 0 ≤ v) (h1 : v < ordL) : numB 256 (digB 256 32 v) = v := by
  rw [numB_digB (by decide), Int.emod_eq_of_lt h0 (Int.lt_trans h1 (by decide))]
theorem modL (v : Int) : 0 ≤ v % ordL ∧ v % ordL < ordL := ⟨Int.emod_nonneg _ (by decide), Int.emod_lt_of_pos _ (by decide)⟩
theorem modsum (x y : Int) : 0 ≤ x % ordL + y % ordL ∧ x % ordL + y % ordL < B64 ^ 5 ∧ onceI (x % ordL + y % ordL) = (x + y) % ordL := by
  have h1 := modL x
  have h2 := modL y
  refine ⟨by omega, Int.lt_trans (show x % ordL + y % ordL < ordL + ordL by omega) (by decide), ?_⟩
  rw [onceI_mod _ (by omega) (by omega), ← Int.add_emod]
set_option maxHeartbeats 1000000 in
set_option maxRecDepth 100000 in
theorem add_any (a b : List Int) (w : World) (ha : a.length = 32) (hoa : okB 256 a) (hb : b.length = 32) (hob : okB 256 b) :
    Calls Try.prog 10 #[.agg (encK .u8 a), .agg (encK .u8 b)] w fun e w' => e = .returned (.agg (encK .u8 (digB 256 32 ((numB 256 a + numB 256 b) % ordL)))) ∧ w.grownBy w' none := by
  have HA := Lib.hid ha
  have HOA := Lib.hid hoa
  have HB := Lib.hid hb
  have HOB := Lib.hid hob
  clear ha hoa hb hob
  go_enter Try.func10, Try.ntmps10
  obtain ⟨p, hp⟩ : ∃ p, w.heap.size = p := ⟨_, rfl⟩
  have HP := Lib.hid hp
  clear hp
  go_wp2_with fail
  rw [HP.out]
  refine wp_region_grow [(2, 0), (2, 3), (0, 1), (0, 2), (0, 4), (0, 5), (0, 6), (0, 7), (0, 8), (3, 9)] (by kernel_rfl) (by kernel_rfl) (fun _ _ _ _ _ h => h) (fun _ _ _ _ _ h => h) ?_
  refine gSeq_name fun w1 hw1 => ?_
  have hw1' : w1 = (((w.alloc (.cells (encK .u8 a) A32 (0, 0))).alloc (.cells (encK .u8 b) A32 (0, 0))).alloc (.cells (encK .u8 (List.replicate 32 0)) A32 (0, 0))).drew := hw1
  have r0 : w1.heap[w.heap.size]? = some (.cells (encK .u8 a) A32 (0, 0)) := by rw [hw1']; exact three_0 w _ _ _
  have r1 : w1.heap[w.heap.size + 1]? = some (.cells (encK .u8 b) A32 (0, 0)) := by rw [hw1']; exact three_1 w _ _ _
  have r2 : w1.heap[w.heap.size + 1 + 1]? = some (.cells (encK .u8 (List.replicate 32 0)) A32 (0, 0)) := by rw [hw1']; exact three_2 w _ _ _
  rw [HP.out] at r0 r1 r2
  have R0 := Lib.hid r0
  have R1 := Lib.hid r1
  have R2 := Lib.hid r2
  have HG : Hid (w.grownBy w1 none) := by rw [hw1']; exact grown_trans (three_g w _ _ _) (grown_drew _ _)
  clear hw1 hw1' r0 r1 r2
  (repeat (first | (refine gSeq_skip rfl (by rfl) ?_; (try simp only [Act.put, Act.eval, List.setIfInBounds_toArray, List.set_cons_zero, List.set_cons_succ, Array.getD_eq_getD_getElem?, List.getElem?_toArray, List.getElem?_cons_succ, List.getElem?_cons_zero, Option.getD_some])) | (refine gSeq_move _ rfl rfl (by rfl) ?_; (try simp only [Act.put, Act.eval, List.setIfInBounds_toArray, List.set_cons_zero, List.set_cons_succ, Array.getD_eq_getD_getElem?, List.getElem?_toArray, List.getElem?_cons_succ, List.getElem?_cons_zero, Option.getD_some])) | (refine gSeq_assign _ rfl rfl (by rfl) ?_; (try simp only [Act.put, Act.eval, List.setIfInBounds_toArray, List.set_cons_zero, List.set_cons_succ, Array.getD_eq_getD_getElem?, List.getElem?_toArray, List.getElem?_cons_succ, List.getElem?_cons_zero, Option.getD_some])) | ((first | (refine gSeq_slice rfl (by rfl) _ _ _ _ rfl _ rfl _ _ rfl rfl _ (sliceAt_all _ 32 5 Try.underlying22 rfl p 0) ?_; (try simp only [Act.put, Act.eval, List.setIfInBounds_toArray, List.set_cons_zero, List.set_cons_succ, Array.getD_eq_getD_getElem?, List.getElem?_toArray, List.getElem?_cons_succ, List.getElem?_cons_zero, Option.getD_some])) | (refine gSeq_slice rfl (by rfl) _ _ _ _ rfl _ rfl _ _ rfl rfl _ (sliceAt_all _ 32 5 Try.underlying22 rfl (p + 1) 0) ?_; (try simp only [Act.put, Act.eval, List.setIfInBounds_toArray, List.set_cons_zero, List.set_cons_succ, Array.getD_eq_getD_getElem?, List.getElem?_toArray, List.getElem?_cons_succ, List.getElem?_cons_zero, Option.getD_some])))) | (refine gSeq_pure rfl (by rfl) ?_ ?_ ?_; (rotate_left; (intro w'; (skip); go_simp; (first | done | with_reducible rfl)); (try simp only [Act.put, Act.eval, List.setIfInBounds_toArray, List.set_cons_zero, List.set_cons_succ, Array.getD_eq_getD_getElem?, List.getElem?_toArray, List.getElem?_cons_succ, List.getElem?_cons_zero, Option.getD_some]))) | (refine gSeq_still rfl (by rfl) ?_ ?_ ?_; (rotate_left; (intro w' hG; (skip); go_simp; (first | done | with_reducible rfl)); (try simp only [Act.put, Act.eval, List.setIfInBounds_toArray, List.set_cons_zero, List.set_cons_succ, Array.getD_eq_getD_getElem?, List.getElem?_toArray, List.getElem?_cons_succ, List.getElem?_cons_zero, Option.getD_some])))))
  (refine gSeq_do rfl (by rfl) (fun K hK => ?_)); go_simp
  refine (reduce_any _ 32 32 a _ (HA.out ▸ rd_row R0.out) HOA.out (by decide)).mono ?_
  rintro e w2 ⟨rfl, hg2⟩
  rw [List.take_of_length_le (by rw [HA.out]; decide)]
  refine hK _ _ hg2 ?_; clear hK K; (try simp only [Act.put, Act.eval, List.setIfInBounds_toArray, List.set_cons_zero, List.set_cons_succ, Array.getD_eq_getD_getElem?, List.getElem?_toArray, List.getElem?_cons_succ, List.getElem?_cons_zero, Option.getD_some])
  have R1' := Lib.hid ((hg2.block _ (row_lt R1.out) (by simp)).trans R1.out)
  have R2' := Lib.hid ((hg2.block _ (row_lt R2.out) (by simp)).trans R2.out)
  have G2 := Lib.hid (grown_trans HG.out hg2)
  clear hg2 R0 R1 R2 HG
  (refine gSeq_do rfl (by rfl) (fun K hK => ?_)); go_simp
  refine (load_any _ _ (length_digB _ _ _) (ok_digB (by decide) _ _)).mono ?_
  rintro e w3 ⟨rfl, hg3⟩
  rw [numL _ (modL _).1 (modL _).2]
  refine hK _ _ hg3 ?_; clear hK K; (try simp only [Act.put, Act.eval, List.setIfInBounds_toArray, List.set_cons_zero, List.set_cons_succ, Array.getD_eq_getD_getElem?, List.getElem?_toArray, List.getElem?_cons_succ, List.getElem?_cons_zero, Option.getD_some])
  have R1 := Lib.hid ((hg3.block _ (row_lt R1'.out) (by simp)).trans R1'.out)
  have R2 := Lib.hid ((hg3.block _ (row_lt R2'.out) (by simp)).trans R2'.out)
  have G3 := Lib.hid (grown_trans G2.out hg3)
  clear hg3 R1' R2' G2
  (refine gSeq_do rfl (by rfl) (fun K hK => ?_)); go_simp
  refine (reduce_any _ 32 32 b _ (HB.out ▸ rd_row R1.out) HOB.out (by decide)).mono ?_
  rintro e w4 ⟨rfl, hg4⟩
  rw [List.take_of_length_le (by rw [HB.out]; decide)]
  refine hK _ _ hg4 ?_; clear hK K; (try simp only [Act.put, Act.eval, List.setIfInBounds_toArray, List.set_cons_zero, List.set_cons_succ, Array.getD_eq_getD_getElem?, List.getElem?_toArray, List.getElem?_cons_succ, List.getElem?_cons_zero, Option.getD_some])
  have R2' := Lib.hid ((hg4.block _ (row_lt R2.out) (by simp)).trans R2.out)
  have G4 := Lib.hid (grown_trans G3.out hg4)
  clear hg4 R1 R2 G3
  (refine gSeq_do rfl (by rfl) (fun K hK => ?_)); go_simp
  refine (load_any _ _ (length_digB _ _ _) (ok_digB (by decide) _ _)).mono ?_
  rintro e w5 ⟨rfl, hg5⟩
  rw [numL _ (modL _).1 (modL _).2]
  refine hK _ _ hg5 ?_; clear hK K; (try simp only [Act.put, Act.eval, List.setIfInBounds_toArray, List.set_cons_zero, List.set_cons_succ, Array.getD_eq_getD_getElem?, List.getElem?_toArray, List.getElem?_cons_succ, List.getElem?_cons_zero, Option.getD_some])
  have R2 := Lib.hid ((hg5.block _ (row_lt R2'.out) (by simp)).trans R2'.out)
  have G5 := Lib.hid (grown_trans G4.out hg5)
  clear hg5 R2' G4
  (refine gSeq_do rfl (by rfl) (fun K hK => ?_)); go_simp
  refine (plus_any _ _ _ (length_digB _ _ _) (length_digB _ _ _) (ok_digB (by decide) _ _) (ok_digB (by decide) _ _)).mono ?_
  rintro e w6 ⟨rfl, hg6⟩
  rw [num5 _ (modL _).1 (Int.lt_trans (modL _).2 (by decide)), num5 _ (modL _).1 (Int.lt_trans (modL _).2 (by decide))]
  refine hK _ _ hg6 ?_; clear hK K; (try simp only [Act.put, Act.eval, List.setIfInBounds_toArray, List.set_cons_zero, List.set_cons_succ, Array.getD_eq_getD_getElem?, List.getElem?_toArray, List.getElem?_cons_succ, List.getElem?_cons_zero, Option.getD_some])
  have G6 := Lib.hid (grown_trans G5.out hg6)
  have R2' := Lib.hid ((hg6.block _ (row_lt R2.out) (by simp)).trans R2.out)
  clear hg6 G5 R2
  have hsum := modsum (numB 256 a) (numB 256 b)
  have HS := Lib.hid hsum
  clear hsum
  (refine gSeq_do rfl (by rfl) (fun K hK => ?_)); go_simp
  refine (once_any _ _ (length_digB _ _ _) (ok_digB (by decide) _ _)).mono ?_
  rintro e w7 ⟨rfl, hg7⟩
  rw [num5 _ HS.out.1 HS.out.2.1, HS.out.2.2]
  refine hK _ _ hg7 ?_; clear hK K; (try simp only [Act.put, Act.eval, List.setIfInBounds_toArray, List.set_cons_zero, List.set_cons_succ, Array.getD_eq_getD_getElem?, List.getElem?_toArray, List.getElem?_cons_succ, List.getElem?_cons_zero, Option.getD_some])
  have G7 := Lib.hid (grown_trans G6.out hg7)
  have R2 := Lib.hid ((hg7.block _ (row_lt R2'.out) (by simp)).trans R2'.out)
  clear hg7 G6 R2'
  (refine gSeq_do rfl (by rfl) (fun K hK => ?_)); go_simp
  refine (store_any _ _ (length_digB _ _ _) (ok_digB (by decide) _ _)).mono ?_
  rintro e w8 ⟨rfl, hg8⟩
  rw [num5 _ (modL _).1 (Int.lt_trans (modL _).2 (by decide))]
  refine hK _ _ hg8 ?_; clear hK K; (try simp only [Act.put, Act.eval, List.setIfInBounds_toArray, List.set_cons_zero, List.set_cons_succ, Array.getD_eq_getD_getElem?, List.getElem?_toArray, List.getElem?_cons_succ, List.getElem?_cons_zero, Option.getD_some])
  have G8 := Lib.hid (grown_trans G7.out hg8)
  have R2' := Lib.hid ((hg8.block _ (row_lt R2.out) (by simp)).trans R2.out)
  clear hg8 G7 R2
  (refine gSeq_store_range rfl (by rfl) _ _ _ rfl (p + 1 + 1) 0 (encK .u8 (digB 256 32 ((numB 256 a + numB 256 b) % ordL))) rfl rfl _ _ R2'.out (by rw [size_encK, size_encK, length_digB]; decide) (by rw [size_encK, length_digB]; kernel_rfl) (one_encK _ _) ?_)
  intro w9 r9 g9
  rw [putAt_all _ _ (by rw [Array.length_toList, size_encK, size_encK, length_digB]; rfl)] at r9
  have R9 : Hid (w9.heap[p + 1 + 1]? = some (.cells (encK .u8 (digB 256 32 ((numB 256 a + numB 256 b) % ordL))) A32 (0, 0))) := r9
  have HG9 : Hid (w.grownBy w9 none) := grown_row G8.out g9 (fun k hk => by injection hk with hk; have := HP.out; omega)
  clear r9 g9
  (try simp only [Act.put, Act.eval, List.setIfInBounds_toArray, List.set_cons_zero, List.set_cons_succ, Array.getD_eq_getD_getElem?, List.getElem?_toArray, List.getElem?_cons_succ, List.getElem?_cons_zero, Option.getD_some])
  refine gSeq_nil ?_
  go_wp2_with fail
  exact bodyPost_ret (results_cell_row rfl _ _ (p + 1 + 1) _ _ _ _ rfl R9.out Try.underlying22 rfl (by rw [size_encK, length_digB]; kernel_rfl)) rfl ⟨rfl, HG9.out⟩
end Go.Proofs.Ytcfgobpjhppebaa
