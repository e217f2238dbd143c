/- scalar: the order; once. -/
import Derived.Test.YtcfgobpjhppebaaScaB
namespace Go.Proofs.Ytcfgobpjhppebaa
set_option linter.unusedVariables false
set_option linter.unusedSimpArgs false
open Go.RowKit Go.Proofs.YtcfgobpjhppebaaL

/-- The order of the base point. -/
abbrev ordL : Int := 7237005577332262213973186563042994240857116359379907606001950938285454250989
def ordD : List Int := [6346243789798364141, 1503914060200516822, 0, 1152921504606846976, 0]
theorem ordD_num : numB B64 ordD = ordL := by decide +kernel
theorem ordD_ok : okB B64 ordD := by unfold okB ordD; decide

set_option maxHeartbeats 1000000 in
theorem order_any (w : World) : Calls Try.prog 23 #[] w fun e w' => e = .returned (.agg (encK .u64 ordD)) ∧ w.grownBy w' none := by
  go_enter Try.func23, Try.ntmps23
  obtain ⟨p, hp⟩ : ∃ p, w.heap.size = p := ⟨_, rfl⟩
  have HP := Lib.hid hp
  clear hp
  go_wp2_with (refine wpList_store_range rfl T5 (.tmp 0) (.tmp 1) rfl p 0 (encK .u64 ordD) (by simp [Act.eval, HP.out]) rfl _ (encK .u64 (List.replicate 5 0)) (alloc_at _ _ HP.out.symm) (by decide) (by kernel_rfl) (one_encK _ _) ?_)
  intro w8 r8 g8
  rw [putAt_all _ _ (by rfl)] at r8
  have R9 : Hid (w8.heap[p]? = some (.cells (encK .u64 ordD) T5 (0, 0))) := r8
  have HG9 : Hid (w.grownBy w8 none) := grown_row (grown_alloc (grown_refl w none) _) g8 (fun k hk => by injection hk with hk; have := HP.out; omega)
  clear r8 g8
  rw [HP.out]
  go_wp2_with fail
  exact bodyPost_ret (results_cell_row rfl _ _ p _ _ _ _ rfl R9.out Try.underlying36 rfl (by kernel_rfl)) rfl ⟨rfl, HG9.out⟩

/-- A number below 2 L, brought below L. -/
def onceI (v : Int) : Int := if v < ordL then v else v - ordL
set_option maxHeartbeats 1000000 in
set_option maxRecDepth 100000 in
theorem once_any (a : List Int) (w : World) (ha : a.length = 5) (hoa : okB B64 a) :
    Calls Try.prog 17 #[.agg (encK .u64 a)] w fun e w' => e = .returned (.agg (encK .u64 (digB B64 5 (onceI (numB B64 a))))) ∧ w.grownBy w' none := by
  have HA := Lib.hid ha
  have HOA := Lib.hid hoa
  clear ha hoa
  go_enter Try.func17, Try.ntmps17
  obtain ⟨p, hp⟩ : ∃ p, w.heap.size = p := ⟨_, rfl⟩
  have HP := Lib.hid hp
  clear hp
  go_wp2_with fail
  rw [HP.out]
  obtain ⟨w1, hw1⟩ : ∃ w1, w1 = (w.alloc (.cells (encK .u64 a) T5 (0, 0))).alloc (.cells (encK .u64 (List.replicate 5 0)) T5 (0, 0)) := ⟨_, rfl⟩
  have r1 : w1.heap[p]? = some (.cells (encK .u64 a) T5 (0, 0)) := by rw [hw1, alloc_up _ _ (by rw [alloc_size, HP.out]; omega)]; exact alloc_at _ _ HP.out.symm
  have r2 : w1.heap[p + 1]? = some (.cells (encK .u64 (List.replicate 5 0)) T5 (0, 0)) := by rw [hw1]; exact alloc_at _ _ (by rw [alloc_size, HP.out])
  have g1 : w.grownBy w1 none := by rw [hw1]; exact grown_alloc (grown_alloc (grown_refl w none) _) _
  refine wp_region_float [(6, 3, .cells (encK .u64 (List.replicate 5 0)) T5 (0, 0))] (floats_1 (float_of rfl rfl rfl (fun ρ w => by go_simp; exact ⟨rfl, rfl⟩))) [(1, 0), (5, 1), (5, 2), (2, 3), (2, 4), (2, 5), (4, 6), (3, 7), (2, 8)] (by kernel_rfl) (by kernel_rfl) (fun _ _ _ _ _ h => h) (fun _ _ _ _ _ h => h) ?_
  have hw1' : w1 = (w.alloc (.cells (encK .u64 a) T5 (0, 0))).alloc (.cells #[.int .u64 0, .int .u64 0, .int .u64 0, .int .u64 0, .int .u64 0] T5 (0, 0)) := hw1
  rw [← hw1']
  obtain ⟨w4, hw4⟩ : ∃ w4, w4 = w1.drew := ⟨_, rfl⟩
  rw [← hw4]
  have g4 : w1.grownBy w4 none := by rw [hw4]; exact grown_drew _ _
  have R1 := Lib.hid ((g4.block _ (row_lt r1) (by simp)).trans r1)
  have R2 := Lib.hid ((g4.block _ (row_lt r2) (by simp)).trans r2)
  have G4 := Lib.hid (grown_trans g1 g4)
  have HN := Lib.hid (show p + 1 + 1 = w1.heap.size by rw [hw1, alloc_size, alloc_size, HP.out])
  clear r1 r2 g1 g4 hw4 hw1 hw1'
  (repeat (first | (refine gSeq_skip rfl (by rfl) ?_; (try simp only [Act.put, Act.eval, List.setIfInBounds_toArray, List.set_cons_zero, List.set_cons_succ, Array.getD_eq_getD_getElem?, List.getElem?_toArray, List.getElem?_cons_succ, List.getElem?_cons_zero, Option.getD_some])) | (refine gSeq_move _ rfl rfl (by rfl) ?_; (try simp only [Act.put, Act.eval, List.setIfInBounds_toArray, List.set_cons_zero, List.set_cons_succ, Array.getD_eq_getD_getElem?, List.getElem?_toArray, List.getElem?_cons_succ, List.getElem?_cons_zero, Option.getD_some])) | (refine gSeq_assign _ rfl rfl (by rfl) ?_; (try simp only [Act.put, Act.eval, List.setIfInBounds_toArray, List.set_cons_zero, List.set_cons_succ, Array.getD_eq_getD_getElem?, List.getElem?_toArray, List.getElem?_cons_succ, List.getElem?_cons_zero, Option.getD_some])) | ((refine gSeq_row rfl (by rfl) _ _ rfl _ rfl _ _ _ _ R1.out Try.underlying36 rfl (by rw [size_encK, HA.out]; kernel_rfl) ?_; (try simp only [Act.put, Act.eval, List.setIfInBounds_toArray, List.set_cons_zero, List.set_cons_succ, Array.getD_eq_getD_getElem?, List.getElem?_toArray, List.getElem?_cons_succ, List.getElem?_cons_zero, Option.getD_some]))) | (refine gSeq_pure rfl (by rfl) ?_ ?_ ?_; (rotate_left; (intro w'; (skip); go_simp; (first | done | with_reducible rfl)); (try simp only [Act.put, Act.eval, List.setIfInBounds_toArray, List.set_cons_zero, List.set_cons_succ, Array.getD_eq_getD_getElem?, List.getElem?_toArray, List.getElem?_cons_succ, List.getElem?_cons_zero, Option.getD_some]))) | (refine gSeq_still rfl (by rfl) ?_ ?_ ?_; (rotate_left; (intro w' hG; (skip); go_simp; (first | done | with_reducible rfl)); (try simp only [Act.put, Act.eval, List.setIfInBounds_toArray, List.set_cons_zero, List.set_cons_succ, Array.getD_eq_getD_getElem?, List.getElem?_toArray, List.getElem?_cons_succ, List.getElem?_cons_zero, Option.getD_some])))))
  (refine gSeq_do5 rfl (by rfl) (fun w1 hw1 K hK => ?_)); go_simp
  refine (order_any _).mono ?_
  rintro e w2 ⟨rfl, hg2⟩
  refine hK _ _ hg2 ?_; clear hK K; (try simp only [Act.put, Act.eval, List.setIfInBounds_toArray, List.set_cons_zero, List.set_cons_succ, Array.getD_eq_getD_getElem?, List.getElem?_toArray, List.getElem?_cons_succ, List.getElem?_cons_zero, Option.getD_some])
  have G2 := Lib.hid (grown_trans hw1 hg2)
  clear hw1 hg2
  (refine gSeq_do5 rfl (by rfl) (fun w1 hw1 K hK => ?_)); go_simp
  refine (minus_any a ordD _ HA.out rfl HOA.out ordD_ok).mono ?_
  rintro e w3 ⟨rfl, hg3⟩
  rw [ordD_num]
  refine hK _ _ hg3 ?_; clear hK K; (try simp only [Act.put, Act.eval, List.setIfInBounds_toArray, List.set_cons_zero, List.set_cons_succ, Array.getD_eq_getD_getElem?, List.getElem?_toArray, List.getElem?_cons_succ, List.getElem?_cons_zero, Option.getD_some])
  have G3 := Lib.hid (grown_trans G2.out (grown_trans hw1 hg3))
  clear hw1 hg3 G2
  (repeat (first | (refine gSeq_skip rfl (by rfl) ?_; (try simp only [Act.put, Act.eval, List.setIfInBounds_toArray, List.set_cons_zero, List.set_cons_succ, Array.getD_eq_getD_getElem?, List.getElem?_toArray, List.getElem?_cons_succ, List.getElem?_cons_zero, Option.getD_some])) | (refine gSeq_move _ rfl rfl (by rfl) ?_; (try simp only [Act.put, Act.eval, List.setIfInBounds_toArray, List.set_cons_zero, List.set_cons_succ, Array.getD_eq_getD_getElem?, List.getElem?_toArray, List.getElem?_cons_succ, List.getElem?_cons_zero, Option.getD_some])) | (refine gSeq_assign _ rfl rfl (by rfl) ?_; (try simp only [Act.put, Act.eval, List.setIfInBounds_toArray, List.set_cons_zero, List.set_cons_succ, Array.getD_eq_getD_getElem?, List.getElem?_toArray, List.getElem?_cons_succ, List.getElem?_cons_zero, Option.getD_some])) | (fail) | (refine gSeq_pure rfl (by rfl) ?_ ?_ ?_; (rotate_left; (intro w'; (skip); go_simp; (first | done | with_reducible rfl)); (try simp only [Act.put, Act.eval, List.setIfInBounds_toArray, List.set_cons_zero, List.set_cons_succ, Array.getD_eq_getD_getElem?, List.getElem?_toArray, List.getElem?_cons_succ, List.getElem?_cons_zero, Option.getD_some]))) | (refine gSeq_still rfl (by rfl) ?_ ?_ ?_; (rotate_left; (intro w' hG; (skip); go_simp; (first | done | with_reducible rfl)); (try simp only [Act.put, Act.eval, List.setIfInBounds_toArray, List.set_cons_zero, List.set_cons_succ, Array.getD_eq_getD_getElem?, List.getElem?_toArray, List.getElem?_cons_succ, List.getElem?_cons_zero, Option.getD_some])))))
  (refine gSeq_float rfl _ rfl (fun w2 b2 hg2 hn2 hb2 => ?_)); (try simp only [ptrTo]); (try simp only [Act.put, Act.eval, List.setIfInBounds_toArray, List.set_cons_zero, List.set_cons_succ, Array.getD_eq_getD_getElem?, List.getElem?_toArray, List.getElem?_cons_succ, List.getElem?_cons_zero, Option.getD_some])
  have G5 := Lib.hid (grown_trans G3.out hg2)
  have HB2 := Lib.hid hb2
  have HN2 := Lib.hid (show p + 1 + 1 ≤ b2 by rw [HN.out]; exact hn2)
  have R1' := Lib.hid ((G5.out.block _ (row_lt R1.out) (by simp)).trans R1.out)
  have R2' := Lib.hid ((G5.out.block _ (row_lt R2.out) (by simp)).trans R2.out)
  have R1 := R1'
  have R2 := R2'
  have G4 := Lib.hid (grown_trans G4.out G5.out)
  clear hg2 hb2 hn2 G3 G5 R1' R2'
  (refine gSeq_store_range rfl (by rfl) _ _ _ rfl b2 0 (encK .u64 (digB B64 5 (numB B64 a - ordL))) rfl rfl _ _ HB2.out (by rw [size_encK, size_encK, length_digB]; decide) (by rw [size_encK, length_digB]; kernel_rfl) (one_encK _ _) ?_)
  intro w8 r8 g8
  rw [putAt_all _ _ (by rw [Array.length_toList, size_encK, size_encK, length_digB]; rfl)] at r8
  have R9 : Hid (w8.heap[b2]? = some (.cells (encK .u64 (digB B64 5 (numB B64 a - ordL))) T5 (0, 0))) := r8
  have R1' := Lib.hid ((g8.block _ (row_lt R1.out) (by intro e; injection e with e; have := HN2.out; omega)).trans R1.out)
  have R2' := Lib.hid ((g8.block _ (row_lt R2.out) (by intro e; injection e with e; have := HN2.out; omega)).trans R2.out)
  have R1 := R1'
  have R2 := R2'
  have G9 := Lib.hid (grown_row G4.out g8 (fun j hj => by injection hj with hj; have := HP.out; have := HN2.out; omega))
  clear r8 g8 R1' R2' HB2
  (try simp only [Act.put, Act.eval, List.setIfInBounds_toArray, List.set_cons_zero, List.set_cons_succ, Array.getD_eq_getD_getElem?, List.getElem?_toArray, List.getElem?_cons_succ, List.getElem?_cons_zero, Option.getD_some])
  (repeat (first | (refine gSeq_skip rfl (by rfl) ?_; (try simp only [Act.put, Act.eval, List.setIfInBounds_toArray, List.set_cons_zero, List.set_cons_succ, Array.getD_eq_getD_getElem?, List.getElem?_toArray, List.getElem?_cons_succ, List.getElem?_cons_zero, Option.getD_some])) | (refine gSeq_move _ rfl rfl (by rfl) ?_; (try simp only [Act.put, Act.eval, List.setIfInBounds_toArray, List.set_cons_zero, List.set_cons_succ, Array.getD_eq_getD_getElem?, List.getElem?_toArray, List.getElem?_cons_succ, List.getElem?_cons_zero, Option.getD_some])) | (refine gSeq_assign _ rfl rfl (by rfl) ?_; (try simp only [Act.put, Act.eval, List.setIfInBounds_toArray, List.set_cons_zero, List.set_cons_succ, Array.getD_eq_getD_getElem?, List.getElem?_toArray, List.getElem?_cons_succ, List.getElem?_cons_zero, Option.getD_some])) | (fail) | (refine gSeq_pure rfl (by rfl) ?_ ?_ ?_; (rotate_left; (intro w'; (skip); go_simp; (first | done | with_reducible rfl)); (try simp only [Act.put, Act.eval, List.setIfInBounds_toArray, List.set_cons_zero, List.set_cons_succ, Array.getD_eq_getD_getElem?, List.getElem?_toArray, List.getElem?_cons_succ, List.getElem?_cons_zero, Option.getD_some]))) | (refine gSeq_still rfl (by rfl) ?_ ?_ ?_; (rotate_left; (intro w' hG; (skip); go_simp; (first | done | with_reducible rfl)); (try simp only [Act.put, Act.eval, List.setIfInBounds_toArray, List.set_cons_zero, List.set_cons_succ, Array.getD_eq_getD_getElem?, List.getElem?_toArray, List.getElem?_cons_succ, List.getElem?_cons_zero, Option.getD_some])))))
  refine gSeq_nil ?_
  by_cases hc : numB B64 a < ordL
  · have hb : decide (numB B64 a < ordL) = true := decide_eq_true hc
    rw [hb]
    go_wp2_with (first | (refine wpList_load_row rfl T5 (.tmp 1) rfl p rfl _ _ _ _ R1.out Try.underlying36 rfl (by rw [size_encK, HA.out]; kernel_rfl) ?_) | (refine wpList_store_range rfl T5 (.tmp 2) (.tmp 14) rfl (p + 1) 0 (encK .u64 a) rfl rfl _ _ R2.out (by rw [size_encK, size_encK, HA.out]; decide) (by rw [size_encK, HA.out]; kernel_rfl) (one_encK _ _) ?_))
    intro w9 r9 g9
    rw [putAt_all _ _ (by rw [Array.length_toList, size_encK, size_encK, HA.out]; rfl)] at r9
    have R9 : Hid (w9.heap[p + 1]? = some (.cells (encK .u64 a) T5 (0, 0))) := r9
    have HG9 : Hid (w.grownBy w9 none) := grown_row G9.out g9 (fun k hk => by injection hk with hk; have := HP.out; omega)
    clear r9 g9
    go_wp2_with fail
    refine bodyPost_ret (results_cell_row rfl _ _ (p + 1) _ _ _ _ rfl R9.out Try.underlying36 rfl (by rw [size_encK, HA.out]; kernel_rfl)) rfl ⟨?_, HG9.out⟩
    have := digB_numB (B := B64) (by decide) a HOA.out
    rw [HA.out] at this
    rw [onceI, if_pos hc, this]
  · have hb : decide (numB B64 a < ordL) = false := decide_eq_false hc
    rw [hb]
    go_wp2_with (first | (refine wpList_load_row rfl T5 (.tmp 3) rfl b2 rfl _ _ _ _ R9.out Try.underlying36 rfl (by rw [size_encK, length_digB]; kernel_rfl) ?_) | (refine wpList_store_range rfl T5 (.tmp 2) (.tmp 13) rfl (p + 1) 0 (encK .u64 (digB B64 5 (numB B64 a - ordL))) rfl rfl _ _ R2.out (by rw [size_encK, size_encK, length_digB]; decide) (by rw [size_encK, length_digB]; kernel_rfl) (one_encK _ _) ?_))
    intro w9 r9 g9
    rw [putAt_all _ _ (by rw [Array.length_toList, size_encK, size_encK, length_digB]; rfl)] at r9
    have R9 : Hid (w9.heap[p + 1]? = some (.cells (encK .u64 (digB B64 5 (numB B64 a - ordL))) T5 (0, 0))) := r9
    have HG9 : Hid (w.grownBy w9 none) := grown_row G9.out g9 (fun k hk => by injection hk with hk; have := HP.out; omega)
    clear r9 g9
    go_wp2_with fail
    refine bodyPost_ret (results_cell_row rfl _ _ (p + 1) _ _ _ _ rfl R9.out Try.underlying36 rfl (by rw [size_encK, length_digB]; kernel_rfl)) rfl ⟨?_, HG9.out⟩
    rw [onceI, if_neg (Int.not_lt.2 hc)]
end Go.Proofs.Ytcfgobpjhppebaa
