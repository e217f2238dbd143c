/- scalar's reference: the order, which of two is below. -/
import Derived.Test.YtcfgobpjhppebaaScaK
namespace Go.Proofs.Ytcfgobpjhppebaa
set_option linter.unusedVariables false
set_option linter.unusedSimpArgs false
open Go.RowKit Go.Proofs.YtcfgobpjhppebaaL

def ordB : List Int := [237, 211, 245, 92, 26, 99, 18, 88, 214, 156, 247, 162, 222, 249, 222, 20, 0, 0, 0, 0, 0, 0, 0, 0, 0, 0, 0, 0, 0, 0, 0, 16]
theorem ordB_num : numB 256 ordB = ordL := by decide +kernel
theorem ordB_ok : okB 256 ordB := by unfold okB ordB; decide

set_option maxHeartbeats 1000000 in
theorem rorder_any (w : World) : Calls Try.prog 27 #[] w fun e w' => e = .returned (.agg (encK .u8 ordB)) ∧ w.grownBy w' none := by
  go_enter Try.func27, Try.ntmps27
  obtain ⟨p, hp⟩ : ∃ p, w.heap.size = p := ⟨_, rfl⟩
  have HP := Lib.hid hp
  clear hp
  go_wp2_with (refine wpList_store_range rfl A32 (.tmp 0) (.tmp 1) rfl p 0 (encK .u8 ordB) (by simp [Act.eval, HP.out]) rfl _ (encK .u8 (List.replicate 32 0)) (alloc_at _ _ HP.out.symm) (by decide) (by kernel_rfl) (one_encK _ _) ?_)
  intro w8 r8 g8
  rw [putAt_all _ _ (by rfl)] at r8
  have R9 : Hid (w8.heap[p]? = some (.cells (encK .u8 ordB) A32 (0, 0))) := r8
  have HG9 : Hid (w.grownBy w8 none) := grown_row (grown_alloc (grown_refl w none) _) g8 (fun k hk => by injection hk with hk; have := HP.out; omega)
  clear r8 g8
  rw [HP.out]
  go_wp2_with fail
  exact bodyPost_ret (results_cell_row rfl _ _ p _ _ _ _ rfl R9.out Try.underlying22 rfl (by kernel_rfl)) rfl ⟨rfl, HG9.out⟩

/-- Which of two is below: the highest digit in which they part. -/
theorem numB_lt {B : Int} (hB : 1 < B) {a b : List Int} (hl : a.length = b.length) (ha : okB B a) (hb : okB B b) (k : Nat) (hk : k < a.length) (hd : a.drop (k + 1) = b.drop (k + 1)) (hne : a.getD k 0 ≠ b.getD k 0) :
    decide (numB B a < numB B b) = decide (a.getD k 0 < b.getD k 0) := by
  have split : ∀ (s : List Int), k < s.length → numB B s = numB B (s.take k) + B ^ k * (s.getD k 0 + B * numB B (s.drop (k + 1))) := fun s hs => by
    have h := numB_append B (s.take (k + 1)) (s.drop (k + 1))
    rw [List.take_append_drop, List.length_take, Nat.min_eq_left (by omega), numB_next B s k hs, Int.pow_succ, Int.mul_assoc] at h
    rw [Int.mul_add]; omega
  have h1 := numB_take_range hB ha k (by omega)
  have h2 := numB_take_range hB hb k (by omega)
  have ea := split a hk
  have eb := split b (by omega)
  rw [← hd] at eb
  obtain ⟨R, hR⟩ : ∃ R, R = B * numB B (a.drop (k + 1)) := ⟨_, rfl⟩
  rw [← hR] at ea eb
  have hp : 0 < B ^ k := Int.pow_pos (by omega)
  have key : ∀ (x y u v : Int), 0 ≤ x → x < B ^ k → 0 ≤ y → u < v → x + B ^ k * (u + R) < y + B ^ k * (v + R) := fun x y u v _ hx hy huv => by
    have h : B ^ k * (u + R + 1) ≤ B ^ k * (v + R) := Int.mul_le_mul_of_nonneg_left (by omega) (by omega)
    rw [Int.mul_add, Int.mul_one] at h
    omega
  rcases Int.lt_or_gt_of_ne hne with h | h
  · have := key _ _ _ _ h1.1 h1.2 h2.1 h
    rw [← ea, ← eb] at this
    rw [decide_eq_true h, decide_eq_true this]
  · have := key _ _ _ _ h2.1 h2.2 h1.1 h
    rw [← ea, ← eb] at this
    rw [decide_eq_false (by omega), decide_eq_false (by omega)]

set_option maxHeartbeats 1000000 in
set_option maxRecDepth 100000 in
theorem below_any (a b : List Int) (w : World) (ha : a.length = 32) (hoa : okB 256 a) (hb : b.length = 32) (hob : okB 256 b) :
    Calls Try.prog 26 #[.agg (encK .u8 a), .agg (encK .u8 b)] w fun e w' => e = .returned (.bool (decide (numB 256 a < numB 256 b))) ∧ w.grownBy w' none := by
  have HA := Lib.hid ha
  have HOA := Lib.hid hoa
  have HB := Lib.hid hb
  have HOB := Lib.hid hob
  clear ha hoa hb hob
  go_enter Try.func26, Try.ntmps26
  obtain ⟨p, hp⟩ : ∃ p, w.heap.size = p := ⟨_, rfl⟩
  have HP := Lib.hid hp
  clear hp
  go_wp2_with fail
  rw [HP.out]
  go_loopw [5] (fun v wr => ∃ k : Nat, k ≤ 32 ∧ v = .int .i64 ((k : Int) - 1) ∧ wr.heap[p]? = some (.cells (encK .u8 a) A32 (0, 0)) ∧ wr.heap[p + 1]? = some (.cells (encK .u8 b) A32 (0, 0)) ∧ Hid (a.drop k = b.drop k) ∧ w.grownBy wr none) (fun v _ => (intOf v + 1).toNat)
  case atStart =>
    rw [← HP.out]
    exact ⟨32, by omega, rfl, two_0 _ _ _, two_1 _ _ _, (by rw [List.drop_of_length_le (by rw [HA.out]; omega), List.drop_of_length_le (by rw [HB.out]; omega)]; exact rfl), two_g _ _ _⟩
  case round =>
    obtain ⟨k, hk, rfl, r0, r1, HD, hg⟩ := hrel
    have R0 := Lib.hid r0
    have R1 := Lib.hid r1
    have HG := Lib.hid hg
    clear r0 r1 hg
    cases k with
    | zero =>
      go_wp2_with fail
      have : a = b := HD.out
      exact bodyPost_ret (results_tmp rfl _ _ _) rfl ⟨by rw [this, decide_eq_false (by omega)]; rfl, HG.out⟩
    | succ j =>
      obtain ⟨I, hI⟩ : ∃ I, I = ((j + 1 : Nat) : Int) - 1 := ⟨_, rfl⟩
      have hI1 : I = j := by omega
      rw [← hI]
      clear hI
      subst hI1
      have hj32 : (j : Int) < 32 := by omega
      have hj0 : 0 ≤ (j : Int) := by omega
      have e0 := rowK_at R0.out j (by rw [HA.out]; omega)
      have e1 := rowK_at R1.out j (by rw [HB.out]; omega)
      obtain ⟨x, hx⟩ : ∃ x, x = a.getD j 0 := ⟨_, rfl⟩
      obtain ⟨y, hy⟩ : ∃ y, y = b.getD j 0 := ⟨_, rfl⟩
      rw [← hx] at e0
      rw [← hy] at e1
      have HX := Lib.hid hx
      have HY := Lib.hid hy
      clear hx hy
      go_wp2_with fail
      refine wp_region_grow [(2, 0), (2, 1), (1, 2), (2, 3), (2, 4), (1, 5), (2, 6)] (by kernel_rfl) (by kernel_rfl) (fun _ _ _ _ _ h => h) (fun _ _ _ _ _ h => h) ?_
      refine gSeq_name fun w4 hw4 => ?_
      have g4 : wr.grownBy w4 none := by rw [hw4]; exact grown_drew _ _
      have E0 := Lib.hid (g4.cell e0 (by simp))
      have E1 := Lib.hid (g4.cell e1 (by simp))
      have R0' := Lib.hid ((g4.block _ (row_lt R0.out) (by simp)).trans R0.out)
      have R1' := Lib.hid ((g4.block _ (row_lt R1.out) (by simp)).trans R1.out)
      have HG' := Lib.hid (grown_trans HG.out g4)
      clear g4 hw4 R0 R1 HG e0 e1
      (repeat (first | (refine gSeq_skip rfl (by rfl) ?_; (try simp only [Act.put, Act.eval, List.setIfInBounds_toArray, List.set_cons_zero, List.set_cons_succ, Array.getD_eq_getD_getElem?, List.getElem?_toArray, List.getElem?_cons_succ, List.getElem?_cons_zero, Option.getD_some])) | (refine gSeq_move _ rfl rfl (by rfl) ?_; (try simp only [Act.put, Act.eval, List.setIfInBounds_toArray, List.set_cons_zero, List.set_cons_succ, Array.getD_eq_getD_getElem?, List.getElem?_toArray, List.getElem?_cons_succ, List.getElem?_cons_zero, Option.getD_some])) | (refine gSeq_assign _ rfl rfl (by rfl) ?_; (try simp only [Act.put, Act.eval, List.setIfInBounds_toArray, List.set_cons_zero, List.set_cons_succ, Array.getD_eq_getD_getElem?, List.getElem?_toArray, List.getElem?_cons_succ, List.getElem?_cons_zero, Option.getD_some])) | (fail) | (refine gSeq_pure rfl (by rfl) ?_ ?_ ?_; (rotate_left; (intro w'; (try (have d1 := hG.cell E0.out (by simp); have d2 := hG.cell E1.out (by simp))); go_simp; (first | done | with_reducible rfl)); (try simp only [Act.put, Act.eval, List.setIfInBounds_toArray, List.set_cons_zero, List.set_cons_succ, Array.getD_eq_getD_getElem?, List.getElem?_toArray, List.getElem?_cons_succ, List.getElem?_cons_zero, Option.getD_some]))) | (refine gSeq_still rfl (by rfl) ?_ ?_ ?_; (rotate_left; (intro w' hG; (try (have d1 := hG.cell E0.out (by simp); have d2 := hG.cell E1.out (by simp))); go_simp; (first | done | with_reducible rfl)); (try simp only [Act.put, Act.eval, List.setIfInBounds_toArray, List.set_cons_zero, List.set_cons_succ, Array.getD_eq_getD_getElem?, List.getElem?_toArray, List.getElem?_cons_succ, List.getElem?_cons_zero, Option.getD_some])))))
      refine gSeq_nil ?_
      by_cases hxy : x = y
      · subst hxy
        go_wp2_with fail
        exact ⟨⟨j, by omega, rfl, R0'.out, R1'.out, (by rw [drop_at a j (by rw [HA.out]; omega), drop_at b j (by rw [HB.out]; omega), ← HX.out, ← HY.out, HD.out]; exact rfl), HG'.out⟩, by first | (simp [intOf]; done) | (simp [intOf]; omega)⟩
      · go_wp2_with fail
        refine wp_region_grow [(2, 0), (2, 1), (1, 2), (2, 3), (2, 4), (1, 5), (2, 6), (2, 7)] (by kernel_rfl) (by kernel_rfl) (fun _ _ _ _ _ h => h) (fun _ _ _ _ _ h => h) ?_
        refine gSeq_name fun w5 hw5 => ?_
        have g5 : w4.grownBy w5 none := by rw [hw5]; exact grown_drew _ _
        have E0' := Lib.hid (g5.cell E0.out (by simp))
        have E1' := Lib.hid (g5.cell E1.out (by simp))
        have HG2 := Lib.hid (grown_trans HG'.out g5)
        clear g5 hw5
        (repeat (first | (refine gSeq_skip rfl (by rfl) ?_; (try simp only [Act.put, Act.eval, List.setIfInBounds_toArray, List.set_cons_zero, List.set_cons_succ, Array.getD_eq_getD_getElem?, List.getElem?_toArray, List.getElem?_cons_succ, List.getElem?_cons_zero, Option.getD_some])) | (refine gSeq_move _ rfl rfl (by rfl) ?_; (try simp only [Act.put, Act.eval, List.setIfInBounds_toArray, List.set_cons_zero, List.set_cons_succ, Array.getD_eq_getD_getElem?, List.getElem?_toArray, List.getElem?_cons_succ, List.getElem?_cons_zero, Option.getD_some])) | (refine gSeq_assign _ rfl rfl (by rfl) ?_; (try simp only [Act.put, Act.eval, List.setIfInBounds_toArray, List.set_cons_zero, List.set_cons_succ, Array.getD_eq_getD_getElem?, List.getElem?_toArray, List.getElem?_cons_succ, List.getElem?_cons_zero, Option.getD_some])) | (fail) | (refine gSeq_pure rfl (by rfl) ?_ ?_ ?_; (rotate_left; (intro w'; (try (have d1 := hG.cell E0'.out (by simp); have d2 := hG.cell E1'.out (by simp))); go_simp; (first | done | with_reducible rfl)); (try simp only [Act.put, Act.eval, List.setIfInBounds_toArray, List.set_cons_zero, List.set_cons_succ, Array.getD_eq_getD_getElem?, List.getElem?_toArray, List.getElem?_cons_succ, List.getElem?_cons_zero, Option.getD_some]))) | (refine gSeq_still rfl (by rfl) ?_ ?_ ?_; (rotate_left; (intro w' hG; (try (have d1 := hG.cell E0'.out (by simp); have d2 := hG.cell E1'.out (by simp))); go_simp; (first | done | with_reducible rfl)); (try simp only [Act.put, Act.eval, List.setIfInBounds_toArray, List.set_cons_zero, List.set_cons_succ, Array.getD_eq_getD_getElem?, List.getElem?_toArray, List.getElem?_cons_succ, List.getElem?_cons_zero, Option.getD_some])))))
        refine gSeq_nil ?_
        go_wp2_with fail
        have hlt := numB_lt (B := 256) (by decide) (HA.out.trans HB.out.symm) HOA.out HOB.out j (by rw [HA.out]; omega) HD.out (by rw [← HX.out, ← HY.out]; exact hxy)
        rw [← HX.out, ← HY.out] at hlt
        exact bodyPost_ret (results_tmp rfl _ _ _) rfl ⟨by rw [hlt]; rfl, HG2.out⟩
end Go.Proofs.Ytcfgobpjhppebaa
