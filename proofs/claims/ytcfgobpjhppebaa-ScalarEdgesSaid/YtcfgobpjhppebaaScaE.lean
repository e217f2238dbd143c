/- scalar: bytes' number, in limbs. -/
import Derived.Test.YtcfgobpjhppebaaScaD
namespace Go.Proofs.Ytcfgobpjhppebaa
set_option linter.unusedVariables false
set_option linter.unusedSimpArgs false
open Go.RowKit Go.Proofs.YtcfgobpjhppebaaL

abbrev F4 : Nat := 48
set_option maxHeartbeats 1000000 in
set_option maxRecDepth 100000 in
theorem fload_any (a : List Int) (w : World) (ha : a.length = 32) (hoa : okB 256 a) :
    Calls Try.prog 25 #[.agg (encK .u8 a)] w fun e w' => e = .returned (.agg (encK .u64 (digB B64 4 (numB 256 a)))) ∧ w.grownBy w' none := by
  have HA := Lib.hid ha
  have HOA := Lib.hid hoa
  clear ha hoa
  go_enter Try.func25, Try.ntmps25
  obtain ⟨p, hp⟩ : ∃ p, w.heap.size = p := ⟨_, rfl⟩
  have HP := Lib.hid hp
  have HE0 := Lib.hid (show encK .u64 (digB B64 4 (numB 256 (a.take 0))) = encK .u64 (List.replicate 4 0) by simp [numB]; rfl)
  clear hp
  go_wp2_with (first | (refine wpList_load_row rfl A32 (.tmp 1) rfl p (by simp [Act.eval, HP.out]) _ _ _ _ (by rw [← HP.out]; exact three_0 w (.cells (encK .u8 a) A32 (0, 0)) _ _) Try.underlying22 rfl (by rw [size_encK, HA.out]; kernel_rfl) ?_))
  rw [HP.out]
  go_loopw [7] (fun v wr => ∃ k : Nat, k ≤ 32 ∧ v = .int .i64 k ∧ wr.heap[p + 1]? = some (.cells (encK .u64 (List.replicate 4 0)) F4 (0, 0)) ∧
    wr.heap[p + 1 + 1]? = some (.cells (encK .u64 (digB B64 4 (numB 256 (a.take k)))) F4 (0, 0)) ∧ w.grownBy wr none) (fun v _ => 32 - (intOf v).toNat)
  case atStart =>
    rw [← HP.out]
    exact ⟨0, by omega, rfl, three_1 _ _ _ _, by rw [HE0.out]; exact three_2 _ _ _ _, three_g _ _ _ _⟩
  case round =>
    obtain ⟨k, hk, rfl, r1, r2, hg⟩ := hrel
    have R1 := Lib.hid r1
    have R2 := Lib.hid r2
    have HG := Lib.hid hg
    clear r1 r2 hg
    by_cases hlt : k < 32
    · have hlt' : (k : Int) < 32 := by omega
      have hk0 : (0 : Int) ≤ (k : Int) := by omega
      have e1 := rowK_at R2.out (k / 8) (by rw [length_digB]; omega)
      obtain ⟨x, hx⟩ : ∃ x, x = (digB B64 4 (numB 256 (a.take k))).getD (k / 8) 0 := ⟨_, rfl⟩
      have hx0 := ok_getD (by decide) (ok_digB (B := B64) (by decide) 4 (numB 256 (a.take k))) (k / 8)
      rw [← hx] at e1 hx0
      obtain ⟨c, hc⟩ : ∃ c, c = a.getD k 0 := ⟨_, rfl⟩
      have hc0 := ok_getD (by decide) HOA.out k
      rw [← hc] at hc0
      have HC := Lib.hid hc
      have HX := Lib.hid hx
      clear hx hc
      have hlay := digB_lay (b := 256) (by decide) 8 (by decide) HOA.out 4 k (by rw [HA.out]; exact hlt) (by omega)
      have hor : bits .or .u64 x (IntKind.u64.wrap (c * 2 ^ (8 * (k % 8)))) = x + c * 256 ^ (k % 8) := by
        rw [show ((256 : Int) ^ 8) = B64 from rfl, ← HX.out, ← HC.out] at hlay
        rw [show (256 : Int) ^ (k % 8) = 2 ^ (8 * (k % 8)) by rw [Int.pow_mul]; rfl] at hlay ⊢
        have h2 : 0 ≤ c * 2 ^ (8 * (k % 8)) := Int.mul_nonneg hc0.1 (Int.le_of_lt (Int.pow_pos (by decide)))
        have h3 : c * 2 ^ (8 * (k % 8)) < 18446744073709551616 := hlay.2.2.2
        rw [IntWalk.u64_in _ (by omega)]
        exact u64_or_add x c _ hx0.1 hlay.2.2.1 hx0.2 hc0.1 h3
      have HOR := Lib.hid hor
      have hset := hlay.1
      rw [show ((256 : Int) ^ 8) = B64 from rfl, ← HX.out, ← HC.out] at hset
      have HSET := Lib.hid hset
      clear hlay hor hset
      go_wp2_with (first | (refine wpList_index_ints rfl A32 (.tmp 6) (.tmp 7) rfl 32 5 .u8 Try.underlying22 Try.underlying5 rfl a rfl HA.out _ k rfl rfl hlt ?_; rw [← HC.out]) | (refine wpList_store_cell rfl _ (.tmp 23) (.tmp 22) rfl (p + 1 + 1) (k / 8) _ rfl rfl _ _ R2.out (by rw [size_encK, length_digB]; omega) (by kernel_rfl) rfl rfl ?_))
      intro w5 r5 g5
      rw [HOR.out] at r5
      have r6 := rowK_set r5
      rw [HSET.out] at r6
      have g6 := grown_row HG.out g5 (fun j hj => by injection hj with hj; have := HP.out; omega)
      have r1' := (g5.block _ (row_lt R1.out) (by intro e; injection e; omega)).trans R1.out
      clear r5 g5
      go_wp2_with fail
      exact ⟨⟨k + 1, by omega, by go_num, r1', r6, g6⟩, by simp [intOf]; omega⟩
    · have : k = 32 := by omega
      subst this
      have R5 := R2.out
      rw [List.take_of_length_le (by rw [HA.out]; omega)] at R5
      have R6 := Lib.hid R5
      clear R5
      go_wp2_with (first | (refine wpList_load_row rfl F4 (.tmp 3) rfl (p + 1 + 1) rfl _ _ _ _ R6.out Try.underlying48 rfl (by rw [size_encK, length_digB]; kernel_rfl) ?_) | (refine wpList_store_range rfl F4 (.tmp 2) (.tmp 25) rfl (p + 1) 0 (encK .u64 (digB B64 4 (numB 256 a))) rfl rfl _ _ R1.out (by rw [size_encK, size_encK, length_digB]; decide) (by rw [size_encK, length_digB]; kernel_rfl) (one_encK _ _) ?_))
      intro w8 r8 g8
      rw [putAt_all _ _ (by rw [Array.length_toList, size_encK, size_encK, length_digB]; rfl)] at r8
      have R9 : Hid (w8.heap[p + 1]? = some (.cells (encK .u64 (digB B64 4 (numB 256 a))) F4 (0, 0))) := r8
      have HG9 : Hid (w.grownBy w8 none) := grown_row HG.out g8 (fun k hk => by injection hk with hk; have := HP.out; omega)
      clear r8 g8
      go_wp2_with fail
      exact bodyPost_ret (results_cell_row rfl _ _ (p + 1) _ _ _ _ rfl R9.out Try.underlying48 rfl (by rw [size_encK, length_digB]; kernel_rfl)) rfl ⟨rfl, HG9.out⟩
end Go.Proofs.Ytcfgobpjhppebaa
