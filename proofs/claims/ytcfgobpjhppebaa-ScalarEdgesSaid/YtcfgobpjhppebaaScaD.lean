/- scalar: a number's bytes, and back. -/
import Derived.Test.YtcfgobpjhppebaaScaC
namespace Go.Proofs.Ytcfgobpjhppebaa
set_option linter.unusedVariables false
set_option linter.unusedSimpArgs false
open Go.RowKit Go.Proofs.YtcfgobpjhppebaaL

abbrev A32 : Nat := 22
set_option maxHeartbeats 1000000 in
set_option maxRecDepth 100000 in
theorem store_any (a : List Int) (w : World) (ha : a.length = 5) (hoa : okB B64 a) :
    Calls Try.prog 19 #[.agg (encK .u64 a)] w fun e w' => e = .returned (.agg (encK .u8 (digB 256 32 (numB B64 a)))) ∧ w.grownBy w' none := by
  have HA := Lib.hid ha
  have HOA := Lib.hid hoa
  clear ha hoa
  go_enter Try.func19, Try.ntmps19
  go_wp2_with fail
  obtain ⟨p, hp⟩ : ∃ p, w.heap.size = p := ⟨_, rfl⟩
  rw [hp]
  have HP := Lib.hid hp
  clear hp
  go_loopw [5] (fun v wr => ∃ k : Nat, k ≤ 32 ∧ v = .int .i64 k ∧ wr.heap[p]? = some (.cells (encK .u64 a) T5 (0, 0)) ∧ wr.heap[p + 1]? = some (.cells (encK .u8 (List.replicate 32 0)) A32 (0, 0)) ∧
    wr.heap[p + 1 + 1]? = some (.cells (encK .u8 (digB 256 k (numB B64 a) ++ List.replicate (32 - k) 0)) A32 (0, 0)) ∧ w.grownBy wr none) (fun v _ => 32 - (intOf v).toNat)
  case atStart =>
    rw [← HP.out]
    refine ⟨0, by omega, rfl, three_0 _ _ _ _, three_1 _ _ _ _, three_2 _ _ _ _, three_g _ _ _ _⟩
  case round =>
    obtain ⟨k, hk, rfl, r1, r2, r3, hg⟩ := hrel
    have R1 := Lib.hid r1
    have R2 := Lib.hid r2
    have R3 := Lib.hid r3
    have HG := Lib.hid hg
    clear r1 r2 r3 hg
    by_cases hlt : k < 32
    · have hlt' : (k : Int) < 32 := by omega
      have hk0 : (0 : Int) ≤ (k : Int) := by omega
      have e1 := rowK_at R1.out (k / 8) (by rw [HA.out]; omega)
      obtain ⟨x, hx⟩ : ∃ x, x = a.getD (k / 8) 0 := ⟨_, rfl⟩
      have hx0 := ok_getD (by decide) HOA.out (k / 8)
      rw [← hx] at e1 hx0
      have hfin : x / 2 ^ (8 * (k % 8)) % 256 = numB B64 a / 256 ^ k % 256 := by
        have h := numB_digit (b := 256) (by decide) 8 (by decide) a k HOA.out
        rw [show numB B64 a = numB (256 ^ 8) a from rfl, h, hx, Int.pow_mul]
        rfl
      have HFIN := Lib.hid hfin
      have R3' := R3
      clear hx hfin hx0
      go_wp2_with (refine wpList_store_cell rfl _ (.tmp 19) (.tmp 18) rfl (p + 1 + 1) k _ rfl rfl _ _ R3.out (by rw [size_encK, List.length_append, length_digB, List.length_replicate]; omega) (by kernel_rfl) rfl rfl ?_)
      intro w5 r5 g5
      rw [HFIN.out] at r5
      have r6 := rowK_set r5
      rw [digB_set 256 (by decide) k 32 (numB B64 a) hlt] at r6
      have g6 := grown_row HG.out g5 (fun j hj => by injection hj with hj; have := HP.out; omega)
      have r1' := (g5.block _ (row_lt R1.out) (by intro e; injection e; omega)).trans R1.out
      have r2' := (g5.block _ (row_lt R2.out) (by intro e; injection e; omega)).trans R2.out
      clear r5 g5
      go_wp2_with fail
      exact ⟨⟨k + 1, by omega, by go_num, r1', r2', r6, g6⟩, by simp [intOf]; omega⟩
    · have : k = 32 := by omega
      subst this
      have R5 := R3.out
      rw [show digB 256 32 (numB B64 a) ++ List.replicate (32 - 32) 0 = digB 256 32 (numB B64 a) by simp] at R5
      have R6 := Lib.hid R5
      clear R5
      go_wp2_with (first | (refine wpList_load_row rfl A32 (.tmp 3) rfl (p + 1 + 1) rfl _ _ _ _ R6.out Try.underlying22 rfl (by rw [size_encK, length_digB]; kernel_rfl) ?_) | (refine wpList_store_range rfl A32 (.tmp 2) (.tmp 21) rfl (p + 1) 0 (encK .u8 (digB 256 32 (numB B64 a))) rfl rfl _ _ R2.out (by rw [size_encK, size_encK, length_digB]; decide) (by rw [size_encK, length_digB]; kernel_rfl) (one_encK _ _) ?_))
      intro w8 r8 g8
      rw [putAt_all _ _ (by rw [Array.length_toList, size_encK, size_encK, length_digB]; rfl)] at r8
      have R9 : Hid (w8.heap[p + 1]? = some (.cells (encK .u8 (digB 256 32 (numB B64 a))) A32 (0, 0))) := r8
      have HG9 : Hid (w.grownBy w8 none) := grown_row HG.out g8 (fun k hk => by injection hk with hk; have := HP.out; omega)
      clear r8 g8
      go_wp2_with fail
      exact bodyPost_ret (results_cell_row rfl _ _ (p + 1) _ _ _ _ rfl R9.out Try.underlying22 rfl (by rw [size_encK, length_digB]; kernel_rfl)) rfl ⟨rfl, HG9.out⟩
end Go.Proofs.Ytcfgobpjhppebaa
