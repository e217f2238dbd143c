/- scalar: the law's known numbers. -/
import Derived.Test.YtcfgobpjhppebaaScaP
namespace Go.Proofs.Ytcfgobpjhppebaa
set_option linter.unusedVariables false
set_option linter.unusedSimpArgs false
open Go.RowKit Go.Proofs.YtcfgobpjhppebaaL

def one8 (n : Int) : List Int := [n, 0, 0, 0, 0, 0, 0, 0, 0, 0, 0, 0, 0, 0, 0, 0, 0, 0, 0, 0, 0, 0, 0, 0, 0, 0, 0, 0, 0, 0, 0, 0]
def high8 (n : Int) : List Int := [0, 0, 0, 0, 0, 0, 0, 0, 0, 0, 0, 0, 0, 0, 0, 0, 0, 0, 0, 0, 0, 0, 0, 0, 0, 0, 0, 0, 0, 0, 0, n]
theorem ok_one8 (n : Int) (h0 : 0 ≤ n) (h1 : n < 256) : okB 256 (one8 n) := fun x hx => by
  have : x = n ∨ x = 0 := by simpa [one8] using hx
  omega
theorem ok_high8 (n : Int) (h0 : 0 ≤ n) (h1 : n < 256) : okB 256 (high8 n) := fun x hx => by
  have : x = n ∨ x = 0 := by simp [high8] at hx; omega
  omega
theorem k_add : digB 256 32 ((numB 256 (one8 2) + numB 256 (one8 3)) % ordL) = one8 5 := by decide +kernel
theorem k_mul : digB 256 32 (numB 256 (one8 2) * numB 256 (one8 3) % ordL) = one8 6 := by decide +kernel
theorem k_red : digB 256 32 (numB 256 (([7] : List Int).take 64) % ordL) = one8 7 := by decide +kernel
theorem k_can : decide (numB 256 (one8 1) < ordL) = true := by decide +kernel
theorem k_not : decide (numB 256 (high8 32) < ordL) = false := by decide +kernel
set_option maxHeartbeats 4000000 in
set_option maxRecDepth 100000 in
theorem known_any (w : World) : Calls Try.prog 6 #[] w fun e w' => e = .returned (.bool true) ∧ w.grownBy w' none := by
  go_enter Try.func6, Try.ntmps6
  go_wp2_with fail
  refine (add_any (one8 2) (one8 3) _ rfl (ok_one8 2 (by decide) (by decide)) rfl (ok_one8 3 (by decide) (by decide))).mono ?_
  rintro e w1 ⟨rfl, hg1⟩
  rw [k_add]
  have HG1 := Lib.hid hg1
  clear hg1
  go_wp2_with (refine wpList_eql rfl _ (.tmp 3) (.tmp 4) _ rfl 32 _ .u8 Try.underlying22 Try.underlying5 (by kernel_rfl) (by kernel_rfl) (one8 5) (one8 5) rfl rfl rfl rfl true rfl ?_)
  refine (mul_any (one8 2) (one8 3) _ rfl (ok_one8 2 (by decide) (by decide)) rfl (ok_one8 3 (by decide) (by decide))).mono ?_
  rintro e w2 ⟨rfl, hg2⟩
  rw [k_mul]
  have HG2 := Lib.hid (grown_trans HG1.out hg2)
  clear hg2 HG1
  obtain ⟨q, hq⟩ : ∃ q, w2.heap.size = q := ⟨_, rfl⟩
  have HQ := Lib.hid hq
  clear hq
  go_wp2_with (refine wpList_eql rfl _ (.tmp 9) (.tmp 10) _ rfl 32 _ .u8 Try.underlying22 Try.underlying5 (by kernel_rfl) (by kernel_rfl) (one8 6) (one8 6) rfl rfl rfl rfl true rfl ?_)
  have r7 : (w2.alloc (.cells (encK .u8 [7]) 5 (0, 0))).heap[w2.heap.size]? = some (.cells (encK .u8 [7]) 5 (0, 0)) := alloc_at (w := w2) _ rfl
  refine (reduce_any _ 1 1 [7] _ (rd_row r7) (by intro x hx; have h : x = 7 := (by simpa using hx); omega) (by decide)).mono ?_
  rintro e w3 ⟨rfl, hg3⟩
  rw [k_red]
  have HG3 := Lib.hid (grown_trans HG2.out (grown_trans (World.grownBy_alloc _ _ _) hg3))
  clear hg3 HG2 r7
  go_wp2_with (refine wpList_eql rfl _ (.tmp 15) (.tmp 16) _ rfl 32 _ .u8 Try.underlying22 Try.underlying5 (by kernel_rfl) (by kernel_rfl) (one8 7) (one8 7) rfl rfl rfl rfl true rfl ?_)
  refine (canon_any (one8 1) _ rfl (ok_one8 1 (by decide) (by decide))).mono ?_
  rintro e w4 ⟨rfl, hg4⟩
  rw [k_can]
  have HG4 := Lib.hid (grown_trans HG3.out hg4)
  clear hg4 HG3
  go_wp2_with fail
  refine (canon_any (high8 32) _ rfl (ok_high8 32 (by decide) (by decide))).mono ?_
  rintro e w5 ⟨rfl, hg5⟩
  rw [k_not]
  have HG5 := Lib.hid (grown_trans HG4.out hg5)
  clear hg5 HG4
  go_wp2_with fail
  refine (clamp_any (one8 7) _ rfl (ok_one8 7 (by decide) (by decide))).mono ?_
  rintro e w6 ⟨rfl, hg6⟩
  have HG6 := Lib.hid (grown_trans HG5.out hg6)
  clear hg6 HG5
  go_wp2_with (refine wpList_index_ints' rfl _ (.tmp 30) _ rfl 32 _ .u8 Try.underlying22 Try.underlying5 (by kernel_rfl) _ rfl rfl _ 0 rfl rfl (by decide) ?_)
  exact bodyPost_ret (results_tmp rfl _ _ _) rfl ⟨rfl, HG6.out⟩
end Go.Proofs.Ytcfgobpjhppebaa
