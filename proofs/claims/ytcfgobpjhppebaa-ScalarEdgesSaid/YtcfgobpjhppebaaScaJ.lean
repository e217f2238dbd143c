/- scalar: a product of two limbs; a row of a product. -/
import Derived.Test.YtcfgobpjhppebaaScaI
import Derived.Shelf.Bits.Mul64
namespace Go.Proofs.Ytcfgobpjhppebaa
set_option linter.unusedVariables false
set_option linter.unusedSimpArgs false
open Go.RowKit Go.Proofs.YtcfgobpjhppebaaL

set_option maxHeartbeats 1000000 in
theorem mul64_any (x y : Nat) (hx : x < 18446744073709551616) (hy : y < 18446744073709551616) (w : World) :
    Calls Try.prog 31 #[.int .u64 x, .int .u64 y] w fun e w' => e = .returned (.tuple #[.int .u64 ((x * y / 18446744073709551616 : Nat) : Int), .int .u64 ((x * y % 18446744073709551616 : Nat) : Int)]) ∧ w' = w := by
  obtain ⟨bd, bt, bw, hhi⟩ := Lib.mul64_hi x y hx hy
  have ba := Lib.half_mul_le (a := x / 4294967296) (b := y / 4294967296) (by omega) (by omega)
  have bb := Lib.half_mul_le (a := x / 4294967296) (b := y % 4294967296) (by omega) (by omega)
  have bc := Lib.half_mul_le (a := x % 4294967296) (b := y / 4294967296) (by omega) (by omega)
  have ba' : x / 4294967296 * (y / 4294967296) < 18446744073709551616 := by omega
  have bb' : x / 4294967296 * (y % 4294967296) < 18446744073709551616 := by omega
  have bc' : x % 4294967296 * (y / 4294967296) < 18446744073709551616 := by omega
  have bh1 : x / 4294967296 * (y / 4294967296) + (x / 4294967296 * (y % 4294967296) + x % 4294967296 * (y % 4294967296) / 4294967296) / 4294967296 < 18446744073709551616 := by omega
  have hxy : x * y / 18446744073709551616 < 18446744073709551616 := Nat.div_lt_of_lt_mul (Nat.mul_lt_mul'' hx hy)
  have bh := hxy
  rw [← hhi] at bh
  go_enter Try.func31, Try.ntmps31
  go_wp2
  simp only [Mul64.maskN x hx, Mul64.maskN y hy, Mul64.divN, Mul64.mulN, Mul64.addN, Mul64.wrapN _ bd, Mul64.wrapN _ bb', Mul64.wrapN _ bt, Mul64.maskN _ bt, Mul64.wrapN _ bc', Mul64.wrapN _ bw, Mul64.wrapN _ ba', Mul64.wrapN _ bh1, Mul64.wrapN _ bh, Mul64.wrapM (x * y)]
  rw [hhi]
  go_ret2
  exact ⟨rfl, rfl⟩
theorem mul64_int (x y : Int) (hx0 : 0 ≤ x) (hx : x < B64) (hy0 : 0 ≤ y) (hy : y < B64) (w : World) :
    Calls Try.prog 31 #[.int .u64 x, .int .u64 y] w fun e w' => e = .returned (.tuple #[.int .u64 (x * y / B64), .int .u64 (x * y % B64)]) ∧ w' = w := by
  obtain ⟨X, rfl⟩ := Int.eq_ofNat_of_zero_le hx0
  obtain ⟨Y, rfl⟩ := Int.eq_ofNat_of_zero_le hy0
  refine (mul64_any X Y (by have : (X : Int) < 18446744073709551616 := hx; omega) (by have : (Y : Int) < 18446744073709551616 := hy; omega) w).mono ?_
  rintro e w' ⟨rfl, h⟩
  refine ⟨?_, h⟩
  have e1 : ((X : Int) * (Y : Int)) = ((X * Y : Nat) : Int) := (Int.natCast_mul X Y).symm
  rw [e1]
  rfl
theorem mul64_range (x y : Int) (hx0 : 0 ≤ x) (hx : x < B64) (hy0 : 0 ≤ y) (hy : y < B64) : 0 ≤ x * y / B64 ∧ x * y / B64 ≤ B64 - 2 ∧ 0 ≤ x * y % B64 ∧ x * y % B64 < B64 ∧ B64 * (x * y / B64) + x * y % B64 = x * y := by
  have hB : (0 : Int) < B64 := by decide
  have h1 : x * y ≤ (B64 - 1) * (B64 - 1) := Int.mul_le_mul (by omega) (by omega) hy0 (by decide)
  have h2 : x * y / B64 < B64 - 1 := Int.ediv_lt_of_lt_mul hB (Int.lt_of_le_of_lt h1 (by decide))
  exact ⟨Int.ediv_nonneg (Int.mul_nonneg hx0 hy0) (by decide), by omega, Int.emod_nonneg _ (by decide), Int.emod_lt_of_pos _ hB, Int.mul_ediv_add_emod _ _⟩

abbrev W8 : Nat := 45
set_option maxHeartbeats 1000000 in
set_option maxRecDepth 100000 in
theorem row_any (bx at_ : Nat) (a : List Int) (b v : Int) (w : World) (hbx : w.heap[bx]? = some (.cells (encK .u64 (digB B64 8 v)) W8 (0, 0))) (hat : at_ ≤ 3) (ha : a.length = 4) (hoa : okB B64 a) (hb0 : 0 ≤ b) (hb1 : b < B64) (hv0 : 0 ≤ v) (hv1 : v < B64 ^ (at_ + 4)) :
    Calls Try.prog 30 #[.pointer (some ⟨bx, 0, none⟩), .int .i64 at_, .agg (encK .u64 a), .int .u64 b] w fun e w' => e = .returned (.tuple #[]) ∧ w'.heap[bx]? = some (.cells (encK .u64 (digB B64 8 (v + B64 ^ at_ * (numB B64 a * b)))) W8 (0, 0)) ∧ w.grownBy w' (some bx) := by
  have HA := Lib.hid ha
  have HOA := Lib.hid hoa
  have HBX := Lib.hid hbx
  have HV := Lib.hid hv1
  have HX0 := Lib.hid (length_digB B64 8 v)
  have HX1 := Lib.hid (ok_digB (B := B64) (by decide) 8 v)
  have HX2 := Lib.hid (show numB B64 (digB B64 8 v) = v by
    rw [numB_digB (by decide), Int.emod_eq_of_lt hv0 (Int.lt_of_lt_of_le hv1 (ipow_le (by decide) (by omega)))])
  have HX3 := Lib.hid (show (digB B64 8 v).getD (at_ + 4) 0 = 0 by
    rw [digB_at (by decide) 8 v (at_ + 4) (by omega), Int.ediv_eq_zero_of_lt hv0 hv1]; rfl)
  obtain ⟨X, hX⟩ : ∃ X, X = digB B64 8 v := ⟨_, rfl⟩
  rw [← hX] at HBX HX0 HX1 HX2 HX3
  clear ha hoa hbx hv1 hX
  go_enter Try.func30, Try.ntmps30
  obtain ⟨p, hp⟩ : ∃ p, w.heap.size = p := ⟨_, rfl⟩
  have HP := Lib.hid hp
  have HBP := Lib.hid (show bx < p by rw [← hp]; exact row_lt HBX.out)
  clear hp
  go_wp2_with (refine wpList_load_row rfl F4 (.tmp 6) rfl p (by simp [Act.eval, HP.out]) _ _ _ _ (alloc_at _ _ HP.out.symm) Try.underlying48 rfl (by rw [size_encK, HA.out]; kernel_rfl) ?_)
  rw [HP.out]
  go_loopw [15, 8] (fun i_ c_ wr => ∃ (k : Nat) (c : Int) (Z : List Int), k ≤ 4 ∧ i_ = .int .i64 k ∧ c_ = .int .u64 c ∧ 0 ≤ c ∧ c < B64 ∧ wr.heap[bx]? = some (.cells (encK .u64 Z) W8 (0, 0)) ∧
    Hid (Z.length = 8 ∧ okB B64 Z ∧ Z.getD (at_ + 4) 0 = 0 ∧ numB B64 Z + B64 ^ (at_ + k) * c = v + B64 ^ at_ * (numB B64 (a.take k) * b)) ∧ w.grownBy wr (some bx)) (fun v _ _ => 4 - (intOf v).toNat)
  case atStart =>
    refine ⟨0, 0, X, by omega, rfl, rfl, by omega, by decide, ?_, ⟨HX0.out, HX1.out, HX3.out, by rw [HX2.out]; simp [numB]⟩, ?_⟩
    · rw [alloc_up _ _ (row_lt HBX.out)]; exact HBX.out
    · exact World.grownBy_alloc _ _ _
  case round =>
    obtain ⟨k, c, Z, hk, rfl, rfl, hc0, hc1, r1, HZ, hg⟩ := hrel
    have R1 := Lib.hid r1
    have HG := Lib.hid hg
    clear r1 hg
    by_cases hlt : k < 4
    · obtain ⟨x, hx⟩ : ∃ x, x = a.getD k 0 := ⟨_, rfl⟩
      have hx0 := ok_getD (by decide) HOA.out k
      rw [← hx] at hx0
      have HX := Lib.hid hx
      clear hx
      go_wp2_with (refine wpList_index_ints rfl F4 (.tmp 14) (.tmp 15) rfl 4 34 .u64 Try.underlying48 Try.underlying34 rfl a rfl HA.out _ k rfl rfl hlt ?_; rw [← HX.out])
      refine (mul64_int x b hx0.1 hx0.2 hb0 hb1 _).mono ?_
      rintro e w1 ⟨rfl, hw1⟩
      have hm := mul64_range x b hx0.1 hx0.2 hb0 hb1
      obtain ⟨hi, hhi⟩ : ∃ h, h = x * b / B64 := ⟨_, rfl⟩
      obtain ⟨lo, hlo⟩ : ∃ h, h = x * b % B64 := ⟨_, rfl⟩
      rw [← hhi, ← hlo] at hm ⊢
      obtain ⟨h1, h2, h3, h4, h5⟩ := hm
      have HM := Lib.hid h5
      have R1' : Hid (w1.heap[bx]? = some (.cells (encK .u64 Z) W8 (0, 0))) := by rw [hw1]; exact R1.out
      have HG' : Hid (w.grownBy w1 (some bx)) := by rw [hw1]; exact HG.out
      clear hhi hlo h5 hw1 R1 HG
      have hadd := fun w => add64_run lo c 0 h3 hc0 (by decide) (by decide) w
      go_wp2_with fail
      have hk0 : (0 : Int) ≤ (k : Int) := by omega
      obtain ⟨y, hy⟩ : ∃ y, y = Z.getD (at_ + k) 0 := ⟨_, rfl⟩
      have hy0 := ok_getD (by decide) HZ.out.2.1 (at_ + k)
      rw [← hy] at hy0
      have HY := Lib.hid hy
      have e1 := rowK_at R1'.out (at_ + k) (by rw [HZ.out.1]; omega)
      rw [← hy] at e1
      clear hy
      have hs : (lo + c) % B64 + B64 * ((lo + c) / B64) = lo + c := Int.emod_add_mul_ediv _ _
      have hs0 : 0 ≤ (lo + c) % B64 ∧ (lo + c) % B64 < B64 := ⟨Int.emod_nonneg _ (by decide), Int.emod_lt_of_pos _ (by decide)⟩
      have hs1 : 0 ≤ (lo + c) / B64 ∧ (lo + c) / B64 < 2 := ⟨Int.ediv_nonneg (by omega) (by decide), Int.ediv_lt_of_lt_mul (by decide) (by omega)⟩
      have hwr : IntKind.u64.wrap (hi + (lo + c) / 18446744073709551616) = hi + (lo + c) / 18446744073709551616 := IntWalk.u64_in _ (by have e : (lo + c) / 18446744073709551616 = (lo + c) / B64 := rfl; have e2 : B64 = 18446744073709551616 := rfl; omega)
      rw [hwr]
      obtain ⟨L1, hL1⟩ : ∃ z, z = (lo + c) % 18446744073709551616 := ⟨_, rfl⟩
      obtain ⟨C1, hC1⟩ : ∃ z, z = (lo + c) / 18446744073709551616 := ⟨_, rfl⟩
      rw [show (lo + c) % B64 = L1 from hL1.symm] at hs hs0
      rw [show (lo + c) / B64 = C1 from hC1.symm] at hs hs1
      rw [← hL1, ← hC1]
      have HS := Lib.hid hs
      obtain ⟨H1, hH1⟩ : ∃ z, z = hi + C1 := ⟨_, rfl⟩
      rw [← hH1]
      have HH1 := Lib.hid hH1
      have hH0 : 0 ≤ H1 := by omega
      have hH2 : H1 ≤ B64 - 1 := by omega
      have hadd2 := fun w => add64_run y L1 0 hy0.1 hs0.1 (by decide) (by decide) w
      clear hadd hwr hs hL1 hC1 hH1
      refine wp_region_grow [(2, 0), (2, 1), (2, 2), (2, 3), (2, 4), (2, 5), (2, 6), (2, 7), (2, 8), (2, 9), (1, 10), (2, 11), (2, 12), (2, 13), (2, 14), (2, 15), (2, 16), (2, 17), (3, 18), (2, 19)] (by kernel_rfl) (by kernel_rfl) (fun _ _ _ _ _ h => h) (fun _ _ _ _ _ h => h) ?_
      refine gSeq_name fun w4 hw4 => ?_
      have g4 : w1.grownBy w4 none := by rw [hw4]; exact grown_drew _ _
      have E1 := Lib.hid (g4.cell e1 (by simp))
      have R2 := Lib.hid ((g4.block _ (row_lt R1'.out) (by simp)).trans R1'.out)
      have HG2 := Lib.hid (grown_trans HG'.out ⟨g4.os, g4.tape, g4.output, g4.size, fun j h _ => g4.block j h (by simp)⟩)
      clear e1 g4 hw4 R1' HG'
      have hwk : IntKind.i64.wrap ((at_ : Int) + (k : Int)) = (at_ : Int) + (k : Int) := IntWalk.i64_in _ (by omega)
      have htn : ((at_ : Int) + (k : Int)).toNat = at_ + k := by omega
      have hlt8 : (at_ : Int) + (k : Int) < 8 := by omega
      have hge8 : 0 ≤ (at_ : Int) + (k : Int) := by omega
      (repeat (first | (refine gSeq_skip rfl (by rfl) ?_; (try simp only [Act.put, Act.eval, List.setIfInBounds_toArray, List.set_cons_zero, List.set_cons_succ, Array.getD_eq_getD_getElem?, List.getElem?_toArray, List.getElem?_cons_succ, List.getElem?_cons_zero, Option.getD_some])) | (refine gSeq_move _ rfl rfl (by rfl) ?_; (try simp only [Act.put, Act.eval, List.setIfInBounds_toArray, List.set_cons_zero, List.set_cons_succ, Array.getD_eq_getD_getElem?, List.getElem?_toArray, List.getElem?_cons_succ, List.getElem?_cons_zero, Option.getD_some])) | (refine gSeq_assign _ rfl rfl (by rfl) ?_; (try simp only [Act.put, Act.eval, List.setIfInBounds_toArray, List.set_cons_zero, List.set_cons_succ, Array.getD_eq_getD_getElem?, List.getElem?_toArray, List.getElem?_cons_succ, List.getElem?_cons_zero, Option.getD_some])) | (fail) | (refine gSeq_pure rfl (by rfl) ?_ ?_ ?_; (rotate_left; (intro w'; (try (have d1 := hG.cell E1.out (by simp))); go_simp; (first | done | with_reducible rfl)); (try simp only [Act.put, Act.eval, List.setIfInBounds_toArray, List.set_cons_zero, List.set_cons_succ, Array.getD_eq_getD_getElem?, List.getElem?_toArray, List.getElem?_cons_succ, List.getElem?_cons_zero, Option.getD_some]))) | (refine gSeq_still rfl (by rfl) ?_ ?_ ?_; (rotate_left; (intro w' hG; (try (have d1 := hG.cell E1.out (by simp))); go_simp; (first | done | with_reducible rfl)); (try simp only [Act.put, Act.eval, List.setIfInBounds_toArray, List.set_cons_zero, List.set_cons_succ, Array.getD_eq_getD_getElem?, List.getElem?_toArray, List.getElem?_cons_succ, List.getElem?_cons_zero, Option.getD_some])))))
      have hs2 : (y + L1) % B64 + B64 * ((y + L1) / B64) = y + L1 := Int.emod_add_mul_ediv _ _
      have hs20 : 0 ≤ (y + L1) % B64 ∧ (y + L1) % B64 < B64 := ⟨Int.emod_nonneg _ (by decide), Int.emod_lt_of_pos _ (by decide)⟩
      have hs21 : 0 ≤ (y + L1) / B64 ∧ (y + L1) / B64 < 2 := ⟨Int.ediv_nonneg (by omega) (by decide), Int.ediv_lt_of_lt_mul (by decide) (by omega)⟩
      obtain ⟨L2, hL2⟩ : ∃ z, z = (y + L1) % 18446744073709551616 := ⟨_, rfl⟩
      obtain ⟨C2, hC2⟩ : ∃ z, z = (y + L1) / 18446744073709551616 := ⟨_, rfl⟩
      rw [show (y + L1) % B64 = L2 from hL2.symm] at hs2 hs20
      rw [show (y + L1) / B64 = C2 from hC2.symm] at hs2 hs21
      rw [← hL2, ← hC2]
      -- all that was reckoned: x * b + c + y = L2 + B * (H1 + C2)
      have hall : L2 + B64 * (H1 + C2) = x * b + c + y := by
        have q1 := HM.out
        have q2 := HS.out
        have q3 := HH1.out
        have m1 : B64 * (H1 + C2) = B64 * hi + B64 * C1 + B64 * C2 := by rw [q3, Int.mul_add, Int.mul_add]
        omega
      have hx1 : x * b ≤ (B64 - 1) * (B64 - 1) := Int.mul_le_mul (by omega) (by omega) hb0 (by decide)
      have hcar : H1 + C2 < B64 := by
        apply Int.lt_of_mul_lt_mul_left (a := B64) _ (by decide)
        have : (B64 - 1) * (B64 - 1) + (B64 - 1) + (B64 - 1) < B64 * B64 := by decide
        omega
      have hcar0 : 0 ≤ H1 + C2 := by omega
      have hwr : IntKind.u64.wrap (H1 + C2) = H1 + C2 := IntWalk.u64_in _ (by have e2 : B64 = 18446744073709551616 := rfl; omega)
      have HALL := Lib.hid hall
      clear hL2 hC2 hs2 hall hx1 hadd2
      refine gSeq_store rfl (by rfl) _ _ _ rfl bx (at_ + k) _ rfl rfl _ _ R2.out (by rw [size_encK, HZ.out.1]; omega) (by kernel_rfl) rfl rfl ?_
      intro w5 r5 g5
      (try simp only [Act.put, Act.eval, List.setIfInBounds_toArray, List.set_cons_zero, List.set_cons_succ, Array.getD_eq_getD_getElem?, List.getElem?_toArray, List.getElem?_cons_succ, List.getElem?_cons_zero, Option.getD_some])
      (repeat (first | (refine gSeq_skip rfl (by rfl) ?_; (try simp only [Act.put, Act.eval, List.setIfInBounds_toArray, List.set_cons_zero, List.set_cons_succ, Array.getD_eq_getD_getElem?, List.getElem?_toArray, List.getElem?_cons_succ, List.getElem?_cons_zero, Option.getD_some])) | (refine gSeq_move _ rfl rfl (by rfl) ?_; (try simp only [Act.put, Act.eval, List.setIfInBounds_toArray, List.set_cons_zero, List.set_cons_succ, Array.getD_eq_getD_getElem?, List.getElem?_toArray, List.getElem?_cons_succ, List.getElem?_cons_zero, Option.getD_some])) | (refine gSeq_assign _ rfl rfl (by rfl) ?_; (try simp only [Act.put, Act.eval, List.setIfInBounds_toArray, List.set_cons_zero, List.set_cons_succ, Array.getD_eq_getD_getElem?, List.getElem?_toArray, List.getElem?_cons_succ, List.getElem?_cons_zero, Option.getD_some])) | (fail) | (refine gSeq_pure rfl (by rfl) ?_ ?_ ?_; (rotate_left; (intro w'; (skip); go_simp; (first | done | with_reducible rfl)); (try simp only [Act.put, Act.eval, List.setIfInBounds_toArray, List.set_cons_zero, List.set_cons_succ, Array.getD_eq_getD_getElem?, List.getElem?_toArray, List.getElem?_cons_succ, List.getElem?_cons_zero, Option.getD_some]))) | (refine gSeq_still rfl (by rfl) ?_ ?_ ?_; (rotate_left; (intro w' hG; (skip); go_simp; (first | done | with_reducible rfl)); (try simp only [Act.put, Act.eval, List.setIfInBounds_toArray, List.set_cons_zero, List.set_cons_succ, Array.getD_eq_getD_getElem?, List.getElem?_toArray, List.getElem?_cons_succ, List.getElem?_cons_zero, Option.getD_some])))))
      refine gSeq_nil ?_
      go_wp2_with fail
      have r6 := rowK_set r5
      obtain ⟨z1, z2, z3, z4⟩ := HZ.out
      refine ⟨⟨k + 1, H1 + C2, Z.set (at_ + k) L2, by omega, by go_num, rfl, hcar0, hcar, r6, ⟨by rw [List.length_set, z1], ok_set z2 _ _ hs20.1 hs20.2, ?_, ?_⟩, grown_trans HG2.out g5⟩, by simp [intOf]; omega⟩
      · rw [List.getD_eq_getElem?_getD, List.getElem?_set_ne (by omega), ← List.getD_eq_getElem?_getD, z3]
      · rw [numB_set B64 Z (at_ + k) L2 (by omega), ← HY.out, numB_next B64 a k (by rw [HA.out]; exact hlt), ← HX.out]
        have e1 : B64 ^ (at_ + (k + 1)) = B64 ^ (at_ + k) * B64 := by rw [← Nat.add_assoc, Int.pow_succ]
        have e2 : B64 ^ at_ * ((numB B64 (a.take k) + B64 ^ k * x) * b) = B64 ^ at_ * (numB B64 (a.take k) * b) + B64 ^ (at_ + k) * (x * b) := by
          rw [Int.add_mul, Int.mul_add, Int.mul_assoc (B64 ^ k), ← Int.mul_assoc (B64 ^ at_) (B64 ^ k), ← Int.pow_add]
        rw [e1, e2, Int.mul_assoc, ← Int.add_assoc, ← z4]
        have e3 : B64 ^ (at_ + k) * (L2 - y) + B64 ^ (at_ + k) * (B64 * (H1 + C2)) = B64 ^ (at_ + k) * c + B64 ^ (at_ + k) * (x * b) := by
          rw [← Int.mul_add, ← Int.mul_add]
          congr 1
          have := HALL.out
          omega
        omega
    · have : k = 4 := by omega
      subst this
      have HZ' := HZ.out
      rw [List.take_of_length_le (by rw [HA.out]; omega)] at HZ'
      have HZZ := Lib.hid HZ'
      clear HZ' HZ
      go_wp2_with (refine wpList_store_cell rfl _ (.tmp 61) (.tmp 59) rfl bx (at_ + 4) _ rfl rfl _ _ R1.out (by rw [size_encK, HZZ.out.1]; omega) (by kernel_rfl) rfl rfl ?_)
      intro w5 r5 g5
      have r6 := rowK_set r5
      obtain ⟨z1, z2, z3, z4⟩ := HZZ.out
      have hfin : Z.set (at_ + 4) c = digB B64 8 (v + B64 ^ at_ * (numB B64 a * b)) := by
        have h1 := digB_numB (B := B64) (by decide) (Z.set (at_ + 4) c) (ok_set z2 _ _ hc0 hc1)
        rw [List.length_set, z1, numB_set B64 Z (at_ + 4) c (by omega), z3, Int.sub_zero, z4] at h1
        exact h1.symm
      rw [hfin] at r6
      have R6 := Lib.hid r6
      have HG6 := Lib.hid (grown_trans HG.out g5)
      clear r5 r6 hfin z1 z2 z3 z4 g5
      go_wp2_with fail
      exact bodyPost_end (by simp [results, show Try.f30.results = #[] from rfl]) rfl ⟨rfl, R6.out, HG6.out⟩
end Go.Proofs.Ytcfgobpjhppebaa
