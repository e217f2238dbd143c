/- poly: sums of three limbs, products of two. -/
import Derived.Test.YthhijeokeljcjaaProg
import Derived.Test.YthhijeokeljcjaaRow
import Derived.Laws.Externs
import Derived.Shelf.Bits.Mul64
import Derived.Shelf.Spec.BitsCarry
namespace Go.Proofs.Ythhijeokeljcjaa
set_option linter.unusedVariables false
set_option linter.unusedSimpArgs false
open Go.RowKit Go.Proofs.YthhijeokeljcjaaL

theorem add64_run (x y c : Int) (hx : 0 ≤ x) (hy : 0 ≤ y) (hc0 : 0 ≤ c) (hc : c ≤ 1) (w : World) : (callFunc 34 #[.int .u64 x, .int .u64 y, .int .u64 c]).run Try.prog w =
    .ok (.value (.tuple #[.int .u64 ((x + y + c) % 18446744073709551616), .int .u64 ((x + y + c) / 18446744073709551616)])) w := by
  rw [run_callFunc_extern Try.func34 (by kernel_rfl) (by kernel_rfl) (by kernel_rfl) (e := add64Entry) (by kernel_rfl), run_add64 x y c hx hy hc0 hc]
  rfl
abbrev B64 : Int := 18446744073709551616
abbrev T3 : Nat := 61
theorem nat_all (p : Nat → Bool) (h : (List.range 256).all p = true) (X : Nat) (hX : X < 256) : p X = true := List.all_eq_true.1 h X (List.mem_range.2 hX)
set_option maxHeartbeats 1000000 in
set_option maxRecDepth 100000 in
theorem plus_any (a b : List Int) (w : World) (ha : a.length = 3) (hb : b.length = 3) (hoa : okB B64 a) (hob : okB B64 b) :
    Calls Try.prog 32 #[.agg (encK .u64 a), .agg (encK .u64 b)] w fun e w' => e = .returned (.agg (encK .u64 (digB B64 3 (numB B64 a + numB B64 b)))) ∧ w.grownBy w' none := by
  rw [← (sums_eq (B := B64) (by decide) ha hb).1]
  have HA := Lib.hid ha
  have HB := Lib.hid hb
  have HOA := Lib.hid hoa
  have HOB := Lib.hid hob
  clear ha hb hoa hob
  go_enter Try.func32, Try.ntmps32
  go_wp2_with fail
  obtain ⟨p, hp⟩ : ∃ p, w.heap.size = p := ⟨_, rfl⟩
  rw [hp]
  have HP := Lib.hid hp
  clear hp
  go_loopw [8, 6] (fun v c wr => ∃ k : Nat, k ≤ 3 ∧ v = .int .i64 k ∧ c = .int .u64 (carry B64 a b k) ∧ wr.heap[p]? = some (.cells (encK .u64 a) T3 (0, 0)) ∧ wr.heap[p + 1]? = some (.cells (encK .u64 b) T3 (0, 0)) ∧
    wr.heap[p + 1 + 1]? = some (.cells (encK .u64 (List.replicate 3 0)) T3 (0, 0)) ∧ wr.heap[p + 1 + 1 + 1]? = some (.cells (encK .u64 (sums B64 a b k ++ List.replicate (3 - k) 0)) T3 (0, 0)) ∧ w.grownBy wr none) (fun v _ _ => 3 - (intOf v).toNat)
  case atStart =>
    rw [← HP.out]
    refine ⟨0, by omega, rfl, rfl, four_0 _ _ _ _ _, four_1 _ _ _ _ _, four_2 _ _ _ _ _, four_3 _ _ _ _ _, four_g _ _ _ _ _⟩
  case round =>
    obtain ⟨k, hk, rfl, rfl, r1, r2, r3, r4, hg⟩ := hrel
    have R1 := Lib.hid r1
    have R2 := Lib.hid r2
    have R3 := Lib.hid r3
    have R4 := Lib.hid r4
    have HG := Lib.hid hg
    clear r1 r2 r3 r4 hg
    by_cases hlt : k < 3
    · have hlt' : (k : Int) < 3 := by omega
      have hk0 : (0 : Int) ≤ (k : Int) := by omega
      have e1 := rowK_at R1.out k (by rw [HA.out]; exact hlt)
      have e2 := rowK_at R2.out k (by rw [HB.out]; exact hlt)
      obtain ⟨x, hx⟩ : ∃ x, x = a.getD k 0 := ⟨_, rfl⟩
      obtain ⟨y, hy⟩ : ∃ y, y = b.getD k 0 := ⟨_, rfl⟩
      obtain ⟨c, hc⟩ : ∃ c, c = carry B64 a b k := ⟨_, rfl⟩
      have hx0 := ok_getD (by decide) HOA.out k
      have hy0 := ok_getD (by decide) HOB.out k
      have hc0 := carry_range (by decide) HOA.out HOB.out k
      rw [← hx] at e1 hx0
      rw [← hy] at e2 hy0
      rw [← hc] at hc0
      rw [← hc]
      have hadd := fun w => add64_run x y c hx0.1 hy0.1 hc0.1 hc0.2 w
      have hnx : sumAt B64 a b k = (x + y + c) % 18446744073709551616 := by rw [hx, hy, hc]; rfl
      have hnc : carry B64 a b (k + 1) = (x + y + c) / 18446744073709551616 := by rw [hx, hy, hc]; rfl
      have HNX := Lib.hid hnx
      have HNC := Lib.hid hnc
      clear hx hy hc hnx hnc hx0 hy0 hc0
      go_wp2_with fail
      refine wp_region_grow [(2, 0), (2, 1), (2, 2), (1, 3), (2, 4), (2, 5), (1, 6), (2, 7), (2, 8), (2, 9), (2, 10), (2, 11), (2, 12), (3, 13), (2, 14)] (by kernel_rfl) (by kernel_rfl) (fun _ _ _ _ _ h => h) (fun _ _ _ _ _ h => h) ?_
      obtain ⟨w4, hw4⟩ : ∃ w4, w4 = wr.drew := ⟨_, rfl⟩
      rw [← hw4]
      have g4 : wr.grownBy w4 none := by rw [hw4]; exact grown_drew _ _
      have E1 := Lib.hid (g4.cell e1 (by simp))
      have E2 := Lib.hid (g4.cell e2 (by simp))
      have R4' := Lib.hid ((g4.block _ (row_lt R4.out) (by simp)).trans R4.out)
      have G4 := Lib.hid g4
      clear e1 e2 hw4 g4
      (repeat (first | (refine gSeq_skip rfl (by rfl) ?_; (try simp only [Act.put, Act.eval, List.setIfInBounds_toArray, List.set_cons_zero, List.set_cons_succ, Array.getD_eq_getD_getElem?, List.getElem?_toArray, List.getElem?_cons_succ, List.getElem?_cons_zero, Option.getD_some])) | (refine gSeq_move _ rfl rfl (by rfl) ?_; (try simp only [Act.put, Act.eval, List.setIfInBounds_toArray, List.set_cons_zero, List.set_cons_succ, Array.getD_eq_getD_getElem?, List.getElem?_toArray, List.getElem?_cons_succ, List.getElem?_cons_zero, Option.getD_some])) | (refine gSeq_assign _ rfl rfl (by rfl) ?_; (try simp only [Act.put, Act.eval, List.setIfInBounds_toArray, List.set_cons_zero, List.set_cons_succ, Array.getD_eq_getD_getElem?, List.getElem?_toArray, List.getElem?_cons_succ, List.getElem?_cons_zero, Option.getD_some])) | (fail) | (refine gSeq_pure rfl (by rfl) ?_ ?_ ?_; (rotate_left; (intro w'; (try (have d1 := hG.cell E1.out (by simp); have d2 := hG.cell E2.out (by simp))); go_simp; (first | done | with_reducible rfl)); (try simp only [Act.put, Act.eval, List.setIfInBounds_toArray, List.set_cons_zero, List.set_cons_succ, Array.getD_eq_getD_getElem?, List.getElem?_toArray, List.getElem?_cons_succ, List.getElem?_cons_zero, Option.getD_some]))) | (refine gSeq_still rfl (by rfl) ?_ ?_ ?_; (rotate_left; (intro w' hG; (try (have d1 := hG.cell E1.out (by simp); have d2 := hG.cell E2.out (by simp))); go_simp; (first | done | with_reducible rfl)); (try simp only [Act.put, Act.eval, List.setIfInBounds_toArray, List.set_cons_zero, List.set_cons_succ, Array.getD_eq_getD_getElem?, List.getElem?_toArray, List.getElem?_cons_succ, List.getElem?_cons_zero, Option.getD_some])))))
      refine gSeq_store rfl (by rfl) _ _ _ rfl (p + 1 + 1 + 1) k _ rfl rfl _ _ R4'.out (by rw [size_encK, List.length_append, length_sums, List.length_replicate]; omega) (by kernel_rfl) rfl rfl ?_
      intro w5 r5 g5
      (try simp only [Act.put, Act.eval, List.setIfInBounds_toArray, List.set_cons_zero, List.set_cons_succ, Array.getD_eq_getD_getElem?, List.getElem?_toArray, List.getElem?_cons_succ, List.getElem?_cons_zero, Option.getD_some])
      (repeat (first | (refine gSeq_skip rfl (by rfl) ?_; (try simp only [Act.put, Act.eval, List.setIfInBounds_toArray, List.set_cons_zero, List.set_cons_succ, Array.getD_eq_getD_getElem?, List.getElem?_toArray, List.getElem?_cons_succ, List.getElem?_cons_zero, Option.getD_some])) | (refine gSeq_move _ rfl rfl (by rfl) ?_; (try simp only [Act.put, Act.eval, List.setIfInBounds_toArray, List.set_cons_zero, List.set_cons_succ, Array.getD_eq_getD_getElem?, List.getElem?_toArray, List.getElem?_cons_succ, List.getElem?_cons_zero, Option.getD_some])) | (refine gSeq_assign _ rfl rfl (by rfl) ?_; (try simp only [Act.put, Act.eval, List.setIfInBounds_toArray, List.set_cons_zero, List.set_cons_succ, Array.getD_eq_getD_getElem?, List.getElem?_toArray, List.getElem?_cons_succ, List.getElem?_cons_zero, Option.getD_some])) | (fail) | (refine gSeq_pure rfl (by rfl) ?_ ?_ ?_; (rotate_left; (intro w'; (skip); go_simp; (first | done | with_reducible rfl)); (try simp only [Act.put, Act.eval, List.setIfInBounds_toArray, List.set_cons_zero, List.set_cons_succ, Array.getD_eq_getD_getElem?, List.getElem?_toArray, List.getElem?_cons_succ, List.getElem?_cons_zero, Option.getD_some]))) | (refine gSeq_still rfl (by rfl) ?_ ?_ ?_; (rotate_left; (intro w' hG; (skip); go_simp; (first | done | with_reducible rfl)); (try simp only [Act.put, Act.eval, List.setIfInBounds_toArray, List.set_cons_zero, List.set_cons_succ, Array.getD_eq_getD_getElem?, List.getElem?_toArray, List.getElem?_cons_succ, List.getElem?_cons_zero, Option.getD_some])))))
      refine gSeq_nil ?_
      go_wp2_with fail
      have r6 := rowK_set r5
      rw [← HNX.out] at r6
      have hset : (sums B64 a b k ++ List.replicate (3 - k) 0).set k (sumAt B64 a b k) = sums B64 a b (k + 1) ++ List.replicate (3 - (k + 1)) 0 := set_next (sumAt B64 a b) k 3 hlt
      rw [hset] at r6
      have g6 := grown_row (grown_trans HG.out G4.out) g5 (fun j hj => by injection hj with hj; have := HP.out; omega)
      have gw := grown_trans G4.out (grown_refl w4 none)
      refine ⟨⟨k + 1, by omega, by go_num, by rw [HNC.out], ?_, ?_, ?_, r6, g6⟩, by simp [intOf]; omega⟩
      · rw [g5.block _ (by have := row_lt R4'.out; omega) (by intro e; injection e; omega), G4.out.block _ (row_lt R1.out) (by simp)]; exact R1.out
      · rw [g5.block _ (by have := row_lt R4'.out; omega) (by intro e; injection e; omega), G4.out.block _ (row_lt R2.out) (by simp)]; exact R2.out
      · rw [g5.block _ (by have := row_lt R4'.out; omega) (by intro e; injection e; omega), G4.out.block _ (row_lt R3.out) (by simp)]; exact R3.out
    · have : k = 3 := by omega
      subst this
      have R5 := R4.out
      rw [show sums B64 a b 3 ++ List.replicate (3 - 3) 0 = sums B64 a b 3 by simp] at R5
      have R6 := Lib.hid R5
      clear R5
      go_wp2_with (first | (refine wpList_load_row rfl T3 (.tmp 5) rfl (p + 1 + 1 + 1) rfl _ _ _ _ R6.out Try.underlying61 rfl (by rw [size_encK, length_sums]; kernel_rfl) ?_) | (refine wpList_store_range rfl T3 (.tmp 4) (.tmp 25) rfl (p + 1 + 1) 0 (encK .u64 (sums B64 a b 3)) rfl rfl _ _ R3.out (by rw [size_encK, size_encK, length_sums]; decide) (by rw [size_encK, length_sums]; kernel_rfl) (one_encK _ _) ?_))
      intro w8 r8 g8
      rw [putAt_all _ _ (by rw [Array.length_toList, size_encK, size_encK, length_sums]; rfl)] at r8
      have R9 : Hid (w8.heap[p + 1 + 1]? = some (.cells (encK .u64 (sums B64 a b 3)) T3 (0, 0))) := r8
      have HG9 : Hid (w.grownBy w8 none) := grown_row HG.out g8 (fun k hk => by injection hk with hk; have := HP.out; omega)
      clear r8 g8
      go_wp2_with fail
      exact bodyPost_ret (results_cell_row rfl _ _ (p + 1 + 1) _ _ _ _ rfl R9.out Try.underlying61 rfl (by rw [size_encK, length_sums]; kernel_rfl)) rfl ⟨rfl, HG9.out⟩
set_option maxHeartbeats 1000000 in
theorem mul64_any (x y : Nat) (hx : x < 18446744073709551616) (hy : y < 18446744073709551616) (w : World) :
    Calls Try.prog 45 #[.int .u64 x, .int .u64 y] w fun e w' => e = .returned (.tuple #[.int .u64 ((x * y / 18446744073709551616 : Nat) : Int), .int .u64 ((x * y % 18446744073709551616 : Nat) : Int)]) ∧ w' = w := by
  obtain ⟨bd, bt, bw, hhi⟩ := Lib.mul64_hi x y hx hy
  have ba := Lib.half_mul_le (a := x / 4294967296) (b := y / 4294967296) (by omega) (by omega)
  have bb := Lib.half_mul_le (a := x / 4294967296) (b := y % 4294967296) (by omega) (by omega)
  have bc := Lib.half_mul_le (a := x % 4294967296) (b := y / 4294967296) (by omega) (by omega)
  have ba' : x / 4294967296 * (y / 4294967296) < 18446744073709551616 := by omega
  have bb' : x / 4294967296 * (y % 4294967296) < 18446744073709551616 := by omega
  have bc' : x % 4294967296 * (y / 4294967296) < 18446744073709551616 := by omega
  have bh1 : x / 4294967296 * (y / 4294967296) + (x / 4294967296 * (y % 4294967296) + x % 4294967296 * (y % 4294967296) / 4294967296) / 4294967296 < 18446744073709551616 := by omega
  have hxy : x * y / 18446744073709551616 < 18446744073709551616 := Nat.div_lt_of_lt_mul (Nat.mul_lt_mul'' hx hy)
  have bh := hxy
  rw [← hhi] at bh
  go_enter Try.func45, Try.ntmps45
  go_wp2
  simp only [Mul64.maskN x hx, Mul64.maskN y hy, Mul64.divN, Mul64.mulN, Mul64.addN, Mul64.wrapN _ bd, Mul64.wrapN _ bb', Mul64.wrapN _ bt, Mul64.maskN _ bt, Mul64.wrapN _ bc', Mul64.wrapN _ bw, Mul64.wrapN _ ba', Mul64.wrapN _ bh1, Mul64.wrapN _ bh, Mul64.wrapM (x * y)]
  rw [hhi]
  go_ret2
  exact ⟨rfl, rfl⟩
theorem mul64_int (x y : Int) (hx0 : 0 ≤ x) (hx : x < B64) (hy0 : 0 ≤ y) (hy : y < B64) (w : World) :
    Calls Try.prog 45 #[.int .u64 x, .int .u64 y] w fun e w' => e = .returned (.tuple #[.int .u64 (x * y / B64), .int .u64 (x * y % B64)]) ∧ w' = w := by
  obtain ⟨X, rfl⟩ := Int.eq_ofNat_of_zero_le hx0
  obtain ⟨Y, rfl⟩ := Int.eq_ofNat_of_zero_le hy0
  refine (mul64_any X Y (by have : (X : Int) < 18446744073709551616 := hx; omega) (by have : (Y : Int) < 18446744073709551616 := hy; omega) w).mono ?_
  rintro e w' ⟨rfl, h⟩
  refine ⟨?_, h⟩
  have e1 : ((X : Int) * (Y : Int)) = ((X * Y : Nat) : Int) := (Int.natCast_mul X Y).symm
  rw [e1]
  rfl
theorem mul64_range (x y : Int) (hx0 : 0 ≤ x) (hx : x < B64) (hy0 : 0 ≤ y) (hy : y < B64) : 0 ≤ x * y / B64 ∧ x * y / B64 ≤ B64 - 2 ∧ 0 ≤ x * y % B64 ∧ x * y % B64 < B64 ∧ B64 * (x * y / B64) + x * y % B64 = x * y := by
  have hB : (0 : Int) < B64 := by decide
  have h1 : x * y ≤ (B64 - 1) * (B64 - 1) := Int.mul_le_mul (by omega) (by omega) hy0 (by decide)
  have h2 : x * y / B64 < B64 - 1 := Int.ediv_lt_of_lt_mul hB (Int.lt_of_le_of_lt h1 (by decide))
  exact ⟨Int.ediv_nonneg (Int.mul_nonneg hx0 hy0) (by decide), by omega, Int.emod_nonneg _ (by decide), Int.emod_lt_of_pos _ hB, Int.mul_ediv_add_emod _ _⟩

end Go.Proofs.Ythhijeokeljcjaa
