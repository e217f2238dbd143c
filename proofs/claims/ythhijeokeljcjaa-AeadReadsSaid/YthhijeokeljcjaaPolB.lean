/- poly: eight bytes' number; a number by 2^130 - 5. -/
import Derived.Test.YthhijeokeljcjaaPolA
import Derived.IntWalk
namespace Go.Proofs.Ythhijeokeljcjaa
set_option linter.unusedVariables false
set_option linter.unusedSimpArgs false
open Go.RowKit Go.Proofs.YthhijeokeljcjaaL

theorem u64_or_add' (x z : Int) (m : Nat) (hx : 0 ≤ x) (hx1 : x < 2 ^ m) (hx2 : x < 18446744073709551616) (hz : 0 ≤ z) (hy : z * 2 ^ m < 18446744073709551616) : bits .or .u64 (z * 2 ^ m) x = z * 2 ^ m + x := by
  have hp : (0 : Int) ≤ 2 ^ m := Int.le_of_lt (Int.pow_pos (by decide))
  have hzm := Int.mul_nonneg hz hp
  have h := u64_or_add x z m hx hx1 hx2 hz hy
  rw [u64_or x _ hx hx2 hzm hy] at h
  rw [u64_or _ x hzm hy hx hx2, Nat.or_comm, h, Int.add_comm]
set_option maxHeartbeats 1000000 in
set_option maxRecDepth 100000 in
theorem half_any (ad : Option Addr) (len cap : Nat) (xs : List Int) (w : World) (hr : Rd .u8 w ad len xs) (hox : okB 256 xs) (h8 : 8 ≤ len) :
    Calls Try.prog 30 #[.slice ad len cap] w fun e w' => e = .returned (.int .u64 (numB 256 (xs.take 8))) ∧ w' = w := by
  have HOX := Lib.hid hox
  obtain ⟨x, hx, -⟩ := hr.2 0 (by omega)
  subst hx
  have HR := Lib.hid hr
  have hl8 : (8 : Int) ≤ (len : Int) := by omega
  have HV := Lib.hid (show ∀ k, k ≤ 8 → 0 ≤ numB 256 ((xs.take 8).drop k) ∧ numB 256 ((xs.take 8).drop k) < 256 ^ (8 - k) from fun k hk => by
    have h := numB_range (B := 256) (by decide) ((xs.take 8).drop k) (fun y hy => hox y (List.mem_of_mem_take (List.mem_of_mem_drop hy)))
    rw [List.length_drop, List.length_take, hr.1, Nat.min_eq_left h8] at h
    exact h)
  clear hr hox
  go_enter Try.func30, Try.ntmps30
  go_wp2_with fail
  go_loopw [4, 3] (fun v x_ wr => ∃ k : Nat, k ≤ 8 ∧ v = .int .i64 ((k : Int) - 1) ∧ x_ = .int .u64 (numB 256 ((xs.take 8).drop k)) ∧ wr = w) (fun v _ _ => (intOf v + 1).toNat)
  case atStart =>
    exact ⟨8, by omega, rfl, by rw [List.drop_of_length_le (by rw [List.length_take]; omega)]; rfl, rfl⟩
  case round =>
    obtain ⟨k, hk, rfl, rfl, hw⟩ := hrel
    subst hw
    cases k with
    | zero =>
      go_wp2_with fail
      exact bodyPost_ret (results_tmp rfl _ _ _) rfl ⟨by simp, rfl⟩
    | succ j =>
      obtain ⟨I, hI⟩ : ∃ I, I = ((j + 1 : Nat) : Int) - 1 := ⟨_, rfl⟩
      have hI1 : I = j := by omega
      rw [← hI]
      clear hI
      subst hI1
      have hj8 : (j : Int) < 8 := by omega
      have hjl : (j : Int) < (len : Int) := by omega
      have hj0 : 0 ≤ (j : Int) := by omega
      obtain ⟨x', hx', hcell⟩ := HR.out.2 j (by omega)
      have : x = x' := Option.some.inj hx'
      subst this
      obtain ⟨c, hc⟩ : ∃ c, c = xs.getD j 0 := ⟨_, rfl⟩
      have hc0 := ok_getD (by decide) HOX.out j
      rw [← hc] at hcell hc0
      obtain ⟨y, hy⟩ : ∃ y, y = numB 256 ((xs.take 8).drop (j + 1)) := ⟨_, rfl⟩
      have hy0 := HV.out (j + 1) hk
      rw [← hy] at hy0 ⊢
      have hnext : numB 256 ((xs.take 8).drop j) = y * 2 ^ 8 + c := by
        rw [drop_at _ j (by rw [List.length_take, HR.out.1]; omega), numB, ← hy, hc, List.getD_eq_getElem?_getD, List.getElem?_take, if_pos (by omega), ← List.getD_eq_getElem?_getD]
        omega
      have hye : y < 72057594037927936 := by
        have : (256 : Int) ^ (8 - (j + 1)) ≤ 256 ^ 7 := ipow_le (by decide) (by omega)
        have e : (256 : Int) ^ 7 = 72057594037927936 := by decide
        omega
      have hor : bits .or .u64 (y * 256) c = y * 256 + c := u64_or_add' c y 8 hc0.1 hc0.2 (by omega) hy0.1 (show y * 256 < _ by omega)
      have HN := Lib.hid hnext
      have HO := Lib.hid hor
      clear hx' hc hy hnext hor
      have hyn := hy0.1
      clear hy0
      go_wp2_with fail
      exact ⟨⟨j, by omega, rfl, by rw [HO.out, HN.out]; rfl, trivial⟩, by first | (simp [intOf]; done) | (simp [intOf]; omega)⟩

abbrev P2 : Int := 1361129467683753853853498429727072845824
theorem P2_eq : P2 = 2 ^ 130 := by decide
def foldI (v : Int) : Int := v % P2 + 5 * (v / P2)
theorem u64_and3 (x : Int) (h0 : 0 ≤ x) (h1 : x < 18446744073709551616) : bits .and .u64 x 3 = x % 4 := by
  obtain ⟨X, rfl⟩ := Int.eq_ofNat_of_zero_le h0
  rw [u64_and _ 3 h0 h1 (by decide) (by decide), Int.toNat_natCast, show (3 : Int).toNat = 2 ^ 2 - 1 from rfl, Nat.and_two_pow_sub_one_eq_mod]
  rfl
theorem fold_or (x y : Int) (hx0 : 0 ≤ x) (hx1 : x < 18446744073709551616) (hy0 : 0 ≤ y) : bits .or .u64 (x / 4) (IntKind.u64.wrap (y * 4611686018427387904)) = x / 4 + y % 4 * 4611686018427387904 := by
  have h : IntKind.u64.wrap (y * 4611686018427387904) = y % 4 * 2 ^ 62 := by
    rw [show IntKind.u64.wrap (y * 4611686018427387904) = (y * 4611686018427387904) % 18446744073709551616 by simp [IntKind.wrap, IntKind.bits, IntKind.signed], show (2 : Int) ^ 62 = 4611686018427387904 by decide]
    omega
  have e : (2 : Int) ^ 62 = 4611686018427387904 := by decide
  rw [h, u64_or_add (x / 4) (y % 4) 62 (by omega) (by omega) (by omega) (by omega) (by omega), e]
theorem four_list {a : List Int} (h : a.length = 4) : a = [a.getD 0 0, a.getD 1 0, a.getD 2 0, a.getD 3 0] := by
  match a, h with
  | [x0, x1, x2, x3], _ => rfl
theorem three_list {a : List Int} (h : a.length = 3) : a = [a.getD 0 0, a.getD 1 0, a.getD 2 0] := by
  match a, h with
  | [x0, x1, x2], _ => rfl
theorem num3 (v : Int) (h0 : 0 ≤ v) (h1 : v < B64 ^ 3) : numB B64 (digB B64 3 v) = v := by
  rw [numB_digB (by decide), Int.emod_eq_of_lt h0 h1]
theorem fold_parts {x0 x1 x2 x3 : Int} (h0 : 0 ≤ x0 ∧ x0 < B64) (h1 : 0 ≤ x1 ∧ x1 < B64) (h2 : 0 ≤ x2 ∧ x2 < B64) (h3 : 0 ≤ x3 ∧ x3 < B64) :
    numB B64 [x0, x1, x2 % 4] = numB B64 [x0, x1, x2, x3] % P2 ∧ numB B64 [x2 / 4 + x3 % 4 * 4611686018427387904, x3 / 4, 0] = numB B64 [x0, x1, x2, x3] / P2 := by
  simp only [numB, Int.mul_zero, Int.add_zero]
  have e : B64 = 18446744073709551616 := rfl
  have e2 : P2 = 1361129467683753853853498429727072845824 := rfl
  have k0 : x0 < 18446744073709551616 := h0.2
  have k1 : x1 < 18446744073709551616 := h1.2
  have k2 : x2 < 18446744073709551616 := h2.2
  have k3 : x3 < 18446744073709551616 := h3.2
  rw [e, e2]
  constructor <;> omega

set_option maxHeartbeats 2000000 in
set_option maxRecDepth 100000 in
theorem fold_any (a : List Int) (w : World) (ha : a.length = 4) (hoa : okB B64 a) :
    Calls Try.prog 42 #[.agg (encK .u64 a)] w fun e w' => e = .returned (.agg (encK .u64 (digB B64 3 (foldI (numB B64 a))))) ∧ w.grownBy w' none := by
  have HA := Lib.hid ha
  have hr := numB_range (B := B64) (by decide) a hoa
  rw [ha] at hr
  obtain ⟨v, hv⟩ : ∃ v, v = numB B64 a := ⟨_, rfl⟩
  rw [← hv] at hr ⊢
  have b0 := ok_getD (by decide) hoa 0
  have b1 := ok_getD (by decide) hoa 1
  have b2 := ok_getD (by decide) hoa 2
  have b3 := ok_getD (by decide) hoa 3
  obtain ⟨x0, hx0⟩ : ∃ x, x = a.getD 0 0 := ⟨_, rfl⟩
  obtain ⟨x1, hx1⟩ : ∃ x, x = a.getD 1 0 := ⟨_, rfl⟩
  obtain ⟨x2, hx2⟩ : ∃ x, x = a.getD 2 0 := ⟨_, rfl⟩
  obtain ⟨x3, hx3⟩ : ∃ x, x = a.getD 3 0 := ⟨_, rfl⟩
  have hal := four_list ha
  rw [← hx0, ← hx1, ← hx2, ← hx3] at hal
  rw [← hx0] at b0
  rw [← hx1] at b1
  rw [← hx2] at b2
  rw [← hx3] at b3
  have hp := fold_parts b0 b1 b2 b3
  rw [← hal, ← hv] at hp
  have HLO := Lib.hid hp.1
  have HOV := Lib.hid hp.2
  have HAND := Lib.hid (u64_and3 x2 b2.1 b2.2)
  have HOR := Lib.hid (fold_or x2 x3 b2.1 b2.2 b3.1)
  have HOKL := Lib.hid (show okB B64 [x0, x1, x2 % 4] from fun y hy => by
    have e : B64 = 18446744073709551616 := rfl
    have : y = x0 ∨ y = x1 ∨ y = x2 % 4 := by simpa using hy
    rcases this with rfl | rfl | rfl <;> omega)
  have HOKO := Lib.hid (show okB B64 [x2 / 4 + x3 % 4 * 4611686018427387904, x3 / 4, 0] from fun y hy => by
    have e : B64 = 18446744073709551616 := rfl
    have : y = x2 / 4 + x3 % 4 * 4611686018427387904 ∨ y = x3 / 4 ∨ y = 0 := by simpa using hy
    rcases this with rfl | rfl | rfl <;> omega)
  have HVR := Lib.hid hr
  have E0 := Lib.hid hx0
  have E1 := Lib.hid hx1
  have E2 := Lib.hid hx2
  have E3 := Lib.hid hx3
  have B0 := Lib.hid b0
  clear ha hoa hr hv hx0 hx1 hx2 hx3 hal hp b0 b1
  go_enter Try.func42, Try.ntmps42
  obtain ⟨p, hp⟩ : ∃ p, w.heap.size = p := ⟨_, rfl⟩
  have HP := Lib.hid hp
  clear hp
  go_wp2_with (refine wpList_stop 5 rfl ?_)
  rw [HP.out]
  intro w1 hw1
  have hw1' : w1 = (w.alloc (.cells (encK .u64 a) 72 (0, 0))).alloc (.cells (encK .u64 (List.replicate 3 0)) T3 (0, 0)) := hw1
  have r0 : w1.heap[w.heap.size]? = some (.cells (encK .u64 a) 72 (0, 0)) := by rw [hw1']; exact two_0 w _ _
  have r1 : w1.heap[w.heap.size + 1]? = some (.cells (encK .u64 (List.replicate 3 0)) T3 (0, 0)) := by rw [hw1']; exact two_1 w _ _
  have HG1 : Hid (w.grownBy w1 none) := by rw [hw1']; exact two_g w _ _
  rw [HP.out] at r0 r1
  have e0 := rowK_at r0 0 (by rw [HA.out]; decide)
  have e1 := rowK_at r0 1 (by rw [HA.out]; decide)
  have e2 := rowK_at r0 2 (by rw [HA.out]; decide)
  rw [← E0.out] at e0
  rw [← E1.out] at e1
  rw [← E2.out] at e2
  have R0 := Lib.hid r0
  have R1 := Lib.hid r1
  clear r0 r1 hw1 hw1'
  obtain ⟨q, hq⟩ : ∃ q, w1.heap.size = q := ⟨_, rfl⟩
  have HQ := Lib.hid hq
  have HPQ := Lib.hid (show p + 1 < q by rw [← hq]; exact row_lt R1.out)
  clear hq
  go_wp2_with (refine wpList_store_range rfl T3 (.tmp 3) (.tmp 12) rfl q 0 (encK .u64 [x0, x1, x2 % 4]) (by simp [Act.eval, HQ.out]) (by rw [← HAND.out]; rfl) _ (encK .u64 (List.replicate 3 0)) (alloc_at _ _ HQ.out.symm) (Nat.le_refl 3) (show _ = some 3 by kernel_rfl) (one_encK _ _) ?_)
  rw [HQ.out]
  intro w2 r2 g2
  rw [putAt_all _ _ (by rw [Array.length_toList, size_encK, size_encK]; rfl)] at r2
  have RL : Hid (w2.heap[q]? = some (.cells (encK .u64 [x0, x1, x2 % 4]) T3 (0, 0))) := r2
  have e2' := rowK_at (show w2.heap[p]? = some (.cells (encK .u64 a) 72 (0, 0)) from (g2.block _ (by have := HPQ.out; have := HQ.out; rw [alloc_size]; omega) (by intro e; injection e with e; have := HPQ.out; omega)).trans ((alloc_up _ _ (row_lt R0.out)).trans R0.out)) 2 (by rw [HA.out]; decide)
  have e3' := rowK_at (show w2.heap[p]? = some (.cells (encK .u64 a) 72 (0, 0)) from (g2.block _ (by have := HPQ.out; have := HQ.out; rw [alloc_size]; omega) (by intro e; injection e with e; have := HPQ.out; omega)).trans ((alloc_up _ _ (row_lt R0.out)).trans R0.out)) 3 (by rw [HA.out]; decide)
  rw [← E2.out] at e2'
  rw [← E3.out] at e3'
  have R1' := Lib.hid ((g2.block _ (by have := HPQ.out; have := HQ.out; rw [alloc_size]; omega) (by intro e; injection e with e; have := HPQ.out; omega)).trans ((alloc_up _ _ (row_lt R1.out)).trans R1.out))
  have HG2 := Lib.hid (grown_row (grown_alloc HG1.out _) g2 (fun j hj => by injection hj with hj; have := HP.out; have := HPQ.out; omega))
  clear r2 g2 e0 e1 e2 R0 R1 HG1
  obtain ⟨s, hs⟩ : ∃ s, w2.heap.size = s := ⟨_, rfl⟩
  have HS := Lib.hid hs
  have HQS := Lib.hid (show q < s by rw [← hs]; exact row_lt RL.out)
  clear hs
  go_wp2_with (refine wpList_store_range rfl T3 (.tmp 4) (.tmp 23) rfl s 0 (encK .u64 [x2 / 4 + x3 % 4 * 4611686018427387904, x3 / 4, 0]) (by simp [Act.eval, HS.out]) (by rw [← HOR.out]; rfl) _ (encK .u64 (List.replicate 3 0)) (alloc_at _ _ HS.out.symm) (Nat.le_refl 3) (show _ = some 3 by kernel_rfl) (one_encK _ _) ?_)
  rw [HS.out]
  intro w3 r3 g3
  rw [putAt_all _ _ (by rw [Array.length_toList, size_encK, size_encK]; rfl)] at r3
  have RO0 : Hid (w3.heap[s]? = some (.cells (encK .u64 [x2 / 4 + x3 % 4 * 4611686018427387904, x3 / 4, 0]) T3 (0, 0))) := r3
  have RL0 := Lib.hid ((g3.block _ (by have := HQS.out; have := HS.out; rw [alloc_size]; omega) (by intro e; injection e with e; have := HQS.out; omega)).trans ((alloc_up _ _ (row_lt RL.out)).trans RL.out))
  have R10 := Lib.hid ((g3.block _ (by have := HQS.out; have := HPQ.out; have := HS.out; rw [alloc_size]; omega) (by intro e; injection e with e; have := HQS.out; have := HPQ.out; omega)).trans ((alloc_up _ _ (row_lt R1'.out)).trans R1'.out))
  have HG3 := Lib.hid (grown_row (grown_alloc HG2.out _) g3 (fun j hj => by injection hj with hj; have := HP.out; have := HPQ.out; have := HQS.out; omega))
  clear r3 g3 e2' e3' RL R1' HG2
  obtain ⟨lo, hlo⟩ : ∃ l, l = [x0, x1, x2 % 4] := ⟨_, rfl⟩
  obtain ⟨ov, hov⟩ : ∃ l, l = [x2 / 4 + x3 % 4 * 4611686018427387904, x3 / 4, 0] := ⟨_, rfl⟩
  rw [← hlo] at HLO HOKL RL0
  rw [← hov] at HOV HOKO RO0
  have HLL := Lib.hid (show lo.length = 3 by rw [hlo]; rfl)
  have HLV := Lib.hid (show ov.length = 3 by rw [hov]; rfl)
  clear hlo hov b2 b3
  go_wp2_with fail
  refine wp_region_grow [(1, 0), (1, 1), (1, 3), (1, 4), (1, 6), (1, 7), (0, 2), (0, 5), (0, 8), (0, 9), (0, 10), (3, 11)] (by kernel_rfl) (by kernel_rfl) (fun _ _ _ _ _ h => h) (fun _ _ _ _ _ h => h) ?_
  refine gSeq_name fun w4 hw4 => ?_
  have g4 : w3.grownBy w4 none := by rw [hw4]; exact grown_drew _ _
  have RL := Lib.hid (row_keep RL0.out g4)
  have RO := Lib.hid (row_keep RO0.out g4)
  have R1 := Lib.hid (row_keep R10.out g4)
  have HG := Lib.hid (grown_trans HG3.out g4)
  have G := Lib.hid (grown_refl w4 none)
  clear RL0 RO0 R10 HG3 g4 hw4
  have hv0 : 0 ≤ v % P2 ∧ v % P2 < P2 := ⟨Int.emod_nonneg _ (by decide), Int.emod_lt_of_pos _ (by decide)⟩
  have hv1 : 0 ≤ v / P2 ∧ v / P2 < 85070591730234615865843651857942052864 := ⟨Int.ediv_nonneg HVR.out.1 (by decide), Int.ediv_lt_of_lt_mul (by decide) (Int.lt_of_lt_of_le HVR.out.2 (by decide))⟩
  have hB3 : (1361129467683753853853498429727072845824 : Int) * 2 < B64 ^ 3 := by decide
  have e2 : P2 = 1361129467683753853853498429727072845824 := rfl
  obtain ⟨A, hA⟩ : ∃ A, A = v % P2 := ⟨_, rfl⟩
  obtain ⟨C, hC⟩ : ∃ C, C = v / P2 := ⟨_, rfl⟩
  have hF : foldI v = A + 5 * C := by rw [foldI, hA, hC]
  rw [← hA] at hv0 HLO
  rw [← hC] at hv1 HOV
  have HF := Lib.hid hF
  have N0 := Lib.hid (num3 (A + C) (by omega) (by omega))
  have N1 := Lib.hid (num3 (C + C) (by omega) (by omega))
  have N2 := Lib.hid (num3 (C + C + (C + C)) (by omega) (by omega))
  have HSUM := Lib.hid (show A + C + (C + C + (C + C)) = A + 5 * C by omega)
  clear hv0 hv1 hB3 e2 hA hC hF
  (repeat (first | (refine gSeq_skip rfl (by rfl) ?_; (try simp only [Act.put, Act.eval, List.setIfInBounds_toArray, List.set_cons_zero, List.set_cons_succ, Array.getD_eq_getD_getElem?, List.getElem?_toArray, List.getElem?_cons_succ, List.getElem?_cons_zero, Option.getD_some])) | (refine gSeq_move _ rfl rfl (by rfl) ?_; (try simp only [Act.put, Act.eval, List.setIfInBounds_toArray, List.set_cons_zero, List.set_cons_succ, Array.getD_eq_getD_getElem?, List.getElem?_toArray, List.getElem?_cons_succ, List.getElem?_cons_zero, Option.getD_some])) | (refine gSeq_assign _ rfl rfl (by rfl) ?_; (try simp only [Act.put, Act.eval, List.setIfInBounds_toArray, List.set_cons_zero, List.set_cons_succ, Array.getD_eq_getD_getElem?, List.getElem?_toArray, List.getElem?_cons_succ, List.getElem?_cons_zero, Option.getD_some])) | ((first | (refine gSeq_row rfl (by rfl) 61 _ rfl _ rfl _ _ _ _ RL.out Try.underlying61 rfl (by rw [size_encK, HLL.out]; kernel_rfl) ?_; (try simp only [Act.put, Act.eval, List.setIfInBounds_toArray, List.set_cons_zero, List.set_cons_succ, Array.getD_eq_getD_getElem?, List.getElem?_toArray, List.getElem?_cons_succ, List.getElem?_cons_zero, Option.getD_some])) | (refine gSeq_row rfl (by rfl) 61 _ rfl _ rfl _ _ _ _ RO.out Try.underlying61 rfl (by rw [size_encK, HLV.out]; kernel_rfl) ?_; (try simp only [Act.put, Act.eval, List.setIfInBounds_toArray, List.set_cons_zero, List.set_cons_succ, Array.getD_eq_getD_getElem?, List.getElem?_toArray, List.getElem?_cons_succ, List.getElem?_cons_zero, Option.getD_some])))) | (refine gSeq_pure rfl (by rfl) ?_ ?_ ?_; (rotate_left; (intro w'; (skip); go_simp; (first | done | with_reducible rfl)); (try simp only [Act.put, Act.eval, List.setIfInBounds_toArray, List.set_cons_zero, List.set_cons_succ, Array.getD_eq_getD_getElem?, List.getElem?_toArray, List.getElem?_cons_succ, List.getElem?_cons_zero, Option.getD_some]))) | (refine gSeq_still rfl (by rfl) ?_ ?_ ?_; (rotate_left; (intro w' hG; (skip); go_simp; (first | done | with_reducible rfl)); (try simp only [Act.put, Act.eval, List.setIfInBounds_toArray, List.set_cons_zero, List.set_cons_succ, Array.getD_eq_getD_getElem?, List.getElem?_toArray, List.getElem?_cons_succ, List.getElem?_cons_zero, Option.getD_some])))))
  (refine gSeq_do rfl (by rfl) (fun K hK => ?_)); go_simp
  refine (plus_any lo ov _ HLL.out HLV.out HOKL.out HOKO.out).mono ?_
  rintro e w5 ⟨rfl, hg5⟩
  rw [HLO.out, HOV.out]
  refine hK _ _ hg5 ?_; clear hK K; (try simp only [Act.put, Act.eval, List.setIfInBounds_toArray, List.set_cons_zero, List.set_cons_succ, Array.getD_eq_getD_getElem?, List.getElem?_toArray, List.getElem?_cons_succ, List.getElem?_cons_zero, Option.getD_some])
  (refine gSeq_do rfl (by rfl) (fun K hK => ?_)); go_simp
  refine (plus_any ov ov _ HLV.out HLV.out HOKO.out HOKO.out).mono ?_
  rintro e w6 ⟨rfl, hg6⟩
  rw [HOV.out]
  refine hK _ _ hg6 ?_; clear hK K; (try simp only [Act.put, Act.eval, List.setIfInBounds_toArray, List.set_cons_zero, List.set_cons_succ, Array.getD_eq_getD_getElem?, List.getElem?_toArray, List.getElem?_cons_succ, List.getElem?_cons_zero, Option.getD_some])
  (refine gSeq_do rfl (by rfl) (fun K hK => ?_)); go_simp
  refine (plus_any ov ov _ HLV.out HLV.out HOKO.out HOKO.out).mono ?_
  rintro e w7 ⟨rfl, hg7⟩
  rw [HOV.out]
  refine hK _ _ hg7 ?_; clear hK K; (try simp only [Act.put, Act.eval, List.setIfInBounds_toArray, List.set_cons_zero, List.set_cons_succ, Array.getD_eq_getD_getElem?, List.getElem?_toArray, List.getElem?_cons_succ, List.getElem?_cons_zero, Option.getD_some])
  (refine gSeq_do rfl (by rfl) (fun K hK => ?_)); go_simp
  refine (plus_any _ _ _ (length_digB _ _ _) (length_digB _ _ _) (ok_digB (by decide) _ _) (ok_digB (by decide) _ _)).mono ?_
  rintro e w8 ⟨rfl, hg8⟩
  rw [N1.out]
  refine hK _ _ hg8 ?_; clear hK K; (try simp only [Act.put, Act.eval, List.setIfInBounds_toArray, List.set_cons_zero, List.set_cons_succ, Array.getD_eq_getD_getElem?, List.getElem?_toArray, List.getElem?_cons_succ, List.getElem?_cons_zero, Option.getD_some])
  (refine gSeq_do rfl (by rfl) (fun K hK => ?_)); go_simp
  refine (plus_any _ _ _ (length_digB _ _ _) (length_digB _ _ _) (ok_digB (by decide) _ _) (ok_digB (by decide) _ _)).mono ?_
  rintro e w9 ⟨rfl, hg9⟩
  rw [N0.out, N2.out, HSUM.out, ← HF.out]
  refine hK _ _ hg9 ?_; clear hK K; (try simp only [Act.put, Act.eval, List.setIfInBounds_toArray, List.set_cons_zero, List.set_cons_succ, Array.getD_eq_getD_getElem?, List.getElem?_toArray, List.getElem?_cons_succ, List.getElem?_cons_zero, Option.getD_some])
  have G9 := Lib.hid (grown_trans hg5 (grown_trans hg6 (grown_trans hg7 (grown_trans hg8 hg9))))
  have R2 := Lib.hid (row_keep R1.out G9.out)
  have HG9 := Lib.hid (grown_trans HG.out G9.out)
  clear hg5 hg6 hg7 hg8 hg9 R1 HG
  (refine gSeq_store_range rfl (by rfl) _ _ _ rfl (p + 1) 0 (encK .u64 (digB B64 3 (foldI v))) rfl rfl _ _ R2.out (by rw [size_encK, size_encK, length_digB]; decide) (by rw [size_encK, length_digB]; kernel_rfl) (one_encK _ _) ?_)
  intro w10 r10 g10
  rw [putAt_all _ _ (by rw [Array.length_toList, size_encK, size_encK, length_digB]; rfl)] at r10
  have R11 : Hid (w10.heap[p + 1]? = some (.cells (encK .u64 (digB B64 3 (foldI v))) T3 (0, 0))) := r10
  have HG11 : Hid (w.grownBy w10 none) := grown_row HG9.out g10 (fun k hk => by injection hk with hk; have := HP.out; omega)
  clear r10 g10
  (try simp only [Act.put, Act.eval, List.setIfInBounds_toArray, List.set_cons_zero, List.set_cons_succ, Array.getD_eq_getD_getElem?, List.getElem?_toArray, List.getElem?_cons_succ, List.getElem?_cons_zero, Option.getD_some])
  refine gSeq_nil ?_
  go_wp2_with fail
  exact bodyPost_ret (results_cell_row rfl _ _ (p + 1) _ _ _ _ rfl R11.out Try.underlying61 rfl (by rw [size_encK, length_digB]; kernel_rfl)) rfl ⟨rfl, HG11.out⟩
end Go.Proofs.Ythhijeokeljcjaa
