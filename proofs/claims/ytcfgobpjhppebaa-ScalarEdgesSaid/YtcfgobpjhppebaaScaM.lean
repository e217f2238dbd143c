/- scalar's reference: bytes brought below the order, bit by bit. -/
import Derived.Test.YtcfgobpjhppebaaScaL
namespace Go.Proofs.Ytcfgobpjhppebaa
set_option linter.unusedVariables false
set_option linter.unusedSimpArgs false
open Go.RowKit Go.Proofs.YtcfgobpjhppebaaL

theorem u8_shl_or (x c : Int) (h0 : 0 ≤ x) (h1 : x < 256) (hc0 : 0 ≤ c) (hc1 : c ≤ 1) : bits .or .u8 (x * 2 % 256) c = (2 * x + c) % 256 := by
  have hcc : c = 0 ∨ c = 1 := by omega
  obtain ⟨X, rfl⟩ := Int.eq_ofNat_of_zero_le h0
  rcases hcc with rfl | rfl
  · rw [u8_or _ 0 (by omega) (by omega) (by decide) (by decide)]
    simp; omega
  · rw [u8_or _ 1 (by omega) (by omega) (by decide) (by decide)]
    have := nat_all (fun X => (X * 2 % 256) ||| 1 == (2 * X + 1) % 256) (by decide +kernel) X (by omega)
    have h : (X * 2 % 256) ||| 1 = (2 * X + 1) % 256 := by simpa using this
    rw [show ((X : Int) * 2 % 256).toNat = X * 2 % 256 by omega, show (1 : Int).toNat = 1 from rfl, h]
    omega
set_option maxHeartbeats 1000000 in
set_option maxRecDepth 100000 in
theorem rscalar_any (ad : Option Addr) (len cap : Nat) (xs : List Int) (w : World) (hr : Rd .u8 w ad len xs) (hox : okB 256 xs) (hlen : len ≤ 1000) :
    Calls Try.prog 20 #[.slice ad len cap] w fun e w' => e = .returned (.agg (encK .u8 (digB 256 32 (numB 256 xs % ordL)))) ∧ w.grownBy w' none := by
  have HR := Lib.hid hr
  have HOX := Lib.hid hox
  clear hr hox
  go_enter Try.func20, Try.ntmps20
  obtain ⟨p, hp⟩ : ∃ p, w.heap.size = p := ⟨_, rfl⟩
  have HP := Lib.hid hp
  clear hp
  go_wp2_with fail
  refine (rorder_any _).mono ?_
  rintro e w1 ⟨rfl, hg1⟩
  have r0 := two_0 w (.cells (encK .u8 (List.replicate 32 0)) A32 (0, 0)) (.cells (encK .u8 (List.replicate 32 0)) A32 (0, 0))
  have r1 := two_1 w (.cells (encK .u8 (List.replicate 32 0)) A32 (0, 0)) (.cells (encK .u8 (List.replicate 32 0)) A32 (0, 0))
  have R0 := Lib.hid ((hg1.block _ (row_lt r0) (by simp)).trans r0)
  have R1 := Lib.hid ((hg1.block _ (row_lt r1) (by simp)).trans r1)
  rw [HP.out] at R0 R1
  have HG := Lib.hid (grown_trans (two_g w (.cells (encK .u8 (List.replicate 32 0)) A32 (0, 0)) (.cells (encK .u8 (List.replicate 32 0)) A32 (0, 0))) hg1)
  clear r0 r1 hg1
  rw [HP.out]
  obtain ⟨q, hq⟩ : ∃ q, w1.heap.size = q := ⟨_, rfl⟩
  have HQ := Lib.hid hq
  have HPQ := Lib.hid (show p + 1 < q by rw [← hq]; exact row_lt R1.out)
  clear hq
  go_wp2_with (refine wpList_store_range rfl A32 (.tmp 4) (.tmp 12) rfl q 0 (encK .u8 ordB) (by simp [Act.eval, HQ.out]) rfl _ (encK .u8 (List.replicate 32 0)) (alloc_at _ _ HQ.out.symm) (by decide) (by kernel_rfl) (one_encK _ _) ?_)
  rw [HQ.out]
  intro w3 r3 g3
  rw [putAt_all _ _ (by rfl)] at r3
  have R3 : Hid (w3.heap[q]? = some (.cells (encK .u8 ordB) A32 (0, 0))) := r3
  have R0' := Lib.hid ((g3.block _ (by have := HPQ.out; have := HQ.out; rw [alloc_size]; omega) (by intro e; injection e with e; have := HPQ.out; omega)).trans ((alloc_up _ _ (row_lt R0.out)).trans R0.out))
  have R1' := Lib.hid ((g3.block _ (by have := HPQ.out; have := HQ.out; rw [alloc_size]; omega) (by intro e; injection e with e; have := HPQ.out; omega)).trans ((alloc_up _ _ (row_lt R1.out)).trans R1.out))
  have HG3 := Lib.hid (grown_row (grown_alloc HG.out _) g3 (fun j hj => by injection hj with hj; have := HP.out; have := HPQ.out; omega))
  clear r3 g3 R0 R1 HG
  obtain ⟨X, hX⟩ : ∃ X : Nat → Int, X = fun K => numB 256 xs / 2 ^ K % ordL := ⟨_, rfl⟩
  have HX := Lib.hid hX
  have hXE : X (8 * len) = 0 := by
    have h := numB_range (B := 256) (by decide) xs HOX.out
    rw [HR.out.1] at h
    rw [hX]
    simp only
    rw [Int.pow_mul, show (2 : Int) ^ 8 = 256 from rfl, Int.ediv_eq_zero_of_lt h.1 h.2]; rfl
  have HXE := Lib.hid hXE
  have HXR := Lib.hid (show ∀ K, 0 ≤ X K ∧ X K < ordL from fun K => by rw [hX]; exact modL _)
  clear hX hXE
  go_wp2_with fail
  go_loopw [5] (fun v wr => ∃ K : Nat, K ≤ 8 * len ∧ v = .int .i64 ((K : Int) - 1) ∧ wr.heap[p]? = some (.cells (encK .u8 (List.replicate 32 0)) A32 (0, 0)) ∧ wr.heap[p + 1]? = some (.cells (encK .u8 (digB 256 32 (X K))) A32 (0, 0)) ∧
    wr.heap[q]? = some (.cells (encK .u8 ordB) A32 (0, 0)) ∧ w.grownBy wr none) (fun v _ => (intOf v + 1).toNat)
  case atStart =>
    refine ⟨8 * len, Nat.le_refl _, ?_, R0'.out, by rw [HXE.out]; exact R1'.out, R3.out, HG3.out⟩
    congr 1
  case round =>
    obtain ⟨K, hK, rfl, r0, r1, r2, hg⟩ := hrel
    have R0 := Lib.hid r0
    have R1 := Lib.hid r1
    have R2 := Lib.hid r2
    have HG := Lib.hid hg
    clear r0 r1 r2 hg R0' R1' R3 HG3
    cases K with
    | zero =>
      have hfin : X 0 = numB 256 xs % ordL := by rw [HX.out]; simp
      have R5 := R1.out
      rw [hfin] at R5
      have R6 := Lib.hid R5
      clear R5
      go_wp2_with (first | (refine wpList_load_row rfl A32 (.tmp 3) rfl (p + 1) rfl _ _ _ _ R6.out Try.underlying22 rfl (by rw [size_encK, length_digB]; kernel_rfl) ?_) | (refine wpList_store_range rfl A32 (.tmp 2) (.tmp 74) rfl (p) 0 (encK .u8 (digB 256 32 (numB 256 xs % ordL))) rfl rfl _ _ R0.out (by rw [size_encK, size_encK, length_digB]; decide) (by rw [size_encK, length_digB]; kernel_rfl) (one_encK _ _) ?_))
      intro w8 r8 g8
      rw [putAt_all _ _ (by rw [Array.length_toList, size_encK, size_encK, length_digB]; rfl)] at r8
      have R9 : Hid (w8.heap[p]? = some (.cells (encK .u8 (digB 256 32 (numB 256 xs % ordL))) A32 (0, 0))) := r8
      have HG9 : Hid (w.grownBy w8 none) := grown_row HG.out g8 (fun k hk => by injection hk with hk; have := HP.out; omega)
      clear r8 g8
      go_wp2_with fail
      exact bodyPost_ret (results_cell_row rfl _ _ (p) _ _ _ _ rfl R9.out Try.underlying22 rfl (by rw [size_encK, length_digB]; kernel_rfl)) rfl ⟨rfl, HG9.out⟩
    | succ J =>
      obtain ⟨I, hI⟩ : ∃ I, I = ((J + 1 : Nat) : Int) - 1 := ⟨_, rfl⟩
      have hI1 : I = J := by omega
      rw [← hI]
      clear hI
      subst hI1
      have hJ8 : J / 8 < len := by omega
      have hJl : (J : Int) / 8 < (len : Int) := by omega
      have hJ0 : 0 ≤ (J : Int) := by omega
      have hJm : (J : Int) ≤ 8000 := by omega
      obtain ⟨x, hx, hcell⟩ := HR.out.2 (J / 8) hJ8
      subst hx
      obtain ⟨y, hy⟩ : ∃ y, y = xs.getD (J / 8) 0 := ⟨_, rfl⟩
      have hy0 := ok_getD (by decide) HOX.out (J / 8)
      rw [← hy] at hcell hy0
      have hcl := HG.out.cell hcell (by simp)
      have HY := Lib.hid hy
      clear hy hcell
      go_wp2_with fail
      have hbit : bits .and .u8 (y / 2 ^ (J % 8)) 1 = numB 256 xs / 2 ^ J % 2 := by
        have h := numB_digit (b := 2) (by decide) 8 (by decide) xs J HOX.out
        rw [show ((2 : Int) ^ 8) = 256 from rfl, ← HY.out] at h
        rw [h]
        have h1 : 0 ≤ y / 2 ^ (J % 8) := Int.ediv_nonneg hy0.1 (Int.le_of_lt (Int.pow_pos (by decide)))
        have h2 : y / 2 ^ (J % 8) ≤ y := Int.ediv_le_self _ hy0.1
        obtain ⟨z, hz⟩ := Int.eq_ofNat_of_zero_le h1
        rw [hz] at h2 ⊢
        rw [u8_and _ 1 (by omega) (by omega) (by decide) (by decide), Int.toNat_natCast, show (1 : Int).toNat = 1 from rfl, Nat.and_one_is_mod]
        rfl
      rw [hbit]
      obtain ⟨c, hc⟩ : ∃ c, c = numB 256 xs / 2 ^ J % 2 := ⟨_, rfl⟩
      have hc0 : 0 ≤ c ∧ c ≤ 1 := by rw [hc]; have := Int.emod_nonneg (numB 256 xs / 2 ^ J) (show (2 : Int) ≠ 0 by decide); have := Int.emod_lt_of_pos (numB 256 xs / 2 ^ J) (show (0 : Int) < 2 by decide); omega
      rw [← hc]
      have hnext : (2 * X (J + 1) + c) % ordL = X J := by
        rw [HX.out, hc]
        simp only
        rw [Int.add_emod, Int.mul_emod, Int.emod_emod_of_dvd _ (Int.dvd_refl _), ← Int.mul_emod, ← Int.add_emod, Int.pow_succ, ← Int.ediv_ediv_of_nonneg (Int.le_of_lt (Int.pow_pos (by decide))), Int.mul_ediv_add_emod]
      have HN := Lib.hid hnext
      have hXb := HXR.out (J + 1)
      clear hbit hc hnext hy0 hcl
      -- the digits of what is there, and what is laid beside them
      obtain ⟨s, hs⟩ : ∃ s, s = digB 256 32 (X (J + 1)) := ⟨_, rfl⟩
      have hsl : s.length = 32 := by rw [hs, length_digB]
      have hso : okB 256 s := by rw [hs]; exact ok_digB (by decide) _ _
      have hsn : numB 256 s = X (J + 1) := by rw [hs]; exact numL _ hXb.1 hXb.2
      have R1' := R1.out
      rw [← hs] at R1'
      have R1 := Lib.hid R1'
      have HSL := Lib.hid hsl
      have HSO := Lib.hid hso
      have HSN := Lib.hid hsn
      obtain ⟨t, ht⟩ : ∃ t, t = s.set 0 (s.getD 0 0 + c) := ⟨_, rfl⟩
      have HTL := Lib.hid (show t.length = 32 by rw [ht, List.length_set, hsl])
      have HTN := Lib.hid (show numB 256 t = X (J + 1) + c by rw [ht, numB_set 256 s 0 _ (by omega), hsn]; simp; omega)
      have HT := Lib.hid (show ∀ k, 0 < k → t.getD k 0 = s.getD k 0 from fun k hk => by rw [ht, List.getD_eq_getElem?_getD, List.getElem?_set_ne (by omega), ← List.getD_eq_getElem?_getD])
      have HT0 := Lib.hid (show t.getD 0 0 = s.getD 0 0 + c by rw [ht, List.getD_eq_getElem?_getD, List.getElem?_set_self (by omega)]; rfl)
      clear hs hsl hso hsn ht R1'
      go_loopw [7, 6] (fun v c_ wr => ∃ (k : Nat) (d : Int), k ≤ 32 ∧ v = .int .i64 k ∧ c_ = .int .u8 d ∧ 0 ≤ d ∧ d ≤ 1 ∧ Hid (s.getD k 0 + t.getD k 0 + carry 256 s t k = 2 * s.getD k 0 + d) ∧ wr.heap[p]? = some (.cells (encK .u8 (List.replicate 32 0)) A32 (0, 0)) ∧
        wr.heap[p + 1]? = some (.cells (encK .u8 (sums 256 s t k ++ s.drop k)) A32 (0, 0)) ∧ wr.heap[q]? = some (.cells (encK .u8 ordB) A32 (0, 0)) ∧ w.grownBy wr none) (fun v _ _ => 32 - (intOf v).toNat)
      case atStart =>
        exact ⟨0, c, by omega, rfl, rfl, hc0.1, hc0.2, (by rw [HT0.out, carry]; exact (show _ = _ by omega)), R0.out, R1.out, R2.out, HG.out⟩
      case round =>
        obtain ⟨k, d, hk, rfl, rfl, hd0, hd1, HS, r0, r1, r2, hg⟩ := hrel
        have R0 := Lib.hid r0
        have R1 := Lib.hid r1
        have R2 := Lib.hid r2
        have HG := Lib.hid hg
        clear r0 r1 r2 hg
        by_cases hlt : k < 32
        · have hk0 : 0 ≤ (k : Int) := by omega
          have hk32 : (k : Int) < 32 := by omega
          have e1 := rowK_at R1.out k (by rw [List.length_append, length_sums, List.length_drop, HSL.out]; omega)
          rw [getD_app_drop _ s k (length_sums _ _ _ _) (by rw [HSL.out]; exact hlt)] at e1
          obtain ⟨u, hu⟩ : ∃ u, u = s.getD k 0 := ⟨_, rfl⟩
          have hu0 := ok_getD (by decide) HSO.out k
          rw [← hu] at e1 hu0
          have HU := Lib.hid hu
          clear hu
          have HOR := Lib.hid (u8_shl_or u d hu0.1 hu0.2 hd0 hd1)
          go_wp2_with (refine wpList_store_cell rfl _ (.tmp 45) (.tmp 44) rfl (p + 1) k _ rfl rfl _ _ R1.out (by rw [size_encK, List.length_append, length_sums, List.length_drop, HSL.out]; omega) (by kernel_rfl) rfl rfl ?_)
          intro w5 r5 g5
          rw [HOR.out] at r5
          have r6 := rowK_set r5
          have hsum : sumAt 256 s t k = (2 * u + d) % 256 := by rw [sumAt, HS.out, ← HU.out]
          have hcar : carry 256 s t (k + 1) = u / 128 := by rw [carry, HS.out, ← HU.out]; omega
          rw [← hsum, sums_set 256 s t s k (by rw [HSL.out]; exact hlt)] at r6
          have R0' := Lib.hid ((g5.block _ (row_lt R0.out) (by intro e; injection e; omega)).trans R0.out)
          have R2' := Lib.hid ((g5.block _ (row_lt R2.out) (by intro e; injection e with e; have := HPQ.out; omega)).trans R2.out)
          have R1' := Lib.hid r6
          have HG' := Lib.hid (grown_row HG.out g5 (fun j hj => by injection hj with hj; have := HP.out; omega))
          have HC' : Hid (s.getD (k + 1) 0 + t.getD (k + 1) 0 + carry 256 s t (k + 1) = 2 * s.getD (k + 1) 0 + u / 128) := by
            rw [HT.out (k + 1) (by omega), hcar]
            exact (show _ = _ by omega)
          clear r5 g5 r6 e1 hsum hcar HOR
          go_wp2_with fail
          exact ⟨⟨k + 1, u / 128, by omega, by go_num, rfl, by omega, by omega, HC'.out, R0'.out, R1'.out, R2'.out, HG'.out⟩, by simp [intOf]; omega⟩
        · have : k = 32 := by omega
          subst this
          have R5 := R1.out
          rw [List.drop_of_length_le (by rw [HSL.out]; omega), List.append_nil, (sums_eq (B := 256) (by decide) HSL.out HTL.out).1, HSN.out, HTN.out, show X (J + 1) + (X (J + 1) + c) = 2 * X (J + 1) + c by omega] at R5
          have R1' := Lib.hid R5
          obtain ⟨Y, hY⟩ : ∃ Y, Y = 2 * X (J + 1) + c := ⟨_, rfl⟩
          rw [← hY] at R1' HN
          have hY0 : 0 ≤ Y ∧ Y < ordL + ordL := by rw [hY]; omega
          have HYR := Lib.hid hY0
          have HYN := Lib.hid (show numB 256 (digB 256 32 Y) = Y by rw [numB_digB (by decide), Int.emod_eq_of_lt hY0.1 (Int.lt_trans hY0.2 (by decide))])
          clear R5 HS R1 hY hd0 hd1 HTL HTN HSN HSL HSO HT HT0 hY0
          go_wp2_with (first | (refine wpList_load_row rfl A32 (.tmp 3) rfl (p + 1) rfl _ _ _ _ R1'.out Try.underlying22 rfl (by rw [size_encK, length_digB]; kernel_rfl) ?_) | (refine wpList_load_row rfl A32 (.tmp 4) rfl q rfl _ _ _ _ R2.out Try.underlying22 rfl (by kernel_rfl) ?_))
          refine (below_any _ ordB _ (length_digB _ _ _) (ok_digB (by decide) _ _) rfl ordB_ok).mono ?_
          rintro e w5 ⟨rfl, hg5⟩
          rw [HYN.out, ordB_num]
          have R0' := Lib.hid ((hg5.block _ (row_lt R0.out) (by simp)).trans R0.out)
          have R1 := Lib.hid ((hg5.block _ (row_lt R1'.out) (by simp)).trans R1'.out)
          have R2' := Lib.hid ((hg5.block _ (row_lt R2.out) (by simp)).trans R2.out)
          have HG' := Lib.hid (grown_trans HG.out hg5)
          clear hg5 R0 R1' R2 HG
          by_cases hlo : Y < ordL
          · have hb : decide (Y < ordL) = true := decide_eq_true hlo
            rw [hb]
            have hY2 : Y = X J := by rw [← HN.out, Int.emod_eq_of_lt HYR.out.1 hlo]
            rw [hY2] at R1
            have R1' := Lib.hid R1.out
            clear hb hY2
            go_wp2_with fail
            exact ⟨⟨J, by omega, rfl, R0'.out, R1'.out, R2'.out, HG'.out⟩, by first | (simp [intOf]; done) | (simp [intOf]; omega)⟩
          · have hb : decide (Y < ordL) = false := decide_eq_false hlo
            rw [hb]
            clear hb
            obtain ⟨s, hs⟩ : ∃ s, s = digB 256 32 Y := ⟨_, rfl⟩
            rw [← hs] at R1 HYN
            have HSL := Lib.hid (show s.length = 32 by rw [hs, length_digB])
            have HSO := Lib.hid (show okB 256 s by rw [hs]; exact ok_digB (by decide) _ _)
            clear hs
            go_wp2_with fail
            go_loopw [10, 9] (fun v c_ wr => ∃ (k : Nat), k ≤ 32 ∧ v = .int .i64 k ∧ c_ = .int .i64 (borrow 256 s ordB k) ∧ wr.heap[p]? = some (.cells (encK .u8 (List.replicate 32 0)) A32 (0, 0)) ∧
              wr.heap[p + 1]? = some (.cells (encK .u8 (difs 256 s ordB k ++ s.drop k)) A32 (0, 0)) ∧ wr.heap[q]? = some (.cells (encK .u8 ordB) A32 (0, 0)) ∧ w.grownBy wr none) (fun v _ _ => 32 - (intOf v).toNat)
            case atStart => exact ⟨0, by omega, rfl, rfl, R0'.out, R1.out, R2'.out, HG'.out⟩
            case round =>
              obtain ⟨k, hk, rfl, rfl, r0, r1, r2, hg⟩ := hrel
              have R0 := Lib.hid r0
              have R1 := Lib.hid r1
              have R2 := Lib.hid r2
              have HG := Lib.hid hg
              clear r0 r1 r2 hg R0' R2' HG'
              by_cases hlt : k < 32
              · have hk0 : 0 ≤ (k : Int) := by omega
                have hk32 : (k : Int) < 32 := by omega
                have e1 := rowK_at R1.out k (by rw [List.length_append, length_difs, List.length_drop, HSL.out]; omega)
                rw [getD_app_drop _ s k (length_difs _ _ _ _) (by rw [HSL.out]; exact hlt)] at e1
                have e2 := rowK_at R2.out k hlt
                obtain ⟨u, hu⟩ : ∃ u, u = s.getD k 0 := ⟨_, rfl⟩
                have hu0 := ok_getD (by decide) HSO.out k
                obtain ⟨v, hv⟩ : ∃ v, v = ordB.getD k 0 := ⟨_, rfl⟩
                have hv0 := ok_getD (by decide) ordB_ok k
                obtain ⟨o, ho⟩ : ∃ o, o = borrow 256 s ordB k := ⟨_, rfl⟩
                have ho0 := borrow_range 256 s ordB k
                rw [← hu] at e1 hu0
                rw [← hv] at e2 hv0
                rw [← ho] at ho0 ⊢
                have hdif : difAt 256 s ordB k = (u + 256 - v - o) % 256 := by rw [difAt, ← hu, ← hv, ← ho]
                have hbor : borrow 256 s ordB (k + 1) = if u < v + o then 1 else 0 := by rw [borrow, ← hu, ← hv, ← ho]
                have HDIF := Lib.hid hdif
                have HBOR := Lib.hid hbor
                clear hu hv ho hdif hbor
                go_wp2_with fail
                refine wp_region_grow [(2, 0), (2, 1), (1, 2), (2, 3), (2, 4), (2, 5), (1, 6), (2, 7), (2, 8), (2, 9), (2, 10), (2, 11)] (by kernel_rfl) (by kernel_rfl) (fun _ _ _ _ _ h => h) (fun _ _ _ _ _ h => h) ?_
                refine gSeq_name fun w4 hw4 => ?_
                have g4 : wr.grownBy w4 none := by rw [hw4]; exact grown_drew _ _
                have E1 := Lib.hid (g4.cell e1 (by simp))
                have E2 := Lib.hid (g4.cell e2 (by simp))
                have R0' := Lib.hid ((g4.block _ (row_lt R0.out) (by simp)).trans R0.out)
                have R1' := Lib.hid ((g4.block _ (row_lt R1.out) (by simp)).trans R1.out)
                have R2' := Lib.hid ((g4.block _ (row_lt R2.out) (by simp)).trans R2.out)
                have HG' := Lib.hid (grown_trans HG.out g4)
                clear g4 hw4 e1 e2 R0 R1 R2 HG
                have wu : IntKind.i64.wrap u = u := IntWalk.i64_in _ (by omega)
                have wv : IntKind.i64.wrap v = v := IntWalk.i64_in _ (by omega)
                have wuv : IntKind.i64.wrap (u - v) = u - v := IntWalk.i64_in _ (by omega)
                have wuvo : IntKind.i64.wrap (u - v - o) = u - v - o := IntWalk.i64_in _ (by omega)
                (repeat (first | (refine gSeq_skip rfl (by rfl) ?_; (try simp only [Act.put, Act.eval, List.setIfInBounds_toArray, List.set_cons_zero, List.set_cons_succ, Array.getD_eq_getD_getElem?, List.getElem?_toArray, List.getElem?_cons_succ, List.getElem?_cons_zero, Option.getD_some])) | (refine gSeq_move _ rfl rfl (by rfl) ?_; (try simp only [Act.put, Act.eval, List.setIfInBounds_toArray, List.set_cons_zero, List.set_cons_succ, Array.getD_eq_getD_getElem?, List.getElem?_toArray, List.getElem?_cons_succ, List.getElem?_cons_zero, Option.getD_some])) | (refine gSeq_assign _ rfl rfl (by rfl) ?_; (try simp only [Act.put, Act.eval, List.setIfInBounds_toArray, List.set_cons_zero, List.set_cons_succ, Array.getD_eq_getD_getElem?, List.getElem?_toArray, List.getElem?_cons_succ, List.getElem?_cons_zero, Option.getD_some])) | (fail) | (refine gSeq_pure rfl (by rfl) ?_ ?_ ?_; (rotate_left; (intro w'; (try (have d1 := hG.cell E1.out (by simp); have d2 := hG.cell E2.out (by simp))); go_simp; (first | done | with_reducible rfl)); (try simp only [Act.put, Act.eval, List.setIfInBounds_toArray, List.set_cons_zero, List.set_cons_succ, Array.getD_eq_getD_getElem?, List.getElem?_toArray, List.getElem?_cons_succ, List.getElem?_cons_zero, Option.getD_some]))) | (refine gSeq_still rfl (by rfl) ?_ ?_ ?_; (rotate_left; (intro w' hG; (try (have d1 := hG.cell E1.out (by simp); have d2 := hG.cell E2.out (by simp))); go_simp; (first | done | with_reducible rfl)); (try simp only [Act.put, Act.eval, List.setIfInBounds_toArray, List.set_cons_zero, List.set_cons_succ, Array.getD_eq_getD_getElem?, List.getElem?_toArray, List.getElem?_cons_succ, List.getElem?_cons_zero, Option.getD_some])))))
                refine gSeq_nil ?_
                clear wu wv wuv wuvo
                by_cases hneg : u < v + o
                · have hneg' : u - v - o < 0 := by omega
                  have hv1 : u - v - o + 256 = difAt 256 s ordB k := by rw [HDIF.out]; omega
                  have HV1 := Lib.hid hv1
                  clear hv1
                  go_wp2_with (refine wpList_store_cell rfl _ (.tmp 73) (.tmp 72) rfl (p + 1) k _ rfl rfl _ _ R1'.out (by rw [size_encK, List.length_append, length_difs, List.length_drop, HSL.out]; omega) (by kernel_rfl) rfl rfl ?_)
                  intro w5 r5 g5
                  rw [HV1.out] at r5
                  have r6 := rowK_set r5
                  rw [difs_set 256 s ordB s k (by rw [HSL.out]; exact hlt)] at r6
                  have R0 := Lib.hid ((g5.block _ (row_lt R0'.out) (by intro e; injection e; omega)).trans R0'.out)
                  have R2 := Lib.hid ((g5.block _ (row_lt R2'.out) (by intro e; injection e with e; have := HPQ.out; omega)).trans R2'.out)
                  have R1 := Lib.hid r6
                  have HG := Lib.hid (grown_row HG'.out g5 (fun j hj => by injection hj with hj; have := HP.out; omega))
                  have HB' := Lib.hid (show (1 : Int) = borrow 256 s ordB (k + 1) by rw [HBOR.out, if_pos hneg])
                  clear r5 g5 r6 R0' R1' R2' HG'
                  go_wp2_with fail
                  exact ⟨⟨k + 1, by omega, by go_num, by rw [HB'.out], R0.out, R1.out, R2.out, HG.out⟩, by simp [intOf]; omega⟩
                · have hneg' : ¬ u - v - o < 0 := by omega
                  have hv1 : u - v - o = difAt 256 s ordB k := by rw [HDIF.out]; omega
                  have HV1 := Lib.hid hv1
                  clear hv1
                  go_wp2_with (refine wpList_store_cell rfl _ (.tmp 73) (.tmp 72) rfl (p + 1) k _ rfl rfl _ _ R1'.out (by rw [size_encK, List.length_append, length_difs, List.length_drop, HSL.out]; omega) (by kernel_rfl) rfl rfl ?_)
                  intro w5 r5 g5
                  rw [HV1.out] at r5
                  have r6 := rowK_set r5
                  rw [difs_set 256 s ordB s k (by rw [HSL.out]; exact hlt)] at r6
                  have R0 := Lib.hid ((g5.block _ (row_lt R0'.out) (by intro e; injection e; omega)).trans R0'.out)
                  have R2 := Lib.hid ((g5.block _ (row_lt R2'.out) (by intro e; injection e with e; have := HPQ.out; omega)).trans R2'.out)
                  have R1 := Lib.hid r6
                  have HG := Lib.hid (grown_row HG'.out g5 (fun j hj => by injection hj with hj; have := HP.out; omega))
                  have HB' := Lib.hid (show (0 : Int) = borrow 256 s ordB (k + 1) by rw [HBOR.out, if_neg (by omega)])
                  clear r5 g5 r6 R0' R1' R2' HG'
                  go_wp2_with fail
                  exact ⟨⟨k + 1, by omega, by go_num, by rw [HB'.out], R0.out, R1.out, R2.out, HG.out⟩, by simp [intOf]; omega⟩
              · have : k = 32 := by omega
                subst this
                have R5 := R1.out
                rw [List.drop_of_length_le (by rw [HSL.out]; omega), List.append_nil, (difs_eq (B := 256) (by decide) HSL.out (show ordB.length = 32 from rfl) HSO.out ordB_ok).1, HYN.out, ordB_num] at R5
                have hlo' : ordL ≤ Y := by omega
                have hY2 : Y - ordL = X J := by
                  rw [← HN.out, show Y = (Y - ordL) + ordL * 1 by omega, Int.add_mul_emod_self_left, Int.emod_eq_of_lt (by have := HYR.out; omega) (by have := HYR.out; omega)]; omega
                rw [hY2] at R5
                have R1' := Lib.hid R5
                clear R5 hY2
                go_wp2_with fail
                exact ⟨⟨J, by omega, rfl, R0.out, R1'.out, R2.out, HG.out⟩, by first | (simp [intOf]; done) | (simp [intOf]; omega)⟩
end Go.Proofs.Ytcfgobpjhppebaa
