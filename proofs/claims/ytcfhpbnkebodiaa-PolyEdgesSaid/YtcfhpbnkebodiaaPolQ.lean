/- PolyClamps, walked. -/
import Derived.Test.YtcfhpbnkebodiaaPolP
import Derived.Deep.DeepCutAuto
namespace Go.Proofs.Ytcfhpbnkebodiaa
set_option linter.unusedVariables false
set_option linter.unusedSimpArgs false
open Go.RowKit Go.Proofs.YtcfhpbnkebodiaaL

set_option maxHeartbeats 4000000 in
set_option maxRecDepth 100000 in
theorem clamps_walk (key : List Int) (ad : Option Addr) (len cap : Nat) (zs : List Int) (at_ x : Int) (w : World) (hk : key.length = 32) (hko : okB 256 key) (hr : IsRow .u8 w ad len cap zs) (ha0 : 0 ≤ at_) (ha1 : at_ < 256) (hx0 : 0 ≤ x) (hx1 : x < 256) :
    Calls Try.prog 5 #[.agg (encK .u8 key), .slice ad len cap, .int .u8 at_, .int .u8 x] w fun e w' => e = .returned (.bool true) ∧ w.grownBy w' none := by
  obtain ⟨h1, h2, h3, h4⟩ := isRow_rd hr
  obtain ⟨h5, h6⟩ := isRow_none hr
  have HK := Lib.hid hk
  have HKO := Lib.hid hko
  obtain ⟨xs, hxs⟩ : ∃ xs, xs = zs.take len := ⟨_, rfl⟩
  rw [← hxs] at h1 h2
  have HR := Lib.hid h1
  have HOX := Lib.hid h2
  have HLC := Lib.hid h3
  have HN := Lib.hid h5
  have HCM := Lib.hid h6
  have H63 := Lib.hid (show (len : Int) ≤ 9223372036854775807 by omega)
  clear hk hko hr h1 h2 h3 h4 h5 h6 hxs
  go_enter Try.func5, Try.ntmps5
  obtain ⟨p, hp⟩ : ∃ p, w.heap.size = p := ⟨_, rfl⟩
  have HP := Lib.hid hp
  clear hp
  go_wp2_with fail
  have r0 := alloc_at w (.cells (encK .u8 key) A32 (0, 0)) rfl
  have hg := World.grownBy_alloc w (.cells (encK .u8 key) A32 (0, 0)) none
  refine (known_any _).mono ?_
  rintro e w1 ⟨rfl, hg1⟩
  rw [HP.out] at r0 ⊢
  have RK := Lib.hid (row_keep r0 hg1)
  have HG := Lib.hid (grown_trans hg hg1)
  clear r0 hg hg1
  have h63 := H63.out
  by_cases hbig : (len : Int) > 100
  · go_wp2_with fail
    exact bodyPost_ret (results_tmp rfl _ _ _) rfl ⟨rfl, HG.out⟩
  · have hlen : len ≤ 100 := by omega
    have hlen' : (len : Int) ≤ 100 := by omega
    obtain ⟨q, hq⟩ : ∃ q, w1.heap.size = q := ⟨_, rfl⟩
    have HQ := Lib.hid hq
    have HPQ := Lib.hid (show p < q by rw [← hq]; exact row_lt RK.out)
    clear hq
    go_upto_region 6 with (first | (refine wpList_load_row rfl A32 (.tmp 4) rfl p rfl _ _ _ _ RK.out Try.underlying22 rfl (by rw [size_encK, HK.out]; kernel_rfl) ?_) | (refine wpList_store_range rfl A32 (.tmp 9) (.tmp 21) rfl q 0 (encK .u8 key) (by simp [Act.eval, HQ.out]) rfl _ (encK .u8 (List.replicate 32 0)) (alloc_at _ _ HQ.out.symm) (by rw [size_encK, size_encK, HK.out]; decide) (by rw [size_encK, HK.out]; kernel_rfl) (one_encK _ _) ?_))
    rw [HQ.out]
    intro w3 r3 g3
    rw [putAt_all _ _ (by rw [Array.length_toList, size_encK, size_encK, HK.out]; rfl)] at r3
    have RJ : Hid (w3.heap[q]? = some (.cells (encK .u8 key) A32 (0, 0))) := r3
    have RK0 := Lib.hid ((g3.block _ (by have := HPQ.out; have := HQ.out; rw [alloc_size]; omega) (by intro e; injection e with e; have := HPQ.out; omega)).trans ((alloc_up _ _ (row_lt RK.out)).trans RK.out))
    have HG3 := Lib.hid (grown_row (grown_alloc HG.out _) g3 (fun j hj => by injection hj with hj; have := HP.out; have := HPQ.out; omega))
    clear r3 g3 RK HG
    go_upto_if 26 with fail
    go_cut [10] (fun v wx => ∃ jk, Hid (jk.length = 32) ∧ Hid (okB 256 jk) ∧ Hid (∀ ys, tagV jk ys = tagV key ys) ∧ Hid (wx.heap[q]? = some (.cells (encK .u8 jk) A32 (0, 0))) ∧ Hid (wx.heap[p]? = some (.cells (encK .u8 key) A32 (0, 0))) ∧ Hid (w.grownBy wx none))
    case first =>
      have hcase : at_ % 7 = 0 ∨ at_ % 7 = 1 ∨ at_ % 7 = 2 ∨ at_ % 7 = 3 ∨ at_ % 7 = 4 ∨ at_ % 7 = 5 ∨ at_ % 7 = 6 := by omega
      rcases hcase with he | he | he | he | he | he | he
      · rw [he]
        obtain ⟨b, hb⟩ : ∃ b, b = key.getD 3 0 := ⟨_, rfl⟩
        have e1 := rowK_at RJ.out 3 (by rw [HK.out]; decide)
        rw [← hb] at e1
        have hb0 := ok_getD (B := 256) (by decide) HKO.out 3
        rw [← hb] at hb0
        have HB := Lib.hid hb
        have HX := Lib.hid (xor_high b x hb0.1 hb0.2 hx0 hx1 240 15 (by decide) (by decide) (by decide))
        clear hb hb0 he ha0 ha1
        obtain ⟨y, hy⟩ : ∃ y, y = bits .xor .u8 b (bits .and .u8 x 240) := ⟨_, rfl⟩
        have HY := Lib.hid hy
        clear hy
        go_wp2_with (refine wpList_store_cell rfl _ (.tmp 35) (.tmp 34) rfl q 3 _ rfl rfl _ _ RJ.out (by rw [size_encK, HK.out]; decide) (by kernel_rfl) rfl rfl ?_)
        intro w4 r4 g4
        rw [← HY.out] at r4
        have hX := HX.out
        rw [← HY.out] at hX
        have RJ' := Lib.hid (rowK_set r4)
        have RK' := Lib.hid ((g4.block _ (row_lt RK0.out) (by intro e; injection e with e; have := HPQ.out; omega)).trans RK0.out)
        have HG' := Lib.hid (grown_row HG3.out g4 (fun j hj => by injection hj with hj; have := HP.out; have := HPQ.out; omega))
        clear r4 g4
        go_wp2_with fail
        go_meet
        case rel => exact ⟨_, (show Hid _ by rw [List.length_set]; exact HK), Lib.hid (ok_set HKO.out 3 y hX.1 hX.2.1), Lib.hid (tagV_set 3 y (by decide) (keyR_set 3 y HK.out HKO.out hX.1 hX.2.1 (by decide) (by rw [← HB.out]; exact hX.2.2))), RJ', RK', HG'⟩
      · rw [he]
        obtain ⟨b, hb⟩ : ∃ b, b = key.getD 7 0 := ⟨_, rfl⟩
        have e1 := rowK_at RJ.out 7 (by rw [HK.out]; decide)
        rw [← hb] at e1
        have hb0 := ok_getD (B := 256) (by decide) HKO.out 7
        rw [← hb] at hb0
        have HB := Lib.hid hb
        have HX := Lib.hid (xor_high b x hb0.1 hb0.2 hx0 hx1 240 15 (by decide) (by decide) (by decide))
        clear hb hb0 he ha0 ha1
        obtain ⟨y, hy⟩ : ∃ y, y = bits .xor .u8 b (bits .and .u8 x 240) := ⟨_, rfl⟩
        have HY := Lib.hid hy
        clear hy
        go_wp2_with (refine wpList_store_cell rfl _ (.tmp 35) (.tmp 34) rfl q 7 _ rfl rfl _ _ RJ.out (by rw [size_encK, HK.out]; decide) (by kernel_rfl) rfl rfl ?_)
        intro w4 r4 g4
        rw [← HY.out] at r4
        have hX := HX.out
        rw [← HY.out] at hX
        have RJ' := Lib.hid (rowK_set r4)
        have RK' := Lib.hid ((g4.block _ (row_lt RK0.out) (by intro e; injection e with e; have := HPQ.out; omega)).trans RK0.out)
        have HG' := Lib.hid (grown_row HG3.out g4 (fun j hj => by injection hj with hj; have := HP.out; have := HPQ.out; omega))
        clear r4 g4
        go_wp2_with fail
        go_meet
        case rel => exact ⟨_, (show Hid _ by rw [List.length_set]; exact HK), Lib.hid (ok_set HKO.out 7 y hX.1 hX.2.1), Lib.hid (tagV_set 7 y (by decide) (keyR_set 7 y HK.out HKO.out hX.1 hX.2.1 (by decide) (by rw [← HB.out]; exact hX.2.2))), RJ', RK', HG'⟩
      · rw [he]
        obtain ⟨b, hb⟩ : ∃ b, b = key.getD 11 0 := ⟨_, rfl⟩
        have e1 := rowK_at RJ.out 11 (by rw [HK.out]; decide)
        rw [← hb] at e1
        have hb0 := ok_getD (B := 256) (by decide) HKO.out 11
        rw [← hb] at hb0
        have HB := Lib.hid hb
        have HX := Lib.hid (xor_high b x hb0.1 hb0.2 hx0 hx1 240 15 (by decide) (by decide) (by decide))
        clear hb hb0 he ha0 ha1
        obtain ⟨y, hy⟩ : ∃ y, y = bits .xor .u8 b (bits .and .u8 x 240) := ⟨_, rfl⟩
        have HY := Lib.hid hy
        clear hy
        go_wp2_with (refine wpList_store_cell rfl _ (.tmp 35) (.tmp 34) rfl q 11 _ rfl rfl _ _ RJ.out (by rw [size_encK, HK.out]; decide) (by kernel_rfl) rfl rfl ?_)
        intro w4 r4 g4
        rw [← HY.out] at r4
        have hX := HX.out
        rw [← HY.out] at hX
        have RJ' := Lib.hid (rowK_set r4)
        have RK' := Lib.hid ((g4.block _ (row_lt RK0.out) (by intro e; injection e with e; have := HPQ.out; omega)).trans RK0.out)
        have HG' := Lib.hid (grown_row HG3.out g4 (fun j hj => by injection hj with hj; have := HP.out; have := HPQ.out; omega))
        clear r4 g4
        go_wp2_with fail
        go_meet
        case rel => exact ⟨_, (show Hid _ by rw [List.length_set]; exact HK), Lib.hid (ok_set HKO.out 11 y hX.1 hX.2.1), Lib.hid (tagV_set 11 y (by decide) (keyR_set 11 y HK.out HKO.out hX.1 hX.2.1 (by decide) (by rw [← HB.out]; exact hX.2.2))), RJ', RK', HG'⟩
      · rw [he]
        obtain ⟨b, hb⟩ : ∃ b, b = key.getD 15 0 := ⟨_, rfl⟩
        have e1 := rowK_at RJ.out 15 (by rw [HK.out]; decide)
        rw [← hb] at e1
        have hb0 := ok_getD (B := 256) (by decide) HKO.out 15
        rw [← hb] at hb0
        have HB := Lib.hid hb
        have HX := Lib.hid (xor_high b x hb0.1 hb0.2 hx0 hx1 240 15 (by decide) (by decide) (by decide))
        clear hb hb0 he ha0 ha1
        obtain ⟨y, hy⟩ : ∃ y, y = bits .xor .u8 b (bits .and .u8 x 240) := ⟨_, rfl⟩
        have HY := Lib.hid hy
        clear hy
        go_wp2_with (refine wpList_store_cell rfl _ (.tmp 35) (.tmp 34) rfl q 15 _ rfl rfl _ _ RJ.out (by rw [size_encK, HK.out]; decide) (by kernel_rfl) rfl rfl ?_)
        intro w4 r4 g4
        rw [← HY.out] at r4
        have hX := HX.out
        rw [← HY.out] at hX
        have RJ' := Lib.hid (rowK_set r4)
        have RK' := Lib.hid ((g4.block _ (row_lt RK0.out) (by intro e; injection e with e; have := HPQ.out; omega)).trans RK0.out)
        have HG' := Lib.hid (grown_row HG3.out g4 (fun j hj => by injection hj with hj; have := HP.out; have := HPQ.out; omega))
        clear r4 g4
        go_wp2_with fail
        go_meet
        case rel => exact ⟨_, (show Hid _ by rw [List.length_set]; exact HK), Lib.hid (ok_set HKO.out 15 y hX.1 hX.2.1), Lib.hid (tagV_set 15 y (by decide) (keyR_set 15 y HK.out HKO.out hX.1 hX.2.1 (by decide) (by rw [← HB.out]; exact hX.2.2))), RJ', RK', HG'⟩
      · rw [he]
        obtain ⟨b, hb⟩ : ∃ b, b = key.getD 4 0 := ⟨_, rfl⟩
        have e1 := rowK_at RJ.out 4 (by rw [HK.out]; decide)
        rw [← hb] at e1
        have hb0 := ok_getD (B := 256) (by decide) HKO.out 4
        rw [← hb] at hb0
        have HB := Lib.hid hb
        have HX := Lib.hid (xor_high b x hb0.1 hb0.2 hx0 hx1 3 252 (by decide) (by decide) (by decide))
        clear hb hb0 he ha0 ha1
        obtain ⟨y, hy⟩ : ∃ y, y = bits .xor .u8 b (bits .and .u8 x 3) := ⟨_, rfl⟩
        have HY := Lib.hid hy
        clear hy
        go_wp2_with (refine wpList_store_cell rfl _ (.tmp 44) (.tmp 43) rfl q 4 _ rfl rfl _ _ RJ.out (by rw [size_encK, HK.out]; decide) (by kernel_rfl) rfl rfl ?_)
        intro w4 r4 g4
        rw [← HY.out] at r4
        have hX := HX.out
        rw [← HY.out] at hX
        have RJ' := Lib.hid (rowK_set r4)
        have RK' := Lib.hid ((g4.block _ (row_lt RK0.out) (by intro e; injection e with e; have := HPQ.out; omega)).trans RK0.out)
        have HG' := Lib.hid (grown_row HG3.out g4 (fun j hj => by injection hj with hj; have := HP.out; have := HPQ.out; omega))
        clear r4 g4
        go_wp2_with fail
        go_meet
        case rel => exact ⟨_, (show Hid _ by rw [List.length_set]; exact HK), Lib.hid (ok_set HKO.out 4 y hX.1 hX.2.1), Lib.hid (tagV_set 4 y (by decide) (keyR_set 4 y HK.out HKO.out hX.1 hX.2.1 (by decide) (by rw [← HB.out]; exact hX.2.2))), RJ', RK', HG'⟩
      · rw [he]
        obtain ⟨b, hb⟩ : ∃ b, b = key.getD 8 0 := ⟨_, rfl⟩
        have e1 := rowK_at RJ.out 8 (by rw [HK.out]; decide)
        rw [← hb] at e1
        have hb0 := ok_getD (B := 256) (by decide) HKO.out 8
        rw [← hb] at hb0
        have HB := Lib.hid hb
        have HX := Lib.hid (xor_high b x hb0.1 hb0.2 hx0 hx1 3 252 (by decide) (by decide) (by decide))
        clear hb hb0 he ha0 ha1
        obtain ⟨y, hy⟩ : ∃ y, y = bits .xor .u8 b (bits .and .u8 x 3) := ⟨_, rfl⟩
        have HY := Lib.hid hy
        clear hy
        go_wp2_with (refine wpList_store_cell rfl _ (.tmp 44) (.tmp 43) rfl q 8 _ rfl rfl _ _ RJ.out (by rw [size_encK, HK.out]; decide) (by kernel_rfl) rfl rfl ?_)
        intro w4 r4 g4
        rw [← HY.out] at r4
        have hX := HX.out
        rw [← HY.out] at hX
        have RJ' := Lib.hid (rowK_set r4)
        have RK' := Lib.hid ((g4.block _ (row_lt RK0.out) (by intro e; injection e with e; have := HPQ.out; omega)).trans RK0.out)
        have HG' := Lib.hid (grown_row HG3.out g4 (fun j hj => by injection hj with hj; have := HP.out; have := HPQ.out; omega))
        clear r4 g4
        go_wp2_with fail
        go_meet
        case rel => exact ⟨_, (show Hid _ by rw [List.length_set]; exact HK), Lib.hid (ok_set HKO.out 8 y hX.1 hX.2.1), Lib.hid (tagV_set 8 y (by decide) (keyR_set 8 y HK.out HKO.out hX.1 hX.2.1 (by decide) (by rw [← HB.out]; exact hX.2.2))), RJ', RK', HG'⟩
      · rw [he]
        obtain ⟨b, hb⟩ : ∃ b, b = key.getD 12 0 := ⟨_, rfl⟩
        have e1 := rowK_at RJ.out 12 (by rw [HK.out]; decide)
        rw [← hb] at e1
        have hb0 := ok_getD (B := 256) (by decide) HKO.out 12
        rw [← hb] at hb0
        have HB := Lib.hid hb
        have HX := Lib.hid (xor_high b x hb0.1 hb0.2 hx0 hx1 3 252 (by decide) (by decide) (by decide))
        clear hb hb0 he ha0 ha1
        obtain ⟨y, hy⟩ : ∃ y, y = bits .xor .u8 b (bits .and .u8 x 3) := ⟨_, rfl⟩
        have HY := Lib.hid hy
        clear hy
        go_wp2_with (refine wpList_store_cell rfl _ (.tmp 44) (.tmp 43) rfl q 12 _ rfl rfl _ _ RJ.out (by rw [size_encK, HK.out]; decide) (by kernel_rfl) rfl rfl ?_)
        intro w4 r4 g4
        rw [← HY.out] at r4
        have hX := HX.out
        rw [← HY.out] at hX
        have RJ' := Lib.hid (rowK_set r4)
        have RK' := Lib.hid ((g4.block _ (row_lt RK0.out) (by intro e; injection e with e; have := HPQ.out; omega)).trans RK0.out)
        have HG' := Lib.hid (grown_row HG3.out g4 (fun j hj => by injection hj with hj; have := HP.out; have := HPQ.out; omega))
        clear r4 g4
        go_wp2_with fail
        go_meet
        case rel => exact ⟨_, (show Hid _ by rw [List.length_set]; exact HK), Lib.hid (ok_set HKO.out 12 y hX.1 hX.2.1), Lib.hid (tagV_set 12 y (by decide) (keyR_set 12 y HK.out HKO.out hX.1 hX.2.1 (by decide) (by rw [← HB.out]; exact hX.2.2))), RJ', RK', HG'⟩
    case rest =>
      obtain ⟨jk, HJL, HJO, HJT, RJ', RK', HG'⟩ := hcut
      clear RJ RK0 HG3
      obtain ⟨S, hS⟩ : ∃ S, S = digB 256 16 (tagV key xs) := ⟨_, rfl⟩
      have HSL := Lib.hid (show S.length = 16 by rw [hS, length_digB])
      have HS := Lib.hid hS
      clear hS
      obtain ⟨B, hB⟩ : ∃ B : Bs, B = ⟨ad, len, cap, xs⟩ := ⟨_, rfl⟩
      have HBV := Lib.hid (show B.val = .slice ad len cap by rw [hB]; rfl)
      have HBX := Lib.hid (show B.xs = xs by rw [hB])
      have HBO := Lib.hid (show ∀ w', w.grownBy w' none → B.ok w' from fun w' hg => by rw [hB]; exact ⟨HR.out.kept hg, HOX.out, HN.out, (show len ≤ 3000 by omega)⟩)
      clear hB
      obtain ⟨s, hs⟩ : ∃ s, wc.heap.size = s := ⟨_, rfl⟩
      have HS0 := Lib.hid hs
      clear hs
      go_wp2_with (first | (refine wpList_load_row rfl A32 (.tmp 4) rfl p rfl _ _ _ _ RK'.out Try.underlying22 rfl (by rw [size_encK, HK.out]; kernel_rfl) ?_) | (refine wpList_stop 48 rfl ?_))
      rw [HS0.out]
      intro w5 hw5
      have hw5' : w5 = wc.alloc (.cells #[.slice ad len cap] 23 (0, 0)) := hw5
      have r5 : w5.heap[s]? = some (.cells #[B.val] 23 (0, 0)) := by rw [hw5', HBV.out]; exact alloc_at _ _ HS0.out.symm
      have g5 : wc.grownBy w5 none := by rw [hw5']; exact World.grownBy_alloc _ _ _
      have RC := Lib.hid r5
      have RJ := Lib.hid (row_keep RJ'.out g5)
      have RK := Lib.hid (row_keep RK'.out g5)
      have HG := Lib.hid (grown_trans HG'.out g5)
      clear hw5 hw5' r5 g5 RJ' RK' HG' HS0
      go_wp2_with fail
      refine (sum_one key s B xs _ HK.out HKO.out RC.out HBX.out (HBO.out _ HG.out)).mono ?_
      rintro e w6 ⟨rfl, hg6⟩
      rw [← HS.out]
      have RJ' := Lib.hid (row_keep RJ.out hg6)
      have RK' := Lib.hid (row_keep RK.out hg6)
      have HG' := Lib.hid (grown_trans HG.out hg6)
      clear hg6 RJ RK HG RC
      obtain ⟨u, hu⟩ : ∃ u, w6.heap.size = u := ⟨_, rfl⟩
      have HU := Lib.hid hu
      have HQU := Lib.hid (show q < u by rw [← hu]; exact row_lt RJ'.out)
      clear hu
      go_upto_region 12 with (refine wpList_store_range rfl A16 (.tmp 11) (.tmp 48) rfl u 0 (encK .u8 S) (by simp [Act.eval, HU.out]) rfl _ (encK .u8 (List.replicate 16 0)) (alloc_at _ _ HU.out.symm) (by rw [size_encK, size_encK, HSL.out]; decide) (by rw [size_encK, HSL.out]; kernel_rfl) (one_encK _ _) ?_)
      rw [HU.out]
      intro w7 r7 g7
      rw [putAt_all _ _ (by rw [Array.length_toList, size_encK, size_encK, HSL.out]; rfl)] at r7
      have RS : Hid (w7.heap[u]? = some (.cells (encK .u8 S) A16 (0, 0))) := r7
      have RJ := Lib.hid ((g7.block _ (by have := HQU.out; have := HU.out; rw [alloc_size]; omega) (by intro e; injection e with e; have := HQU.out; omega)).trans ((alloc_up _ _ (row_lt RJ'.out)).trans RJ'.out))
      have RK := Lib.hid ((g7.block _ (by have := HQU.out; have := HPQ.out; have := HU.out; rw [alloc_size]; omega) (by intro e; injection e with e; have := HQU.out; have := HPQ.out; omega)).trans ((alloc_up _ _ (row_lt RK'.out)).trans RK'.out))
      have HG := Lib.hid (grown_row (grown_alloc HG'.out _) g7 (fun j hj => by injection hj with hj; have := HP.out; have := HPQ.out; have := HQU.out; omega))
      clear r7 g7 RJ' RK' HG'
      obtain ⟨z, hz⟩ : ∃ z, w7.heap.size = z := ⟨_, rfl⟩
      have HZ := Lib.hid hz
      have HUZ := Lib.hid (show u < z by rw [← hz]; exact row_lt RS.out)
      clear hz
      go_wp2_with fail
      refine wp_region_grow [(2, 0), (2, 1), (3, 2)] (by kernel_rfl) (by kernel_rfl) (fun _ _ _ _ _ h => h) (fun _ _ _ _ _ h => h) ?_
      refine gSeq_name fun w8 hw8 => ?_
      have g8 : w7.grownBy w8 none := by rw [hw8]; exact grown_trans (World.grownBy_alloc _ _ _) (grown_drew _ _)
      have rz : w8.heap[z]? = some (.cells (encK .u8 (List.replicate 32 0)) A32 (0, 0)) := by rw [hw8]; exact alloc_at _ _ HZ.out.symm
      have RZ := Lib.hid rz
      have RS' := Lib.hid (row_keep RS.out g8)
      have RJ' := Lib.hid (row_keep RJ.out g8)
      have RK' := Lib.hid (row_keep RK.out g8)
      have HG' := Lib.hid (grown_trans HG.out g8)
      clear g8 hw8 rz RS RJ RK HG
      rw [HZ.out]
      (repeat (first | (refine gSeq_skip rfl (by rfl) ?_; (try simp only [Act.put, Act.eval, List.setIfInBounds_toArray, List.set_cons_zero, List.set_cons_succ, Array.getD_eq_getD_getElem?, List.getElem?_toArray, List.getElem?_cons_succ, List.getElem?_cons_zero, Option.getD_some])) | (refine gSeq_move _ rfl rfl (by rfl) ?_; (try simp only [Act.put, Act.eval, List.setIfInBounds_toArray, List.set_cons_zero, List.set_cons_succ, Array.getD_eq_getD_getElem?, List.getElem?_toArray, List.getElem?_cons_succ, List.getElem?_cons_zero, Option.getD_some])) | (refine gSeq_assign _ rfl rfl (by rfl) ?_; (try simp only [Act.put, Act.eval, List.setIfInBounds_toArray, List.set_cons_zero, List.set_cons_succ, Array.getD_eq_getD_getElem?, List.getElem?_toArray, List.getElem?_cons_succ, List.getElem?_cons_zero, Option.getD_some])) | (fail) | (refine gSeq_pure rfl (by rfl) ?_ ?_ ?_; (rotate_left; (intro w'; (skip); go_simp; (first | done | with_reducible rfl)); (try simp only [Act.put, Act.eval, List.setIfInBounds_toArray, List.set_cons_zero, List.set_cons_succ, Array.getD_eq_getD_getElem?, List.getElem?_toArray, List.getElem?_cons_succ, List.getElem?_cons_zero, Option.getD_some]))) | (refine gSeq_still rfl (by rfl) ?_ ?_ ?_; (rotate_left; (intro w' hG; (skip); go_simp; (first | done | with_reducible rfl)); (try simp only [Act.put, Act.eval, List.setIfInBounds_toArray, List.set_cons_zero, List.set_cons_succ, Array.getD_eq_getD_getElem?, List.getElem?_toArray, List.getElem?_cons_succ, List.getElem?_cons_zero, Option.getD_some])))))
      have hsrc := rd_take (rd_row RK'.out) 16 (by rw [HK.out]; decide)
      refine gSeq_copy rfl (by rfl) _ _ _ _ rfl _ z 0 16 32 _ 16 32 _ _ _ _ Try.underlying23 (by kernel_rfl) rfl rfl hsrc RZ.out 16 rfl (by rw [List.length_replicate]; decide) ?_
      intro w9 r9 g9
      obtain ⟨zk, hzk⟩ : ∃ zk, zk = key.take 16 ++ List.replicate 16 0 := ⟨_, rfl⟩
      have hcur : (List.replicate 32 (0 : Int)).take 0 ++ (key.take 16).take 16 ++ (List.replicate 32 (0 : Int)).drop (0 + 16) = zk := by
        rw [List.take_zero, List.nil_append, List.take_take, hzk]; rfl
      rw [hcur] at r9
      have HZK := Lib.hid (show zk.length = 32 by rw [hzk, List.length_append, List.length_take, HK.out]; rfl)
      have HZO := Lib.hid (show okB 256 zk by
        rw [hzk]
        intro y hy
        rcases List.mem_append.1 hy with hy | hy
        · exact HKO.out y (List.mem_of_mem_take hy)
        · rw [List.eq_of_mem_replicate hy]; decide)
      have HSUM := Lib.hid (show digB 256 16 (tagV key xs) = sums 256 (digB 256 16 (tagV zk xs)) (key.drop 16) 16 by rw [hzk]; exact tag_sums HK.out HKO.out xs)
      clear hzk hcur hsrc
      have RZ' := Lib.hid r9
      have HPZ := Lib.hid (show p < z by have := HPQ.out; have := HQU.out; have := HUZ.out; omega)
      have RS := Lib.hid ((g9.block _ (row_lt RS'.out) (by intro e; injection e with e; have := HUZ.out; omega)).trans RS'.out)
      have RJ := Lib.hid ((g9.block _ (row_lt RJ'.out) (by intro e; injection e with e; have := HUZ.out; have := HQU.out; omega)).trans RJ'.out)
      have RK := Lib.hid ((g9.block _ (row_lt RK'.out) (by intro e; injection e with e; have := HPZ.out; omega)).trans RK'.out)
      have HG := Lib.hid (grown_row HG'.out g9 (fun j hj => by injection hj with hj; have := HP.out; have := HPZ.out; omega))
      clear r9 g9 RZ RS' RJ' RK' HG'
      (try simp only [Act.put, Act.eval, List.setIfInBounds_toArray, List.set_cons_zero, List.set_cons_succ, Array.getD_eq_getD_getElem?, List.getElem?_toArray, List.getElem?_cons_succ, List.getElem?_cons_zero, Option.getD_some])
      refine gSeq_nil ?_
      obtain ⟨s', hs'⟩ : ∃ s', w9.heap.size = s' := ⟨_, rfl⟩
      have HS1 := Lib.hid hs'
      clear hs'
      go_wp2_with (first | (refine wpList_load_row rfl A32 (.tmp 12) rfl z rfl _ _ _ _ RZ'.out Try.underlying22 rfl (by rw [size_encK, HZK.out]; kernel_rfl) ?_) | (refine wpList_stop 55 rfl ?_))
      rw [HS1.out]
      intro w5 hw5
      have hw5' : w5 = w9.alloc (.cells #[.slice ad len cap] 23 (0, 0)) := hw5
      have r5 : w5.heap[s']? = some (.cells #[B.val] 23 (0, 0)) := by rw [hw5', HBV.out]; exact alloc_at _ _ HS1.out.symm
      have g5 : w9.grownBy w5 none := by rw [hw5']; exact World.grownBy_alloc _ _ _
      have RC := Lib.hid r5
      have RJ' := Lib.hid (row_keep RJ.out g5)
      have RK' := Lib.hid (row_keep RK.out g5)
      have RS' := Lib.hid (row_keep RS.out g5)
      have HG' := Lib.hid (grown_trans HG.out g5)
      clear hw5 hw5' r5 g5 RJ RK RS HG HS1
      go_wp2_with fail
      refine (sum_one zk s' B xs _ HZK.out HZO.out RC.out HBX.out (HBO.out _ HG'.out)).mono ?_
      rintro e w6 ⟨rfl, hg6⟩
      obtain ⟨T, hT⟩ : ∃ T, T = digB 256 16 (tagV zk xs) := ⟨_, rfl⟩
      rw [← hT]
      have HTL := Lib.hid (show T.length = 16 by rw [hT, length_digB])
      have HTO := Lib.hid (show okB 256 T by rw [hT]; exact ok_digB (by decide) _ _)
      have HST := Lib.hid (show S = sums 256 T (key.drop 16) 16 by rw [HS.out, hT]; exact HSUM.out)
      clear hT
      have RJ := Lib.hid (row_keep RJ'.out hg6)
      have RK := Lib.hid (row_keep RK'.out hg6)
      have RS := Lib.hid (row_keep RS'.out hg6)
      have HG := Lib.hid (grown_trans HG'.out hg6)
      clear hg6 RJ' RK' RS' HG' RC RZ'
      obtain ⟨v, hv⟩ : ∃ v, w6.heap.size = v := ⟨_, rfl⟩
      have HV := Lib.hid hv
      have HUV := Lib.hid (show u < v by rw [← hv]; exact row_lt RS.out)
      clear hv
      go_wp2_with (refine wpList_store_range rfl A16 (.tmp 13) (.tmp 55) rfl v 0 (encK .u8 T) (by simp [Act.eval, HV.out]) rfl _ (encK .u8 (List.replicate 16 0)) (alloc_at _ _ HV.out.symm) (by rw [size_encK, size_encK, HTL.out]; decide) (by rw [size_encK, HTL.out]; kernel_rfl) (one_encK _ _) ?_)
      rw [HV.out]
      intro w7 r7 g7
      rw [putAt_all _ _ (by rw [Array.length_toList, size_encK, size_encK, HTL.out]; rfl)] at r7
      have RT : Hid (w7.heap[v]? = some (.cells (encK .u8 T) A16 (0, 0))) := r7
      have HPV := Lib.hid (show p < v ∧ q < v by have := HPQ.out; have := HQU.out; have := HUV.out; omega)
      have RJ' := Lib.hid ((g7.block _ (by have := HPV.out; have := HV.out; rw [alloc_size]; omega) (by intro e; injection e with e; have := HPV.out; omega)).trans ((alloc_up _ _ (row_lt RJ.out)).trans RJ.out))
      have RK' := Lib.hid ((g7.block _ (by have := HPV.out; have := HV.out; rw [alloc_size]; omega) (by intro e; injection e with e; have := HPV.out; omega)).trans ((alloc_up _ _ (row_lt RK.out)).trans RK.out))
      have RS' := Lib.hid ((g7.block _ (by have := HUV.out; have := HV.out; rw [alloc_size]; omega) (by intro e; injection e with e; have := HUV.out; omega)).trans ((alloc_up _ _ (row_lt RS.out)).trans RS.out))
      have HG' := Lib.hid (grown_row (grown_alloc HG.out _) g7 (fun j hj => by injection hj with hj; have := HP.out; have := HPV.out; omega))
      clear r7 g7 RJ RK RS HG
      go_wp2_with fail
      obtain ⟨kd, hkd⟩ : ∃ kd, kd = key.drop 16 := ⟨_, rfl⟩
      have HKD := Lib.hid (show kd.length = 16 by rw [hkd, List.length_drop, HK.out])
      have HKDO := Lib.hid (show okB 256 kd by rw [hkd]; exact ok_drop HKO.out 16)
      have HKA := Lib.hid (show ∀ j, kd.getD j 0 = key.getD (16 + j) 0 from fun j => by rw [hkd, List.getD_eq_getElem?_getD, List.getElem?_drop, ← List.getD_eq_getElem?_getD])
      have HST' := Lib.hid (show S = sums 256 T kd 16 by rw [hkd]; exact HST.out)
      clear hkd
      go_loopw [14, 15] (fun v14 v15 wr => ∃ (k : Nat), k ≤ 16 ∧ v14 = .int .i64 (carry 256 T kd k) ∧ v15 = .int .i64 k ∧ wr.heap[p]? = some (.cells (encK .u8 key) A32 (0, 0)) ∧ wr.heap[q]? = some (.cells (encK .u8 jk) A32 (0, 0)) ∧ wr.heap[u]? = some (.cells (encK .u8 S) A16 (0, 0)) ∧ wr.heap[v]? = some (.cells (encK .u8 T) A16 (0, 0)) ∧ w.grownBy wr none) (fun _ v15 _ => 16 - (intOf v15).toNat)
      case atStart => exact ⟨0, by omega, rfl, rfl, RK'.out, RJ'.out, RS'.out, RT.out, HG'.out⟩
      case round =>
        obtain ⟨k, hk, rfl, rfl, r0, r1, r2, r3, hg⟩ := hrel
        have RK := Lib.hid r0
        have RJ := Lib.hid r1
        have RS := Lib.hid r2
        have RT' := Lib.hid r3
        have HG := Lib.hid hg
        clear r0 r1 r2 r3 hg RK' RJ' RS' RT HG'
        by_cases hlt : k < 16
        · have hk0 : 0 ≤ (k : Int) := by omega
          have hk16 : (k : Int) < 16 := by omega
          have hk32 : 16 + (k : Int) < 32 := by omega
          have hk17 : 0 ≤ 16 + (k : Int) := by omega
          obtain ⟨a, ha⟩ : ∃ a, a = T.getD k 0 := ⟨_, rfl⟩
          obtain ⟨b, hb⟩ : ∃ b, b = key.getD (16 + k) 0 := ⟨_, rfl⟩
          obtain ⟨c, hc⟩ : ∃ c, c = carry 256 T kd k := ⟨_, rfl⟩
          have hc0 := carry_range (B := 256) (by decide) HTO.out HKDO.out k
          have ha0 := ok_getD (B := 256) (by decide) HTO.out k
          have hb0 := ok_getD (B := 256) (by decide) HKO.out (16 + k)
          have e1 := rowK_at RT'.out k (by rw [HTL.out]; exact hlt)
          have e2 := rowK_at RK.out (16 + k) (by rw [HK.out]; omega)
          have e3 := rowK_at RS.out k (by rw [HSL.out]; exact hlt)
          have hs3 : S.getD k 0 = (a + b + c) % 256 := by
            rw [HST'.out, ha, hb, hc, ← HKA.out k]
            simp [sums, sumAt, hlt]
          have hcn : carry 256 T kd (k + 1) = (a + b + c) / 256 := by
            rw [carry, ← HKA.out k] at *
            simp only [ha, hb, hc, HKA.out k]
          rw [← ha] at e1 ha0
          rw [← hb] at e2 hb0
          rw [← hc] at hc0 ⊢
          rw [hs3] at e3
          have HCN := Lib.hid hcn
          clear ha hb hc hs3 hcn
          go_wp2_with fail
          refine wp_region_grow [(2, 0), (2, 1), (2, 2), (1, 3), (2, 4), (2, 5), (2, 6), (2, 7), (1, 8), (2, 9), (2, 10), (2, 11), (2, 12)] (by kernel_rfl) (by kernel_rfl) (fun _ _ _ _ _ h => h) (fun _ _ _ _ _ h => h) ?_
          refine gSeq_name fun w4 hw4 => ?_
          have g4 : wr.grownBy w4 none := by rw [hw4]; exact grown_drew _ _
          have E1 := Lib.hid (g4.cell e1 (by simp))
          have E2 := Lib.hid (g4.cell e2 (by simp))
          have E3 := Lib.hid (g4.cell e3 (by simp))
          have RK' := Lib.hid (row_keep RK.out g4)
          have RJ' := Lib.hid (row_keep RJ.out g4)
          have RS' := Lib.hid (row_keep RS.out g4)
          have RT := Lib.hid (row_keep RT'.out g4)
          have HG' := Lib.hid (grown_trans HG.out g4)
          clear g4 hw4 e1 e2 e3 RK RJ RS RT' HG
          have hw1 : IntKind.i64.wrap (16 + (k : Int)) = 16 + (k : Int) := IntWalk.i64_in _ (by omega)
          have hw2 : (16 + (k : Int)).toNat = 16 + k := by omega
          have hw3 : IntKind.i64.wrap (a + b) = a + b := IntWalk.i64_in _ (by omega)
          have hw4 : IntKind.i64.wrap (c + (a + b)) = c + (a + b) := IntWalk.i64_in _ (by omega)
          (repeat (first | (refine gSeq_skip rfl (by rfl) ?_; (try simp only [Act.put, Act.eval, List.setIfInBounds_toArray, List.set_cons_zero, List.set_cons_succ, Array.getD_eq_getD_getElem?, List.getElem?_toArray, List.getElem?_cons_succ, List.getElem?_cons_zero, Option.getD_some])) | (refine gSeq_move _ rfl rfl (by rfl) ?_; (try simp only [Act.put, Act.eval, List.setIfInBounds_toArray, List.set_cons_zero, List.set_cons_succ, Array.getD_eq_getD_getElem?, List.getElem?_toArray, List.getElem?_cons_succ, List.getElem?_cons_zero, Option.getD_some])) | (refine gSeq_assign _ rfl rfl (by rfl) ?_; (try simp only [Act.put, Act.eval, List.setIfInBounds_toArray, List.set_cons_zero, List.set_cons_succ, Array.getD_eq_getD_getElem?, List.getElem?_toArray, List.getElem?_cons_succ, List.getElem?_cons_zero, Option.getD_some])) | (fail) | (refine gSeq_pure rfl (by rfl) ?_ ?_ ?_; (rotate_left; (intro w'; (try (have d1 := hG.cell E1.out (by simp); have d2 := hG.cell E2.out (by simp))); go_simp; (first | done | with_reducible rfl)); (try simp only [Act.put, Act.eval, List.setIfInBounds_toArray, List.set_cons_zero, List.set_cons_succ, Array.getD_eq_getD_getElem?, List.getElem?_toArray, List.getElem?_cons_succ, List.getElem?_cons_zero, Option.getD_some]))) | (refine gSeq_still rfl (by rfl) ?_ ?_ ?_; (rotate_left; (intro w' hG; (try (have d1 := hG.cell E1.out (by simp); have d2 := hG.cell E2.out (by simp))); go_simp; (first | done | with_reducible rfl)); (try simp only [Act.put, Act.eval, List.setIfInBounds_toArray, List.set_cons_zero, List.set_cons_succ, Array.getD_eq_getD_getElem?, List.getElem?_toArray, List.getElem?_cons_succ, List.getElem?_cons_zero, Option.getD_some])))))
          refine gSeq_nil ?_
          have hcm : IntKind.u8.wrap (c + (a + b)) = (a + b + c) % 256 := by
            rw [show c + (a + b) = a + b + c by omega]
            rw [IntKind.wrap_u8]
          have e3 := E3.out
          clear hw1 hw2 hw3 hw4
          have hsh : (c + (a + b)) / 256 = carry 256 T kd (k + 1) := by rw [HCN.out, show c + (a + b) = a + b + c by omega]
          go_wp2_with fail
          exact ⟨⟨k + 1, by omega, by rw [hsh], by go_num, RK'.out, RJ'.out, RS'.out, RT.out, HG'.out⟩, by simp [intOf]; omega⟩
        · have : k = 16 := by omega
          subst this
          go_wp2_with fail
          refine wp_region_grow [(1, 0), (2, 1), (1, 4), (0, 2), (0, 3), (2, 5), (2, 6), (1, 7), (1, 8), (2, 9), (0, 10), (2, 11), (2, 12), (2, 13)] (by kernel_rfl) (by kernel_rfl) (fun _ _ _ _ _ h => h) (fun _ _ _ _ _ h => h) ?_
          refine gSeq_name fun w4 hw4 => ?_
          have g4 : wr.grownBy w4 none := by rw [hw4]; exact grown_drew _ _
          have RK' := Lib.hid (row_keep RK.out g4)
          have RJ' := Lib.hid (row_keep RJ.out g4)
          have RS' := Lib.hid (row_keep RS.out g4)
          have HG' := Lib.hid (grown_trans HG.out g4)
          clear g4 hw4 RK RJ RS RT' HG
          (repeat (first | (refine gSeq_skip rfl (by rfl) ?_; (try simp only [Act.put, Act.eval, List.setIfInBounds_toArray, List.set_cons_zero, List.set_cons_succ, Array.getD_eq_getD_getElem?, List.getElem?_toArray, List.getElem?_cons_succ, List.getElem?_cons_zero, Option.getD_some])) | (refine gSeq_move _ rfl rfl (by rfl) ?_; (try simp only [Act.put, Act.eval, List.setIfInBounds_toArray, List.set_cons_zero, List.set_cons_succ, Array.getD_eq_getD_getElem?, List.getElem?_toArray, List.getElem?_cons_succ, List.getElem?_cons_zero, Option.getD_some])) | (refine gSeq_assign _ rfl rfl (by rfl) ?_; (try simp only [Act.put, Act.eval, List.setIfInBounds_toArray, List.set_cons_zero, List.set_cons_succ, Array.getD_eq_getD_getElem?, List.getElem?_toArray, List.getElem?_cons_succ, List.getElem?_cons_zero, Option.getD_some])) | ((first | (refine gSeq_row rfl (by rfl) 22 _ rfl _ rfl _ _ _ _ RJ'.out Try.underlying22 rfl (by rw [size_encK, HJL.out]; kernel_rfl) ?_; (try simp only [Act.put, Act.eval, List.setIfInBounds_toArray, List.set_cons_zero, List.set_cons_succ, Array.getD_eq_getD_getElem?, List.getElem?_toArray, List.getElem?_cons_succ, List.getElem?_cons_zero, Option.getD_some])) | (refine gSeq_row rfl (by rfl) 26 _ rfl _ rfl _ _ _ _ RS'.out Try.underlying26 rfl (by rw [size_encK, HSL.out]; kernel_rfl) ?_; (try simp only [Act.put, Act.eval, List.setIfInBounds_toArray, List.set_cons_zero, List.set_cons_succ, Array.getD_eq_getD_getElem?, List.getElem?_toArray, List.getElem?_cons_succ, List.getElem?_cons_zero, Option.getD_some])))) | (refine gSeq_pure rfl (by rfl) ?_ ?_ ?_; (rotate_left; (intro w'; (skip); go_simp; (first | done | with_reducible rfl)); (try simp only [Act.put, Act.eval, List.setIfInBounds_toArray, List.set_cons_zero, List.set_cons_succ, Array.getD_eq_getD_getElem?, List.getElem?_toArray, List.getElem?_cons_succ, List.getElem?_cons_zero, Option.getD_some]))) | (refine gSeq_still rfl (by rfl) ?_ ?_ ?_; (rotate_left; (intro w' hG; (skip); go_simp; (first | done | with_reducible rfl)); (try simp only [Act.put, Act.eval, List.setIfInBounds_toArray, List.set_cons_zero, List.set_cons_succ, Array.getD_eq_getD_getElem?, List.getElem?_toArray, List.getElem?_cons_succ, List.getElem?_cons_zero, Option.getD_some])))))
          (refine gSeq_do rfl (by rfl) (fun K hK => ?_)); go_simp
          obtain ⟨s2, hs2⟩ : ∃ s2, w4.heap.size = s2 := ⟨_, rfl⟩
          have HS2 := Lib.hid hs2
          clear hs2
          rw [HS2.out]
          rw [← HBV.out]
          have r5 := alloc_at w4 (.cells #[B.val] 23 (0, 0)) HS2.out.symm
          have g5 := World.grownBy_alloc w4 (.cells #[B.val] 23 (0, 0)) none
          refine hK _ _ (g5) ?_; clear hK K; (try simp only [Act.put, Act.eval, List.setIfInBounds_toArray, List.set_cons_zero, List.set_cons_succ, Array.getD_eq_getD_getElem?, List.getElem?_toArray, List.getElem?_cons_succ, List.getElem?_cons_zero, Option.getD_some])
          obtain ⟨w5, hw5⟩ : ∃ w5, w5 = w4.alloc (.cells #[B.val] 23 (0, 0)) := ⟨_, rfl⟩
          rw [← hw5] at r5 g5 ⊢
          have RC := Lib.hid r5
          have RS := Lib.hid (row_keep RS'.out g5)
          have RK := Lib.hid (row_keep RK'.out g5)
          have HG := Lib.hid (grown_trans HG'.out g5)
          clear r5 g5 hw5 RS' RK' RJ' HG'
          (refine gSeq_do rfl (by rfl) (fun K hK => ?_)); go_simp
          refine (sum_one jk s2 B xs _ HJL.out HJO.out RC.out HBX.out (HBO.out _ HG.out)).mono ?_
          rintro e w6 ⟨rfl, hg6⟩
          rw [HJT.out, ← HS.out]
          refine hK _ _ hg6 ?_; clear hK K; (try simp only [Act.put, Act.eval, List.setIfInBounds_toArray, List.set_cons_zero, List.set_cons_succ, Array.getD_eq_getD_getElem?, List.getElem?_toArray, List.getElem?_cons_succ, List.getElem?_cons_zero, Option.getD_some])
          have RS' := Lib.hid (row_keep RS.out hg6)
          have RK' := Lib.hid (row_keep RK.out hg6)
          have HG' := Lib.hid (grown_trans HG.out hg6)
          clear hg6 RS RK HG RC
          (refine gSeq_eql rfl (by rfl) 26 _ _ _ rfl _ _ _ Try.underlying26 Try.underlying5 (by kernel_rfl) (by kernel_rfl) S S rfl rfl HSL.out HSL.out true (by simp) ?_; (try simp only [Act.put, Act.eval, List.setIfInBounds_toArray, List.set_cons_zero, List.set_cons_succ, Array.getD_eq_getD_getElem?, List.getElem?_toArray, List.getElem?_cons_succ, List.getElem?_cons_zero, Option.getD_some]))
          (repeat (first | (refine gSeq_skip rfl (by rfl) ?_; (try simp only [Act.put, Act.eval, List.setIfInBounds_toArray, List.set_cons_zero, List.set_cons_succ, Array.getD_eq_getD_getElem?, List.getElem?_toArray, List.getElem?_cons_succ, List.getElem?_cons_zero, Option.getD_some])) | (refine gSeq_move _ rfl rfl (by rfl) ?_; (try simp only [Act.put, Act.eval, List.setIfInBounds_toArray, List.set_cons_zero, List.set_cons_succ, Array.getD_eq_getD_getElem?, List.getElem?_toArray, List.getElem?_cons_succ, List.getElem?_cons_zero, Option.getD_some])) | (refine gSeq_assign _ rfl rfl (by rfl) ?_; (try simp only [Act.put, Act.eval, List.setIfInBounds_toArray, List.set_cons_zero, List.set_cons_succ, Array.getD_eq_getD_getElem?, List.getElem?_toArray, List.getElem?_cons_succ, List.getElem?_cons_zero, Option.getD_some])) | ((first | (refine gSeq_row rfl (by rfl) 22 _ rfl _ rfl _ _ _ _ RK'.out Try.underlying22 rfl (by rw [size_encK, HK.out]; kernel_rfl) ?_; (try simp only [Act.put, Act.eval, List.setIfInBounds_toArray, List.set_cons_zero, List.set_cons_succ, Array.getD_eq_getD_getElem?, List.getElem?_toArray, List.getElem?_cons_succ, List.getElem?_cons_zero, Option.getD_some])) | (refine gSeq_row rfl (by rfl) 26 _ rfl _ rfl _ _ _ _ RS'.out Try.underlying26 rfl (by rw [size_encK, HSL.out]; kernel_rfl) ?_; (try simp only [Act.put, Act.eval, List.setIfInBounds_toArray, List.set_cons_zero, List.set_cons_succ, Array.getD_eq_getD_getElem?, List.getElem?_toArray, List.getElem?_cons_succ, List.getElem?_cons_zero, Option.getD_some])))) | (refine gSeq_pure rfl (by rfl) ?_ ?_ ?_; (rotate_left; (intro w'; (skip); go_simp; (first | done | with_reducible rfl)); (try simp only [Act.put, Act.eval, List.setIfInBounds_toArray, List.set_cons_zero, List.set_cons_succ, Array.getD_eq_getD_getElem?, List.getElem?_toArray, List.getElem?_cons_succ, List.getElem?_cons_zero, Option.getD_some]))) | (refine gSeq_still rfl (by rfl) ?_ ?_ ?_; (rotate_left; (intro w' hG; (skip); go_simp; (first | done | with_reducible rfl)); (try simp only [Act.put, Act.eval, List.setIfInBounds_toArray, List.set_cons_zero, List.set_cons_succ, Array.getD_eq_getD_getElem?, List.getElem?_toArray, List.getElem?_cons_succ, List.getElem?_cons_zero, Option.getD_some])))))
          (refine gSeq_do rfl (by rfl) (fun K hK => ?_)); go_simp
          have hrb := HR.out.kept HG'.out
          rw [HBV.out]
          refine (rpoly_any key ad len cap xs _ HK.out HKO.out hrb HOX.out HLC.out HCM.out (fun h => rd_block hrb h)).mono ?_
          rintro e w8 ⟨rfl, hg8⟩
          rw [← HS.out]
          refine hK _ _ hg8 ?_; clear hK K; (try simp only [Act.put, Act.eval, List.setIfInBounds_toArray, List.set_cons_zero, List.set_cons_succ, Array.getD_eq_getD_getElem?, List.getElem?_toArray, List.getElem?_cons_succ, List.getElem?_cons_zero, Option.getD_some])
          have HG := Lib.hid (grown_trans HG'.out hg8)
          clear hg8 HG' RK' RS' hrb
          (refine gSeq_eql rfl (by rfl) 26 _ _ _ rfl _ _ _ Try.underlying26 Try.underlying5 (by kernel_rfl) (by kernel_rfl) S S rfl rfl HSL.out HSL.out true (by simp) ?_; (try simp only [Act.put, Act.eval, List.setIfInBounds_toArray, List.set_cons_zero, List.set_cons_succ, Array.getD_eq_getD_getElem?, List.getElem?_toArray, List.getElem?_cons_succ, List.getElem?_cons_zero, Option.getD_some]))
          (repeat (first | (refine gSeq_skip rfl (by rfl) ?_; (try simp only [Act.put, Act.eval, List.setIfInBounds_toArray, List.set_cons_zero, List.set_cons_succ, Array.getD_eq_getD_getElem?, List.getElem?_toArray, List.getElem?_cons_succ, List.getElem?_cons_zero, Option.getD_some])) | (refine gSeq_move _ rfl rfl (by rfl) ?_; (try simp only [Act.put, Act.eval, List.setIfInBounds_toArray, List.set_cons_zero, List.set_cons_succ, Array.getD_eq_getD_getElem?, List.getElem?_toArray, List.getElem?_cons_succ, List.getElem?_cons_zero, Option.getD_some])) | (refine gSeq_assign _ rfl rfl (by rfl) ?_; (try simp only [Act.put, Act.eval, List.setIfInBounds_toArray, List.set_cons_zero, List.set_cons_succ, Array.getD_eq_getD_getElem?, List.getElem?_toArray, List.getElem?_cons_succ, List.getElem?_cons_zero, Option.getD_some])) | (fail) | (refine gSeq_pure rfl (by rfl) ?_ ?_ ?_; (rotate_left; (intro w'; (skip); go_simp; (first | done | with_reducible rfl)); (try simp only [Act.put, Act.eval, List.setIfInBounds_toArray, List.set_cons_zero, List.set_cons_succ, Array.getD_eq_getD_getElem?, List.getElem?_toArray, List.getElem?_cons_succ, List.getElem?_cons_zero, Option.getD_some]))) | (refine gSeq_still rfl (by rfl) ?_ ?_ ?_; (rotate_left; (intro w' hG; (skip); go_simp; (first | done | with_reducible rfl)); (try simp only [Act.put, Act.eval, List.setIfInBounds_toArray, List.set_cons_zero, List.set_cons_succ, Array.getD_eq_getD_getElem?, List.getElem?_toArray, List.getElem?_cons_succ, List.getElem?_cons_zero, Option.getD_some])))))
          refine gSeq_nil ?_
          go_wp2_with fail
          exact bodyPost_ret (results_tmp rfl _ _ _) rfl ⟨rfl, HG.out⟩
end Go.Proofs.Ytcfhpbnkebodiaa
