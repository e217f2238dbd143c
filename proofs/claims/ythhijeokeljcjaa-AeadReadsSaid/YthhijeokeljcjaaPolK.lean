/- poly's reference: the rest. -/
import Derived.Test.YthhijeokeljcjaaPolJ
import Derived.Test.YthhijeokeljcjaaOpen
namespace Go.Proofs.Ythhijeokeljcjaa
set_option linter.unusedVariables false
set_option linter.unusedSimpArgs false
open Go.RowKit Go.Proofs.YthhijeokeljcjaaL

/-- The number in a block. -/
def numAt (w : World) (p : Nat) : Nat := match w.heap[p]? with
  | some (.cells cs _ _) => (numB 256 (cs.toList.map intOf)).toNat
  | _ => 0
theorem numAt_row {w : World} {p T : Nat} {k : IntKind} {s : List Int} (h : w.heap[p]? = some (.cells (encK k s) T (0, 0))) : numAt w p = (numB 256 s).toNat := by
  unfold numAt
  rw [h]
  simp only [encK, List.map_map]
  congr 2
  rw [show (intOf ∘ Value.int k) = id from funext fun x => rfl, List.map_id]
theorem num17 (v : Int) (h0 : 0 ≤ v) (h1 : v < P2 + P2) : numB 256 (digB 256 17 v) = v := by
  rw [numB_digB (by decide), Int.emod_eq_of_lt h0 (Int.lt_trans h1 (by decide))]
theorem top17 (v : Int) (h0 : 0 ≤ v) (h1 : v < P2 + P2) : (digB 256 17 v).getD 16 0 = v / 340282366920938463463374607431768211456 := by
  have e : (256 : Int) ^ 16 = 340282366920938463463374607431768211456 := by decide
  have e2 : P2 = 1361129467683753853853498429727072845824 := rfl
  rw [digB_at (by decide) 17 v 16 (by decide), e]
  exact Int.emod_eq_of_lt (by omega) (by omega)
theorem low17 (v : Int) (h0 : 0 ≤ v) (h1 : v < P2 + P2) (h : P2 ≤ v) : (digB 256 17 v).set 16 ((digB 256 17 v).getD 16 0 - 4) = digB 256 17 (v - P2) := by
  have e : (256 : Int) ^ 16 = 340282366920938463463374607431768211456 := by decide
  have e2 : P2 = 1361129467683753853853498429727072845824 := rfl
  have ht := top17 v h0 h1
  have h2 := digB_numB (B := 256) (by decide) ((digB 256 17 v).set 16 ((digB 256 17 v).getD 16 0 - 4)) (ok_set (ok_digB (by decide) _ _) _ _ (by rw [ht]; omega) (by rw [ht]; omega))
  rw [List.length_set, length_digB, numB_set 256 _ 16 _ (by rw [length_digB]; decide), num17 v h0 h1, e] at h2
  rw [← h2]
  congr 1
  omega
theorem sub_mod (v : Int) : (v - PP) % PP = v % PP := by
  have h := Int.add_mul_emod_self_left (v - PP) PP 1
  rw [Int.mul_one, Int.sub_add_cancel] at h
  exact h.symm
set_option maxHeartbeats 1000000 in
set_option maxRecDepth 100000 in
theorem rfinal_any (V : Int) (w : World) (hV0 : 0 ≤ V) (hV1 : V < P2) :
    Calls Try.prog 39 #[.agg (encK .u32 (digB 256 17 V))] w fun e w' => e = .returned (.agg (encK .u32 (digB 256 17 (V % PP)))) ∧ w.grownBy w' none := by
  have e2 : P2 = 1361129467683753853853498429727072845824 := rfl
  have HVN := Lib.hid (num17 V hV0 (by omega))
  have HFV := Lib.hid (show foldN V 2 = V by
    have h : foldI V = V := by unfold foldI; rw [Int.emod_eq_of_lt hV0 hV1, Int.ediv_eq_zero_of_lt hV0 hV1]; omega
    show foldI (foldI V) = V
    rw [h, h])
  have HLO := Lib.hid (show lowL 400000000 (digB 256 17 V) from ⟨length_digB _ _ _, fun k => by have := ok_getD (B := 256) (by decide) (ok_digB (B := 256) (by decide) 17 V) k; omega⟩)
  have HVR := Lib.hid (show 0 ≤ V ∧ V < P2 from ⟨hV0, hV1⟩)
  clear hV0 hV1 e2
  go_enter Try.func39, Try.ntmps39
  obtain ⟨p, hp⟩ : ∃ p, w.heap.size = p := ⟨_, rfl⟩
  have HP := Lib.hid hp
  clear hp
  go_wp2_with (refine wpList_load_row rfl A17 (.tmp 1) rfl p (by simp [Act.eval, HP.out]) _ _ _ _ (by rw [← HP.out]; exact two_0 w (.cells (encK .u32 (digB 256 17 V)) A17 (0, 0)) _) Try.underlying68 rfl (by rw [size_encK, length_digB]; kernel_rfl) ?_)
  rw [HP.out]
  have r0 := two_0 w (.cells (encK .u32 (digB 256 17 V)) A17 (0, 0)) (.cells (encK .u32 (List.replicate 17 0)) A17 (0, 0))
  have r1 := two_1 w (.cells (encK .u32 (digB 256 17 V)) A17 (0, 0)) (.cells (encK .u32 (List.replicate 17 0)) A17 (0, 0))
  have hg := two_g w (.cells (encK .u32 (digB 256 17 V)) A17 (0, 0)) (.cells (encK .u32 (List.replicate 17 0)) A17 (0, 0))
  refine (squeeze_any _ _ HLO.out).mono ?_
  rintro e w1 ⟨rfl, hg1⟩
  rw [HVN.out, HFV.out]
  rw [HP.out] at r0 r1
  have R0 := Lib.hid (row_keep r0 hg1)
  have R1 := Lib.hid (row_keep r1 hg1)
  have HG := Lib.hid (grown_trans hg hg1)
  clear r0 r1 hg hg1 HFV HLO
  go_wp2_with (refine wpList_store_range rfl A17 (.tmp 1) (.tmp 7) rfl p 0 (encK .u32 (digB 256 17 V)) rfl rfl _ _ R0.out (by rw [Nat.zero_add]; exact Nat.le_refl _) (by rw [size_encK, length_digB]; kernel_rfl) (one_encK _ _) ?_)
  intro w2 r2 g2
  rw [putAt_all _ _ (by rw [Array.length_toList])] at r2
  have R0' : Hid (w2.heap[p]? = some (.cells (encK .u32 (digB 256 17 V)) A17 (0, 0))) := r2
  have R1' := Lib.hid ((g2.block _ (row_lt R1.out) (by intro e; injection e; omega)).trans R1.out)
  have HG2 := Lib.hid (grown_row HG.out g2 (fun j hj => by injection hj with hj; have := HP.out; omega))
  clear r2 g2 R0 R1 HG
  go_wp2_with fail
  go_loopw [3] (fun _ wr => ∃ v : Int, wr.heap[p]? = some (.cells (encK .u32 (digB 256 17 v)) A17 (0, 0)) ∧ wr.heap[p + 1]? = some (.cells (encK .u32 (List.replicate 17 0)) A17 (0, 0)) ∧ Hid (0 ≤ v ∧ v < P2 ∧ v % PP = V % PP) ∧ w.grownBy wr none) (fun _ wr => numAt wr p)
  case atStart => exact ⟨V, R0'.out, R1'.out, ⟨HVR.out.1, HVR.out.2, rfl⟩, HG2.out⟩
  case round =>
    obtain ⟨v, r0, r1, HV, hg⟩ := hrel
    clear R0' R1' HG2
    have R0 := Lib.hid r0
    have R1 := Lib.hid r1
    have HG := Lib.hid hg
    clear r0 r1 hg
    obtain ⟨s, hs⟩ : ∃ s, wr.heap.size = s := ⟨_, rfl⟩
    have HS := Lib.hid hs
    have HPS := Lib.hid (show p + 1 < s by rw [← hs]; exact row_lt R1.out)
    clear hs
    have e2 : P2 = 1361129467683753853853498429727072845824 := rfl
    have ep : PP = 1361129467683753853853498429727072845819 := rfl
    have hv := HV.out
    have hvn := num17 v hv.1 (by omega)
    have hv5 := num17 (v + 5) (by omega) (by omega)
    have ht5 := top17 (v + 5) (by omega) (by omega)
    obtain ⟨d, hd⟩ : ∃ d, d = (digB 256 17 v).getD 0 0 := ⟨_, rfl⟩
    have hd0 := ok_getD (B := 256) (by decide) (ok_digB (B := 256) (by decide) 17 v) 0
    rw [← hd] at hd0
    obtain ⟨Z, hZ⟩ : ∃ Z, Z = (digB 256 17 v).set 0 (d + 5) := ⟨_, rfl⟩
    have hZl : Z.length = 17 := by rw [hZ, List.length_set, length_digB]
    have hZb : ∀ k, 0 ≤ Z.getD k 0 ∧ Z.getD k 0 ≤ 400 := fun k => by
      rw [hZ, getD_set _ 0 k _ (by rw [length_digB]; decide)]
      split
      · omega
      · have := ok_getD (B := 256) (by decide) (ok_digB (B := 256) (by decide) 17 v) k; omega
    have hZn : numB 256 Z = v + 5 := by
      rw [hZ, numB_set 256 _ 0 _ (by rw [length_digB]; decide), hvn, ← hd]; simp; omega
    have HD := Lib.hid hd
    have HZ := Lib.hid hZ
    have HZL := Lib.hid hZl
    have HZB := Lib.hid hZb
    have HZN := Lib.hid hZn
    have HT5 := Lib.hid ht5
    clear hd hZ hZl hZb hZn ht5 hv5 hvn hv e2 ep
    go_wp2_with (first | (refine wpList_load_row rfl A17 (.tmp 1) rfl p rfl _ _ _ _ R0.out Try.underlying68 rfl (by rw [size_encK, length_digB]; kernel_rfl) ?_) | (refine wpList_store_range rfl A17 (.tmp 3) (.tmp 8) rfl s 0 (encK .u32 (digB 256 17 v)) (by simp [Act.eval, HS.out]) rfl _ (encK .u32 (List.replicate 17 0)) (alloc_at _ _ HS.out.symm) (by rw [size_encK, size_encK, length_digB]; decide) (by rw [size_encK, length_digB]; kernel_rfl) (one_encK _ _) ?_))
    rw [HS.out]
    intro w3 r3 g3
    rw [putAt_all _ _ (by rw [Array.length_toList, size_encK, size_encK, length_digB]; rfl)] at r3
    have r3' : w3.heap[s]? = some (.cells (encK .u32 (digB 256 17 v)) A17 (0, 0)) := r3
    have e0 := rowK_at r3' 0 (by rw [length_digB]; decide)
    rw [← HD.out] at e0
    have RT := Lib.hid r3'
    have R0' := Lib.hid ((g3.block _ (by have := HPS.out; have := HS.out; rw [alloc_size]; omega) (by intro e; injection e with e; have := HPS.out; omega)).trans ((alloc_up _ _ (row_lt R0.out)).trans R0.out))
    have R1' := Lib.hid ((g3.block _ (by have := HPS.out; have := HS.out; rw [alloc_size]; omega) (by intro e; injection e with e; have := HPS.out; omega)).trans ((alloc_up _ _ (row_lt R1.out)).trans R1.out))
    have HG3 := Lib.hid (grown_row (grown_alloc HG.out _) g3 (fun j hj => by injection hj with hj; have := HP.out; have := HPS.out; omega))
    clear r3 r3' g3 R1 HG
    go_wp2_with (refine wpList_store_cell rfl _ (.tmp 12) (.tmp 11) rfl s 0 _ rfl rfl _ _ RT.out (by rw [size_encK, length_digB]; decide) (by kernel_rfl) rfl rfl ?_)
    intro w4 r4 g4
    have r4' := rowK_set r4
    rw [← HZ.out] at r4'
    have RT' := Lib.hid r4'
    have R0s := Lib.hid ((g4.block _ (row_lt R0'.out) (by intro e; injection e with e; have := HPS.out; omega)).trans R0'.out)
    have R1 := Lib.hid ((g4.block _ (row_lt R1'.out) (by intro e; injection e with e; have := HPS.out; omega)).trans R1'.out)
    have HG4 := Lib.hid (grown_row HG3.out g4 (fun j hj => by injection hj with hj; have := HP.out; have := HPS.out; omega))
    clear r4 r4' g4 e0 RT R0' R1' HG3 hd0
    go_wp2_with fail
    go_loopw [5, 4] (fun v_ c_ wr' => ∃ k : Nat, k ≤ 17 ∧ v_ = .int .i64 k ∧ c_ = .int .u32 (carry 256 Z z17 k) ∧ wr'.heap[s]? = some (.cells (encK .u32 (sums 256 Z z17 k ++ Z.drop k)) A17 (0, 0)) ∧ wr'.heap[p]? = some (.cells (encK .u32 (digB 256 17 v)) A17 (0, 0)) ∧ wr'.heap[p + 1]? = some (.cells (encK .u32 (List.replicate 17 0)) A17 (0, 0)) ∧ w.grownBy wr' none) (fun v _ _ => 17 - (intOf v).toNat)
    case atStart => exact ⟨0, by omega, rfl, rfl, RT'.out, R0s.out, R1.out, HG4.out⟩
    case round =>
      clear RT' R0s R1 HG4
      obtain ⟨k, hk, rfl, rfl, r0, r1, r2, hg⟩ := hrel
      have RT := Lib.hid r0
      have R0' := Lib.hid r1
      have R1 := Lib.hid r2
      have HG := Lib.hid hg
      clear r0 r1 r2 hg
      by_cases hlt : k < 17
      · have hk0 : 0 ≤ (k : Int) := by omega
        have hk16 : (k : Int) < 17 := by omega
        have e1 := rowK_at RT.out k (by rw [List.length_append, length_sums, List.length_drop, HZL.out]; omega)
        rw [getD_app_drop _ Z k (length_sums _ _ _ _) (by rw [HZL.out]; omega)] at e1
        obtain ⟨z, hz⟩ : ∃ z, z = Z.getD k 0 := ⟨_, rfl⟩
        obtain ⟨c, hc⟩ : ∃ c, c = carry 256 Z z17 k := ⟨_, rfl⟩
        have hz0 := HZB.out k
        have hc0 := carry_low (M := 400) (by decide) HZB.out k
        rw [← hz] at e1 hz0
        rw [← hc] at hc0 ⊢
        have HSS := Lib.hid (show bits .and .u32 (c + z) 255 = sumAt 256 Z z17 k by rw [u32_and255 _ (by omega) (by omega), sumAt, z17_getD, ← hz, ← hc]; congr 1; omega)
        have HC := Lib.hid (show (c + z) / 256 = carry 256 Z z17 (k + 1) by rw [carry, z17_getD, ← hz, ← hc]; congr 1; omega)
        have hcz : 0 ≤ c + z ∧ c + z ≤ 4294967295 := by omega
        clear hz hc hz0 hc0
        go_wp2_with (refine wpList_store_cell rfl _ (.tmp 25) (.tmp 24) rfl s k _ rfl rfl _ _ RT.out (by rw [size_encK, List.length_append, length_sums, List.length_drop, HZL.out]; omega) (by kernel_rfl) rfl rfl ?_)
        intro w5 r5 g5
        rw [HSS.out] at r5
        have r6 := rowK_set r5
        rw [sums_set 256 Z z17 Z k (by rw [HZL.out]; omega)] at r6
        have RT' := Lib.hid r6
        have R0s := Lib.hid ((g5.block _ (row_lt R0'.out) (by intro e; injection e with e; have := HPS.out; omega)).trans R0'.out)
        have R1' := Lib.hid ((g5.block _ (row_lt R1.out) (by intro e; injection e with e; have := HPS.out; omega)).trans R1.out)
        have HG' := Lib.hid (grown_row HG.out g5 (fun j hj => by injection hj with hj; have := HP.out; have := HPS.out; omega))
        clear r5 r6 g5 RT R0' R1 HG e1
        go_wp2_with fail
        exact ⟨⟨k + 1, by omega, by go_num, by rw [← HC.out], RT'.out, R0s.out, R1'.out, HG'.out⟩, by simp [intOf]; omega⟩
      · have : k = 17 := by omega
        subst this
        have R5 := RT.out
        rw [List.drop_of_length_le (by rw [HZL.out]; decide), List.append_nil, (sums_eq (B := 256) (by decide) HZL.out (show z17.length = 17 from List.length_replicate ..)).1, show numB 256 z17 = 0 from numB_rep0 256 17, Int.add_zero, HZN.out] at R5
        have RT' := Lib.hid R5
        have e1 := rowK_at R5 16 (by rw [length_digB]; decide)
        have hv := HV.out
        have e2 : P2 = 1361129467683753853853498429727072845824 := rfl
        have ep : PP = 1361129467683753853853498429727072845819 := rfl
        have HLW := Lib.hid (fun h : P2 ≤ v + 5 => low17 (v + 5) (by omega) (by omega) h)
        have ht := HT5.out
        obtain ⟨t, htt⟩ : ∃ t, t = (digB 256 17 (v + 5)).getD 16 0 := ⟨_, rfl⟩
        rw [← htt] at e1 ht HLW
        clear R5 RT HZL HZB HZN HZ HD HT5
        by_cases hlow : v + 5 < P2
        · have h4 : t < 4 := by rw [ht]; omega
          have hfin : digB 256 17 v = digB 256 17 (V % PP) := by rw [← hv.2.2, Int.emod_eq_of_lt hv.1 (by omega)]
          have r0 := R0'.out
          rw [hfin] at r0
          have RF := Lib.hid r0
          clear htt ht hlow hv e2 ep hfin r0 HLW
          go_wp2_with (first | (refine wpList_load_row rfl A17 (.tmp 1) rfl (p) rfl _ _ _ _ RF.out Try.underlying68 rfl (by rw [size_encK, length_digB]; kernel_rfl) ?_) | (refine wpList_store_range rfl A17 (.tmp 2) (.tmp 31) rfl (p + 1) 0 (encK .u32 (digB 256 17 (V % PP))) rfl rfl _ _ R1.out (by rw [size_encK, size_encK, length_digB]; decide) (by rw [size_encK, length_digB]; kernel_rfl) (one_encK _ _) ?_))
          intro w8 r8 g8
          rw [putAt_all _ _ (by rw [Array.length_toList, size_encK, size_encK, length_digB]; rfl)] at r8
          have R9 : Hid (w8.heap[p + 1]? = some (.cells (encK .u32 (digB 256 17 (V % PP))) A17 (0, 0))) := r8
          have HG9 : Hid (w.grownBy w8 none) := grown_row HG.out g8 (fun k hk => by injection hk with hk; have := HP.out; omega)
          clear r8 g8
          go_wp2_with fail
          exact bodyPost_ret (results_cell_row rfl _ _ (p + 1) _ _ _ _ rfl R9.out Try.underlying68 rfl (by rw [size_encK, length_digB]; kernel_rfl)) rfl ⟨rfl, HG9.out⟩
        · have h4 : ¬ t < 4 := by rw [ht]; omega
          have h40 : 4 ≤ t := by omega
          have h41 : t ≤ 8 := by rw [ht]; omega
          have hlw := HLW.out (by omega)
          have hnew : v + 5 - P2 = v - PP := by omega
          have HNV := Lib.hid (show 0 ≤ v - PP ∧ v - PP < P2 ∧ (v - PP) % PP = V % PP from ⟨by omega, by omega, (sub_mod v).trans hv.2.2⟩)
          have HMS := Lib.hid (show (v - PP).toNat < v.toNat by omega)
          rw [hnew] at hlw
          have HLW2 := Lib.hid hlw
          have hn1 := num17 v hv.1 (by omega)
          have hn2 := num17 (v - PP) HNV.out.1 (by omega)
          have HN1 := Lib.hid hn1
          have HN2 := Lib.hid hn2
          clear htt ht hlow hv e2 ep hnew hlw HLW hn1 hn2
          go_wp2_with (refine wpList_store_cell rfl _ (.tmp 35) (.tmp 34) rfl s 16 _ rfl rfl _ _ RT'.out (by rw [size_encK, length_digB]; decide) (by kernel_rfl) rfl rfl ?_)
          intro w5 r5 g5
          have r6 := rowK_set r5
          rw [HLW2.out] at r6
          have RT := Lib.hid r6
          have R0s := Lib.hid ((g5.block _ (row_lt R0'.out) (by intro e; injection e with e; have := HPS.out; omega)).trans R0'.out)
          have R1' := Lib.hid ((g5.block _ (row_lt R1.out) (by intro e; injection e with e; have := HPS.out; omega)).trans R1.out)
          have HG' := Lib.hid (grown_row HG.out g5 (fun j hj => by injection hj with hj; have := HP.out; have := HPS.out; omega))
          clear r5 r6 g5 RT' R0' R1 HG e1 h40 h41
          go_wp2_with (first | (refine wpList_load_row rfl A17 (.tmp 3) rfl s rfl _ _ _ _ RT.out Try.underlying68 rfl (by rw [size_encK, length_digB]; kernel_rfl) ?_) | (refine wpList_store_range rfl A17 (.tmp 1) (.tmp 36) rfl p 0 (encK .u32 (digB 256 17 (v - PP))) rfl rfl _ _ R0s.out (by rw [size_encK, size_encK, length_digB, length_digB]; decide) (by rw [size_encK, length_digB]; kernel_rfl) (one_encK _ _) ?_))
          intro w6 r7 g7
          rw [putAt_all _ _ (by rw [Array.length_toList, size_encK, size_encK, length_digB, length_digB])] at r7
          have RN : Hid (w6.heap[p]? = some (.cells (encK .u32 (digB 256 17 (v - PP))) A17 (0, 0))) := r7
          have R1 := Lib.hid ((g7.block _ (row_lt R1'.out) (by intro e; injection e; omega)).trans R1'.out)
          have HG := Lib.hid (grown_row HG'.out g7 (fun j hj => by injection hj with hj; have := HP.out; omega))
          clear r7 g7 R0s R1' HG' RT
          have hm1 := numAt_row R0.out
          have hm2 := numAt_row RN.out
          rw [HN1.out] at hm1
          rw [HN2.out] at hm2
          have HM1 := Lib.hid hm1
          have HM2 := Lib.hid hm2
          clear hm1 hm2
          go_wp2_with fail
          exact ⟨⟨v - PP, RN.out, R1.out, HNV.out, HG.out⟩, by rw [HM1.out, HM2.out]; exact HMS.out⟩
end Go.Proofs.Ythhijeokeljcjaa
