/- ScalarEdges, walked. -/
import Derived.Test.YtcfgobpjhppebaaScaQ
namespace Go.Proofs.Ytcfgobpjhppebaa
set_option linter.unusedVariables false
set_option linter.unusedSimpArgs false
open Go.RowKit Go.Proofs.YtcfgobpjhppebaaL

abbrev A33' : Nat := 30
def ord33 : List Int := ordB ++ [0]
theorem take_ord33 : ord33.take 32 = ordB := rfl
/-- What is carried when a number beside the order is laid out. -/
def edgeC (c : Int) (k : Nat) : Int := (c + numB 256 (ordB.take k)) / 256 ^ k
theorem edge_step (c : Int) (k : Nat) (hk : k < 32) : (edgeC c k + ordB.getD k 0) % 256 = (c + ordL) / 256 ^ k % 256 ∧ edgeC c (k + 1) = (edgeC c k + ordB.getD k 0) / 256 := by
  have hl : k < ordB.length := hk
  have hp : (0 : Int) < 256 ^ k := Int.pow_pos (by decide)
  have h1 : numB 256 ordB = numB 256 (ordB.take k) + 256 ^ k * (ordB.getD k 0 + 256 * numB 256 (ordB.drop (k + 1))) := by
    have h := numB_append 256 (ordB.take (k + 1)) (ordB.drop (k + 1))
    rw [List.take_append_drop, List.length_take, Nat.min_eq_left (by omega), numB_next 256 ordB k hl, Int.pow_succ, Int.mul_assoc] at h
    rw [Int.mul_add]; omega
  rw [ordB_num] at h1
  have h2 : (c + ordL) / 256 ^ k = edgeC c k + (ordB.getD k 0 + 256 * numB 256 (ordB.drop (k + 1))) := by
    rw [h1, ← Int.add_assoc, Int.add_mul_ediv_left _ _ (by omega)]; rfl
  constructor
  · rw [h2, ← Int.add_assoc, Int.add_mul_emod_self_left]
  · have h3 : edgeC c k + ordB.getD k 0 = (c + numB 256 (ordB.take (k + 1))) / 256 ^ k := by
      rw [numB_next 256 ordB k hl, ← Int.add_assoc, Int.add_mul_ediv_left _ _ (by omega)]; rfl
    rw [h3, edgeC, Int.ediv_ediv_of_nonneg (by omega), ← Int.pow_succ]
theorem edge_low (c : Int) (h0 : -128 ≤ c) (h1 : c ≤ 127) : ∀ k, k ≤ 32 → -128 ≤ edgeC c k ∧ edgeC c k ≤ 127
  | 0, _ => by simp [edgeC, numB]; omega
  | k + 1, hk => by
    have ih := edge_low c h0 h1 k (by omega)
    have ho := ok_getD (B := 256) (by decide) ordB_ok k
    rw [(edge_step c k (by omega)).2]
    omega
set_option maxHeartbeats 4000000 in
set_option maxRecDepth 100000 in
theorem edges_walk (n k_ : Int) (w : World) (hn0 : 0 ≤ n) (hn1 : n < 256) (hk0 : 0 ≤ k_) (hk1 : k_ < 256) :
    Calls Try.prog 4 #[.int .u8 n, .int .u8 k_] w fun e w' => e = .returned (.bool true) ∧ w.grownBy w' none := by
  go_enter Try.func4, Try.ntmps4
  go_wp2_with fail
  refine (known_any _).mono ?_
  rintro e w1 ⟨rfl, hg1⟩
  have HG1 := Lib.hid hg1
  clear hg1
  obtain ⟨p, hp⟩ : ∃ p, w1.heap.size = p := ⟨_, rfl⟩
  have HP := Lib.hid hp
  clear hp
  go_wp2_with (refine wpList_store_range rfl A33' (.tmp 5) (.tmp 12) rfl p 0 (encK .u8 ord33) (by simp [Act.eval, HP.out]) rfl _ (encK .u8 (List.replicate 33 0)) (alloc_at _ _ HP.out.symm) (by decide) (by kernel_rfl) (one_encK _ _) ?_)
  rw [HP.out]
  intro w2 r2 g2
  rw [putAt_all _ _ (by rfl)] at r2
  have R0 : Hid (w2.heap[p]? = some (.cells (encK .u8 ord33) A33' (0, 0))) := r2
  have HG2 := Lib.hid (grown_row (grown_alloc HG1.out _) g2 (fun j hj => by injection hj with hj; have := HP.out; have := HG1.out.size; omega))
  have HWP := Lib.hid (show w.heap.size ≤ p by rw [← HP.out]; exact HG1.out.size)
  clear r2 g2 HG1
  obtain ⟨q, hq⟩ : ∃ q, w2.heap.size = q := ⟨_, rfl⟩
  have HQ := Lib.hid hq
  have HPQ := Lib.hid (show p < q by rw [← hq]; exact row_lt R0.out)
  clear hq
  obtain ⟨c, hc⟩ : ∃ c, c = n - 128 := ⟨_, rfl⟩
  have hcb : -128 ≤ c ∧ c ≤ 127 := by omega
  have HCN := Lib.hid hc
  clear hc
  go_wp2_with fail
  rw [HQ.out]
  go_loopw [8, 6] (fun v c_ wr => ∃ k : Nat, k ≤ 32 ∧ v = .int .i64 k ∧ c_ = .int .i64 (edgeC c k) ∧ wr.heap[p]? = some (.cells (encK .u8 ord33) A33' (0, 0)) ∧
    wr.heap[q]? = some (.cells (encK .u8 (digB 256 k (c + ordL) ++ List.replicate (32 - k) 0)) A32 (0, 0)) ∧ w.grownBy wr none) (fun v _ _ => 32 - (intOf v).toNat)
  case atStart =>
    refine ⟨0, by omega, rfl, by simp [edgeC, numB]; have := HCN.out; omega, (alloc_up _ _ (row_lt R0.out)).trans R0.out, alloc_at _ _ HQ.out.symm, grown_alloc HG2.out _⟩
  case round =>
    obtain ⟨k, hk, rfl, rfl, r0, r1, hg⟩ := hrel
    clear R0 HG2
    have R0 := Lib.hid r0
    have R1 := Lib.hid r1
    have HG := Lib.hid hg
    clear r0 r1 hg
    by_cases hlt : k < 32
    · have hk0' : (0 : Int) ≤ (k : Int) := by omega
      have hk32 : (k : Int) < 32 := by omega
      have hk33 : (k : Int) < 33 := by omega
      have e1 := rowK_at R0.out k (show k < 33 by omega)
      rw [show ord33.getD k 0 = ordB.getD k 0 by rw [List.getD_eq_getElem?_getD, List.getD_eq_getElem?_getD]; unfold ord33; rw [List.getElem?_append_left (show k < 32 by omega)]] at e1
      obtain ⟨y, hy⟩ : ∃ y, y = ordB.getD k 0 := ⟨_, rfl⟩
      obtain ⟨d, hd⟩ : ∃ d, d = edgeC c k := ⟨_, rfl⟩
      have hy0 := ok_getD (B := 256) (by decide) ordB_ok k
      have hd0 := edge_low c (by omega) (by omega) k hk
      have hst := edge_step c k hlt
      rw [← hy] at e1 hy0 hst
      rw [← hd] at hd0 hst ⊢
      have HST := Lib.hid hst
      clear hy hd hst
      go_wp2_with (refine wpList_store_cell rfl _ (.tmp 29) (.tmp 28) rfl q k _ rfl rfl _ _ R1.out (by rw [size_encK, List.length_append, length_digB, List.length_replicate]; omega) (by kernel_rfl) rfl rfl ?_)
      intro w5 r5 g5
      rw [HST.out.1] at r5
      have r6 := rowK_set r5
      rw [digB_set 256 (by decide) k 32 (c + ordL) hlt] at r6
      have R0' := Lib.hid ((g5.block _ (row_lt R0.out) (by intro e; injection e with e; have := HPQ.out; omega)).trans R0.out)
      have R1' := Lib.hid r6
      have HG' := Lib.hid (grown_row HG.out g5 (fun j hj => by injection hj with hj; have := HWP.out; have := HPQ.out; omega))
      have HC' := Lib.hid HST.out.2
      clear r5 g5 r6 R0 R1 HG e1
      go_wp2_with fail
      exact ⟨⟨k + 1, by omega, by go_num, by rw [HC'.out], R0'.out, R1'.out, HG'.out⟩, by simp [intOf]; omega⟩
    · have : k = 32 := by omega
      subst this
      go_wp2_with fail
      have R5 := R1.out
      rw [show digB 256 32 (c + ordL) ++ List.replicate (32 - 32) 0 = digB 256 32 (c + ordL) by simp] at R5
      obtain ⟨a, ha⟩ : ∃ a, a = digB 256 32 (c + ordL) := ⟨_, rfl⟩
      rw [← ha] at R5
      have HA := Lib.hid (show a.length = 32 by rw [ha, length_digB])
      have HOA := Lib.hid (show okB 256 a by rw [ha]; exact ok_digB (by decide) _ _)
      have HAN := Lib.hid (show numB 256 a = c + ordL by
        rw [ha, numB_digB (by decide), Int.emod_eq_of_lt]
        · have : (128 : Int) ≤ ordL := by decide
          omega
        · have : (127 : Int) + ordL < 256 ^ 32 := by decide
          omega)
      have RA0 := Lib.hid R5
      clear ha R5 R0 R1
      refine (rreduce_any _ 32 32 a _ (HA.out ▸ rd_row RA0.out) HOA.out (by decide) (by decide)).mono ?_
      rintro e w3 ⟨rfl, hg3⟩
      rw [List.take_of_length_le (by rw [HA.out]; decide), HAN.out]
      obtain ⟨S, hS⟩ : ∃ S, S = digB 256 32 ((c + ordL) % ordL) := ⟨_, rfl⟩
      rw [← hS]
      have HSL := Lib.hid (show S.length = 32 by rw [hS, length_digB])
      have HSO := Lib.hid (show okB 256 S by rw [hS]; exact ok_digB (by decide) _ _)
      have HSN := Lib.hid (show numB 256 S = (c + ordL) % ordL by rw [hS, numL _ (modL _).1 (modL _).2])
      have HS := Lib.hid hS
      have RA1 := Lib.hid (row_keep RA0.out hg3)
      have HG3 := Lib.hid (grown_trans HG.out hg3)
      clear hS hg3 RA0 HG
      obtain ⟨s, hs⟩ : ∃ s, w3.heap.size = s := ⟨_, rfl⟩
      have HS' := Lib.hid hs
      have HQS := Lib.hid (show q < s by rw [← hs]; exact row_lt RA1.out)
      clear hs
      go_wp2_with (refine wpList_store_range rfl A32 (.tmp 9) (.tmp 33) rfl s 0 (encK .u8 S) (by simp [Act.eval, HS'.out]) rfl _ (encK .u8 (List.replicate 32 0)) (alloc_at _ _ HS'.out.symm) (by rw [size_encK, size_encK, HSL.out]; decide) (by rw [size_encK, HSL.out]; kernel_rfl) (one_encK _ _) ?_)
      rw [HS'.out]
      intro w4 r4 g4
      rw [putAt_all _ _ (by rw [Array.length_toList, size_encK, size_encK, HSL.out]; rfl)] at r4
      have RC0 : Hid (w4.heap[s]? = some (.cells (encK .u8 S) A32 (0, 0))) := r4
      have RA0 := Lib.hid ((g4.block _ (by have := HQS.out; have := HS'.out; rw [alloc_size]; omega) (by intro e; injection e with e; have := HQS.out; omega)).trans ((alloc_up _ _ (row_lt RA1.out)).trans RA1.out))
      have HG4 := Lib.hid (grown_row (grown_alloc HG3.out _) g4 (fun j hj => by injection hj with hj; have := HWP.out; have := HPQ.out; have := HQS.out; omega))
      clear r4 g4 RA1 HG3
      go_wp2_with fail
      refine wp_region_grow [(2, 0), (1, 2), (0, 1), (2, 3), (2, 4), (1, 5), (2, 7), (2, 8), (0, 6), (2, 9), (2, 10), (2, 11), (1, 12), (2, 13), (2, 14), (1, 16), (2, 17), (2, 18), (0, 15), (0, 19), (2, 20), (2, 21), (2, 22), (1, 23), (2, 24), (1, 26), (0, 25), (2, 27), (2, 28), (2, 29)] (by kernel_rfl) (by kernel_rfl) (fun _ _ _ _ _ h => h) (fun _ _ _ _ _ h => h) ?_
      refine gSeq_name fun w5 hw5 => ?_
      have g5 : w4.grownBy w5 none := by rw [hw5]; exact grown_drew _ _
      have RA := Lib.hid (row_keep RA0.out g5)
      have RC := Lib.hid (row_keep RC0.out g5)
      have HG := Lib.hid (grown_trans HG4.out g5)
      have G := Lib.hid (grown_refl w5 none)
      clear RA0 RC0 HG4 g5 hw5
      (repeat (first | (refine gSeq_skip rfl (by rfl) ?_; (try simp only [Act.put, Act.eval, List.setIfInBounds_toArray, List.set_cons_zero, List.set_cons_succ, Array.getD_eq_getD_getElem?, List.getElem?_toArray, List.getElem?_cons_succ, List.getElem?_cons_zero, Option.getD_some])) | (refine gSeq_move _ rfl rfl (by rfl) ?_; (try simp only [Act.put, Act.eval, List.setIfInBounds_toArray, List.set_cons_zero, List.set_cons_succ, Array.getD_eq_getD_getElem?, List.getElem?_toArray, List.getElem?_cons_succ, List.getElem?_cons_zero, Option.getD_some])) | (refine gSeq_assign _ rfl rfl (by rfl) ?_; (try simp only [Act.put, Act.eval, List.setIfInBounds_toArray, List.set_cons_zero, List.set_cons_succ, Array.getD_eq_getD_getElem?, List.getElem?_toArray, List.getElem?_cons_succ, List.getElem?_cons_zero, Option.getD_some])) | ((first | (refine gSeq_row rfl (by rfl) 22 _ rfl _ rfl _ _ _ _ (row_keep RC.out G.out) Try.underlying22 rfl (by rw [size_encK, HSL.out]; kernel_rfl) ?_; (try simp only [Act.put, Act.eval, List.setIfInBounds_toArray, List.set_cons_zero, List.set_cons_succ, Array.getD_eq_getD_getElem?, List.getElem?_toArray, List.getElem?_cons_succ, List.getElem?_cons_zero, Option.getD_some])) | (refine gSeq_slice rfl (by rfl) _ _ _ _ rfl _ rfl _ _ rfl rfl _ (sliceAt_all _ 32 5 Try.underlying22 rfl q 0) ?_; (try simp only [Act.put, Act.eval, List.setIfInBounds_toArray, List.set_cons_zero, List.set_cons_succ, Array.getD_eq_getD_getElem?, List.getElem?_toArray, List.getElem?_cons_succ, List.getElem?_cons_zero, Option.getD_some])))) | (refine gSeq_pure rfl (by rfl) ?_ ?_ ?_; (rotate_left; (intro w'; (skip); go_simp; (first | done | with_reducible rfl)); (try simp only [Act.put, Act.eval, List.setIfInBounds_toArray, List.set_cons_zero, List.set_cons_succ, Array.getD_eq_getD_getElem?, List.getElem?_toArray, List.getElem?_cons_succ, List.getElem?_cons_zero, Option.getD_some]))) | (refine gSeq_still rfl (by rfl) ?_ ?_ ?_; (rotate_left; (intro w' hG; (skip); go_simp; (first | done | with_reducible rfl)); (try simp only [Act.put, Act.eval, List.setIfInBounds_toArray, List.set_cons_zero, List.set_cons_succ, Array.getD_eq_getD_getElem?, List.getElem?_toArray, List.getElem?_cons_succ, List.getElem?_cons_zero, Option.getD_some])))))
      (refine gSeq_do rfl (by rfl) (fun K hK => ?_)); go_simp
      refine (reduce_any _ 32 32 a _ (HA.out ▸ rd_row (row_keep RA.out G.out)) HOA.out (by decide)).mono ?_
      rintro e w6 ⟨rfl, hg6⟩
      rw [List.take_of_length_le (by rw [HA.out]; decide), HAN.out, ← HS.out]
      refine hK _ _ hg6 ?_; clear hK K; (try simp only [Act.put, Act.eval, List.setIfInBounds_toArray, List.set_cons_zero, List.set_cons_succ, Array.getD_eq_getD_getElem?, List.getElem?_toArray, List.getElem?_cons_succ, List.getElem?_cons_zero, Option.getD_some])
      have G' := Lib.hid (grown_trans G.out hg6); have G := G'; have HG' := Lib.hid (grown_trans HG.out hg6); have HG := HG'; clear hg6 G' HG'
      (repeat (first | (refine gSeq_skip rfl (by rfl) ?_; (try simp only [Act.put, Act.eval, List.setIfInBounds_toArray, List.set_cons_zero, List.set_cons_succ, Array.getD_eq_getD_getElem?, List.getElem?_toArray, List.getElem?_cons_succ, List.getElem?_cons_zero, Option.getD_some])) | (refine gSeq_move _ rfl rfl (by rfl) ?_; (try simp only [Act.put, Act.eval, List.setIfInBounds_toArray, List.set_cons_zero, List.set_cons_succ, Array.getD_eq_getD_getElem?, List.getElem?_toArray, List.getElem?_cons_succ, List.getElem?_cons_zero, Option.getD_some])) | (refine gSeq_assign _ rfl rfl (by rfl) ?_; (try simp only [Act.put, Act.eval, List.setIfInBounds_toArray, List.set_cons_zero, List.set_cons_succ, Array.getD_eq_getD_getElem?, List.getElem?_toArray, List.getElem?_cons_succ, List.getElem?_cons_zero, Option.getD_some])) | ((first | (refine gSeq_row rfl (by rfl) 22 _ rfl _ rfl _ _ _ _ (row_keep RA.out G.out) Try.underlying22 rfl (by rw [size_encK, HA.out]; kernel_rfl) ?_; (try simp only [Act.put, Act.eval, List.setIfInBounds_toArray, List.set_cons_zero, List.set_cons_succ, Array.getD_eq_getD_getElem?, List.getElem?_toArray, List.getElem?_cons_succ, List.getElem?_cons_zero, Option.getD_some])) | (refine gSeq_eql rfl (by rfl) 22 _ _ _ rfl _ _ _ Try.underlying22 Try.underlying5 (by kernel_rfl) (by kernel_rfl) S S rfl rfl HSL.out HSL.out true (by simp) ?_; (try simp only [Act.put, Act.eval, List.setIfInBounds_toArray, List.set_cons_zero, List.set_cons_succ, Array.getD_eq_getD_getElem?, List.getElem?_toArray, List.getElem?_cons_succ, List.getElem?_cons_zero, Option.getD_some])))) | (refine gSeq_pure rfl (by rfl) ?_ ?_ ?_; (rotate_left; (intro w'; (skip); go_simp; (first | done | with_reducible rfl)); (try simp only [Act.put, Act.eval, List.setIfInBounds_toArray, List.set_cons_zero, List.set_cons_succ, Array.getD_eq_getD_getElem?, List.getElem?_toArray, List.getElem?_cons_succ, List.getElem?_cons_zero, Option.getD_some]))) | (refine gSeq_still rfl (by rfl) ?_ ?_ ?_; (rotate_left; (intro w' hG; (skip); go_simp; (first | done | with_reducible rfl)); (try simp only [Act.put, Act.eval, List.setIfInBounds_toArray, List.set_cons_zero, List.set_cons_succ, Array.getD_eq_getD_getElem?, List.getElem?_toArray, List.getElem?_cons_succ, List.getElem?_cons_zero, Option.getD_some])))))
      (refine gSeq_do rfl (by rfl) (fun K hK => ?_)); go_simp
      refine (canon_any a _ HA.out HOA.out).mono ?_
      rintro e w7 ⟨rfl, hg7⟩
      refine hK _ _ hg7 ?_; clear hK K; (try simp only [Act.put, Act.eval, List.setIfInBounds_toArray, List.set_cons_zero, List.set_cons_succ, Array.getD_eq_getD_getElem?, List.getElem?_toArray, List.getElem?_cons_succ, List.getElem?_cons_zero, Option.getD_some])
      have G' := Lib.hid (grown_trans G.out hg7); have G := G'; have HG' := Lib.hid (grown_trans HG.out hg7); have HG := HG'; clear hg7 G' HG'
      have hcan : decide (numB 256 a < ordL) = decide (n < 128) := by
        have h1 := HAN.out
        have h2 := HCN.out
        by_cases h : n < 128
        · rw [decide_eq_true h, decide_eq_true (by omega)]
        · rw [decide_eq_false h, decide_eq_false (by omega)]
      rw [hcan]
      obtain ⟨t, ht⟩ : ∃ t, t = decide (n < 128) := ⟨_, rfl⟩
      rw [← ht]
      clear ht hcan
      (repeat (first | (refine gSeq_skip rfl (by rfl) ?_; (try simp only [Act.put, Act.eval, List.setIfInBounds_toArray, List.set_cons_zero, List.set_cons_succ, Array.getD_eq_getD_getElem?, List.getElem?_toArray, List.getElem?_cons_succ, List.getElem?_cons_zero, Option.getD_some])) | (refine gSeq_move _ rfl rfl (by rfl) ?_; (try simp only [Act.put, Act.eval, List.setIfInBounds_toArray, List.set_cons_zero, List.set_cons_succ, Array.getD_eq_getD_getElem?, List.getElem?_toArray, List.getElem?_cons_succ, List.getElem?_cons_zero, Option.getD_some])) | (refine gSeq_assign _ rfl rfl (by rfl) ?_; (try simp only [Act.put, Act.eval, List.setIfInBounds_toArray, List.set_cons_zero, List.set_cons_succ, Array.getD_eq_getD_getElem?, List.getElem?_toArray, List.getElem?_cons_succ, List.getElem?_cons_zero, Option.getD_some])) | ((first | (refine gSeq_row rfl (by rfl) 22 _ rfl _ rfl _ _ _ _ (row_keep RA.out G.out) Try.underlying22 rfl (by rw [size_encK, HA.out]; kernel_rfl) ?_; (try simp only [Act.put, Act.eval, List.setIfInBounds_toArray, List.set_cons_zero, List.set_cons_succ, Array.getD_eq_getD_getElem?, List.getElem?_toArray, List.getElem?_cons_succ, List.getElem?_cons_zero, Option.getD_some])) | (refine gSeq_row rfl (by rfl) 22 _ rfl _ rfl _ _ _ _ (row_keep RC.out G.out) Try.underlying22 rfl (by rw [size_encK, HSL.out]; kernel_rfl) ?_; (try simp only [Act.put, Act.eval, List.setIfInBounds_toArray, List.set_cons_zero, List.set_cons_succ, Array.getD_eq_getD_getElem?, List.getElem?_toArray, List.getElem?_cons_succ, List.getElem?_cons_zero, Option.getD_some])))) | (refine gSeq_pure rfl (by rfl) ?_ ?_ ?_; (rotate_left; (intro w'; (skip); go_simp; (first | done | with_reducible rfl)); (try simp only [Act.put, Act.eval, List.setIfInBounds_toArray, List.set_cons_zero, List.set_cons_succ, Array.getD_eq_getD_getElem?, List.getElem?_toArray, List.getElem?_cons_succ, List.getElem?_cons_zero, Option.getD_some]))) | (refine gSeq_still rfl (by rfl) ?_ ?_ ?_; (rotate_left; (intro w' hG; (skip); go_simp; (first | done | with_reducible rfl)); (try simp only [Act.put, Act.eval, List.setIfInBounds_toArray, List.set_cons_zero, List.set_cons_succ, Array.getD_eq_getD_getElem?, List.getElem?_toArray, List.getElem?_cons_succ, List.getElem?_cons_zero, Option.getD_some])))))
      (refine gSeq_do rfl (by rfl) (fun K hK => ?_)); go_simp
      refine (mul_any a (one8 k_) _ HA.out HOA.out rfl (ok_one8 k_ hk0 hk1)).mono ?_
      rintro e w8 ⟨rfl, hg8⟩
      refine hK _ _ hg8 ?_; clear hK K; (try simp only [Act.put, Act.eval, List.setIfInBounds_toArray, List.set_cons_zero, List.set_cons_succ, Array.getD_eq_getD_getElem?, List.getElem?_toArray, List.getElem?_cons_succ, List.getElem?_cons_zero, Option.getD_some])
      have G' := Lib.hid (grown_trans G.out hg8); have G := G'; have HG' := Lib.hid (grown_trans HG.out hg8); have HG := HG'; clear hg8 G' HG'
      (repeat (first | (refine gSeq_skip rfl (by rfl) ?_; (try simp only [Act.put, Act.eval, List.setIfInBounds_toArray, List.set_cons_zero, List.set_cons_succ, Array.getD_eq_getD_getElem?, List.getElem?_toArray, List.getElem?_cons_succ, List.getElem?_cons_zero, Option.getD_some])) | (refine gSeq_move _ rfl rfl (by rfl) ?_; (try simp only [Act.put, Act.eval, List.setIfInBounds_toArray, List.set_cons_zero, List.set_cons_succ, Array.getD_eq_getD_getElem?, List.getElem?_toArray, List.getElem?_cons_succ, List.getElem?_cons_zero, Option.getD_some])) | (refine gSeq_assign _ rfl rfl (by rfl) ?_; (try simp only [Act.put, Act.eval, List.setIfInBounds_toArray, List.set_cons_zero, List.set_cons_succ, Array.getD_eq_getD_getElem?, List.getElem?_toArray, List.getElem?_cons_succ, List.getElem?_cons_zero, Option.getD_some])) | (fail) | (refine gSeq_pure rfl (by rfl) ?_ ?_ ?_; (rotate_left; (intro w'; (skip); go_simp; (first | done | with_reducible rfl)); (try simp only [Act.put, Act.eval, List.setIfInBounds_toArray, List.set_cons_zero, List.set_cons_succ, Array.getD_eq_getD_getElem?, List.getElem?_toArray, List.getElem?_cons_succ, List.getElem?_cons_zero, Option.getD_some]))) | (refine gSeq_still rfl (by rfl) ?_ ?_ ?_; (rotate_left; (intro w' hG; (skip); go_simp; (first | done | with_reducible rfl)); (try simp only [Act.put, Act.eval, List.setIfInBounds_toArray, List.set_cons_zero, List.set_cons_succ, Array.getD_eq_getD_getElem?, List.getElem?_toArray, List.getElem?_cons_succ, List.getElem?_cons_zero, Option.getD_some])))))
      (refine gSeq_do rfl (by rfl) (fun K hK => ?_)); go_simp
      refine (rmul_any S (one8 k_) _ HSL.out HSO.out rfl (ok_one8 k_ hk0 hk1)).mono ?_
      rintro e w9 ⟨rfl, hg9⟩
      refine hK _ _ hg9 ?_; clear hK K; (try simp only [Act.put, Act.eval, List.setIfInBounds_toArray, List.set_cons_zero, List.set_cons_succ, Array.getD_eq_getD_getElem?, List.getElem?_toArray, List.getElem?_cons_succ, List.getElem?_cons_zero, Option.getD_some])
      have G' := Lib.hid (grown_trans G.out hg9); have G := G'; have HG' := Lib.hid (grown_trans HG.out hg9); have HG := HG'; clear hg9 G' HG'
      have hmm : numB 256 S * numB 256 (one8 k_) % ordL = numB 256 a * numB 256 (one8 k_) % ordL := by
        rw [HSN.out, HAN.out, Int.mul_emod, Int.emod_emod_of_dvd _ (Int.dvd_refl _), ← Int.mul_emod]
      rw [hmm]
      obtain ⟨T, hT⟩ : ∃ T, T = digB 256 32 (numB 256 a * numB 256 (one8 k_) % ordL) := ⟨_, rfl⟩
      rw [← hT]
      have HTL := Lib.hid (show T.length = 32 by rw [hT, length_digB])
      clear hT hmm
      (repeat (first | (refine gSeq_skip rfl (by rfl) ?_; (try simp only [Act.put, Act.eval, List.setIfInBounds_toArray, List.set_cons_zero, List.set_cons_succ, Array.getD_eq_getD_getElem?, List.getElem?_toArray, List.getElem?_cons_succ, List.getElem?_cons_zero, Option.getD_some])) | (refine gSeq_move _ rfl rfl (by rfl) ?_; (try simp only [Act.put, Act.eval, List.setIfInBounds_toArray, List.set_cons_zero, List.set_cons_succ, Array.getD_eq_getD_getElem?, List.getElem?_toArray, List.getElem?_cons_succ, List.getElem?_cons_zero, Option.getD_some])) | (refine gSeq_assign _ rfl rfl (by rfl) ?_; (try simp only [Act.put, Act.eval, List.setIfInBounds_toArray, List.set_cons_zero, List.set_cons_succ, Array.getD_eq_getD_getElem?, List.getElem?_toArray, List.getElem?_cons_succ, List.getElem?_cons_zero, Option.getD_some])) | ((first | (refine gSeq_eql rfl (by rfl) 22 _ _ _ rfl _ _ _ Try.underlying22 Try.underlying5 (by kernel_rfl) (by kernel_rfl) T T rfl rfl HTL.out HTL.out true (by simp) ?_; (try simp only [Act.put, Act.eval, List.setIfInBounds_toArray, List.set_cons_zero, List.set_cons_succ, Array.getD_eq_getD_getElem?, List.getElem?_toArray, List.getElem?_cons_succ, List.getElem?_cons_zero, Option.getD_some])) | (refine gSeq_row rfl (by rfl) 22 _ rfl _ rfl _ _ _ _ (row_keep RA.out G.out) Try.underlying22 rfl (by rw [size_encK, HA.out]; kernel_rfl) ?_; (try simp only [Act.put, Act.eval, List.setIfInBounds_toArray, List.set_cons_zero, List.set_cons_succ, Array.getD_eq_getD_getElem?, List.getElem?_toArray, List.getElem?_cons_succ, List.getElem?_cons_zero, Option.getD_some])) | (refine gSeq_row rfl (by rfl) 22 _ rfl _ rfl _ _ _ _ (row_keep RC.out G.out) Try.underlying22 rfl (by rw [size_encK, HSL.out]; kernel_rfl) ?_; (try simp only [Act.put, Act.eval, List.setIfInBounds_toArray, List.set_cons_zero, List.set_cons_succ, Array.getD_eq_getD_getElem?, List.getElem?_toArray, List.getElem?_cons_succ, List.getElem?_cons_zero, Option.getD_some])))) | (refine gSeq_pure rfl (by rfl) ?_ ?_ ?_; (rotate_left; (intro w'; (skip); go_simp; (first | done | with_reducible rfl)); (try simp only [Act.put, Act.eval, List.setIfInBounds_toArray, List.set_cons_zero, List.set_cons_succ, Array.getD_eq_getD_getElem?, List.getElem?_toArray, List.getElem?_cons_succ, List.getElem?_cons_zero, Option.getD_some]))) | (refine gSeq_still rfl (by rfl) ?_ ?_ ?_; (rotate_left; (intro w' hG; (skip); go_simp; (first | done | with_reducible rfl)); (try simp only [Act.put, Act.eval, List.setIfInBounds_toArray, List.set_cons_zero, List.set_cons_succ, Array.getD_eq_getD_getElem?, List.getElem?_toArray, List.getElem?_cons_succ, List.getElem?_cons_zero, Option.getD_some])))))
      (refine gSeq_do rfl (by rfl) (fun K hK => ?_)); go_simp
      refine (add_any a (one8 0) _ HA.out HOA.out rfl (ok_one8 0 (by decide) (by decide))).mono ?_
      rintro e w10 ⟨rfl, hg10⟩
      rw [HAN.out, show numB 256 (one8 0) = 0 by decide +kernel, Int.add_zero, ← HS.out]
      refine hK _ _ hg10 ?_; clear hK K; (try simp only [Act.put, Act.eval, List.setIfInBounds_toArray, List.set_cons_zero, List.set_cons_succ, Array.getD_eq_getD_getElem?, List.getElem?_toArray, List.getElem?_cons_succ, List.getElem?_cons_zero, Option.getD_some])
      have G' := Lib.hid (grown_trans G.out hg10); have G := G'; have HG' := Lib.hid (grown_trans HG.out hg10); have HG := HG'; clear hg10 G' HG'
      (repeat (first | (refine gSeq_skip rfl (by rfl) ?_; (try simp only [Act.put, Act.eval, List.setIfInBounds_toArray, List.set_cons_zero, List.set_cons_succ, Array.getD_eq_getD_getElem?, List.getElem?_toArray, List.getElem?_cons_succ, List.getElem?_cons_zero, Option.getD_some])) | (refine gSeq_move _ rfl rfl (by rfl) ?_; (try simp only [Act.put, Act.eval, List.setIfInBounds_toArray, List.set_cons_zero, List.set_cons_succ, Array.getD_eq_getD_getElem?, List.getElem?_toArray, List.getElem?_cons_succ, List.getElem?_cons_zero, Option.getD_some])) | (refine gSeq_assign _ rfl rfl (by rfl) ?_; (try simp only [Act.put, Act.eval, List.setIfInBounds_toArray, List.set_cons_zero, List.set_cons_succ, Array.getD_eq_getD_getElem?, List.getElem?_toArray, List.getElem?_cons_succ, List.getElem?_cons_zero, Option.getD_some])) | ((refine gSeq_eql rfl (by rfl) 22 _ _ _ rfl _ _ _ Try.underlying22 Try.underlying5 (by kernel_rfl) (by kernel_rfl) S S rfl rfl HSL.out HSL.out true (by simp) ?_; (try simp only [Act.put, Act.eval, List.setIfInBounds_toArray, List.set_cons_zero, List.set_cons_succ, Array.getD_eq_getD_getElem?, List.getElem?_toArray, List.getElem?_cons_succ, List.getElem?_cons_zero, Option.getD_some]))) | (refine gSeq_pure rfl (by rfl) ?_ ?_ ?_; (rotate_left; (intro w'; (skip); go_simp; (first | done | with_reducible rfl)); (try simp only [Act.put, Act.eval, List.setIfInBounds_toArray, List.set_cons_zero, List.set_cons_succ, Array.getD_eq_getD_getElem?, List.getElem?_toArray, List.getElem?_cons_succ, List.getElem?_cons_zero, Option.getD_some]))) | (refine gSeq_still rfl (by rfl) ?_ ?_ ?_; (rotate_left; (intro w' hG; (skip); go_simp; (first | done | with_reducible rfl)); (try simp only [Act.put, Act.eval, List.setIfInBounds_toArray, List.set_cons_zero, List.set_cons_succ, Array.getD_eq_getD_getElem?, List.getElem?_toArray, List.getElem?_cons_succ, List.getElem?_cons_zero, Option.getD_some])))))
      refine gSeq_nil ?_
      go_wp2_with fail
      exact bodyPost_ret (results_tmp rfl _ _ _) rfl ⟨rfl, HG.out⟩
end Go.Proofs.Ytcfgobpjhppebaa
