/- ChachaBlocks, walked. -/
import Derived.Test.YtfhopjkpefclpaaChaU
namespace Go.Proofs.Ytfhopjkpefclpaa
set_option linter.unusedVariables false
set_option linter.unusedSimpArgs false
open Go.RowKit Go.Proofs.YtfhopjkpefclpaaL

theorem blk_range (key : List Int) (c : Int) (nonce : List Int) (i : Nat) : 0 ≤ (blk key c nonce).getD i 0 ∧ (blk key c nonce).getD i 0 < 256 := by
  apply ok8_at
  intro x hx
  obtain ⟨j, -, rfl⟩ := List.mem_map.1 hx
  unfold outB
  omega
theorem ok_blk (key : List Int) (c : Int) (nonce : List Int) : ok8 (blk key c nonce) := by
  intro x hx
  obtain ⟨j, -, rfl⟩ := List.mem_map.1 hx
  unfold outB
  omega
theorem getD_rep (n i : Nat) : (List.replicate n (0 : Int)).getD i 0 = 0 := by
  rw [List.getD_eq_getElem?_getD, List.getElem?_replicate]
  split <;> rfl
theorem noughts_part (key : List Int) (c : Int) (nonce : List Int) (n i e : Nat) (hi : i % 64 = 0) (he : i ≤ e) (hn : e ≤ n) (h64 : e ≤ i + 64) :
    ((xorL key c nonce (List.replicate n 0) n).take e).drop i = (blk key (ctrAt c i) nonce).take (e - i) := by
  have hb : (blk key (ctrAt c i) nonce).length = 64 := length_outs _ _ _
  apply list_ext_getD
  · rw [List.length_drop, List.length_take, List.length_take, length_xorL, hb]; omega
  · intro j hj
    rw [List.length_drop, List.length_take, length_xorL] at hj
    rw [getD_drop, List.getD_eq_getElem?_getD, List.getElem?_take_of_lt (by omega), ← List.getD_eq_getElem?_getD, xorL_at _ _ _ _ _ _ (by omega), xorB, getD_rep, strB, zero_xor8 _ (blk_range _ _ _ _).1 (blk_range _ _ _ _).2]
    rw [List.getD_eq_getElem?_getD (l := List.take _ _), List.getElem?_take_of_lt (by omega), ← List.getD_eq_getElem?_getD]
    have h1 : ctrAt c (i + j) = ctrAt c i := by
      unfold ctrAt
      have : ((i + j) / 64 : Nat) = i / 64 := by omega
      rw [this]
    rw [h1, show (i + j) % 64 = j by omega]

set_option maxHeartbeats 4000000 in
set_option maxRecDepth 100000 in
theorem blocks_walk (key nonce : List Int) (c n : Int) (w : World) (hk : key.length = 32) (hk8 : ok8 key) (hn : nonce.length = 12) (hn8 : ok8 nonce) (hc0 : 0 ≤ c) (hc1 : c < 4294967296) (hn0 : 0 ≤ n) (hn1 : n < 256) :
    Calls Try.prog 5 #[.agg (enc8 key), .agg (enc8 nonce), .int .u32 c, .int .u8 n] w fun e w' => e = .returned (.bool true) ∧ w.grownBy w' none := by
  obtain ⟨len, rfl⟩ : ∃ m : Nat, n = m := ⟨n.toNat, by omega⟩
  have HK := Lib.hid hk
  have HN := Lib.hid hn
  have HK8 := Lib.hid hk8
  have HN8 := Lib.hid hn8
  have HC : Hid (0 ≤ c ∧ c < 4294967296) := ⟨hc0, hc1⟩
  clear hk hn hk8 hn8
  go_enter Try.func5, Try.ntmps5
  go_wp2_with fail
  refine (known_any _).mono ?_
  rintro e w1 ⟨rfl, g1⟩
  obtain ⟨b, hbz⟩ : ∃ b, w.heap.size = b := ⟨_, rfl⟩
  have hk1 : w1.heap[b]? = some (.cells (enc8 key) 22 (0, 0)) := by
    rw [← hbz, g1.block _ (by simp only [alloc_size]; omega) (by simp), alloc_up _ _ (by simp only [alloc_size]; omega)]; exact alloc_at _ _ rfl
  have hn1 : w1.heap[b + 1]? = some (.cells (enc8 nonce) 23 (0, 0)) := by
    rw [← hbz, g1.block _ (by simp only [alloc_size]; omega) (by simp)]; exact alloc_at _ _ (by simp only [alloc_size])
  have hg1 : w.grownBy w1 none := grown_trans (grown_alloc (grown_alloc (grown_refl w none) _) _) g1
  rw [hbz]
  have HK1 := Lib.hid hk1
  have HN1 := Lib.hid hn1
  have HG1 := Lib.hid hg1
  have HB := Lib.hid hbz
  clear hk1 hn1 hg1 g1 hbz
  go_wp2_with fail
  refine wp_region_grow [(true, 0), (true, 1), (true, 2), (true, 3), (true, 4), (false, 5), (false, 6), (true, 7)] (by kernel_rfl) (by kernel_rfl) (fun _ _ _ _ _ h => h) ?_
  obtain ⟨w3, hw3⟩ : ∃ w3, w3 = w1.drew := ⟨_, rfl⟩
  rw [← hw3]
  have HK3 : Hid (w3.heap[b]? = some (.cells (enc8 key) 22 (0, 0))) := by rw [hw3]; exact HK1.out
  have HN3 : Hid (w3.heap[b + 1]? = some (.cells (enc8 nonce) 23 (0, 0))) := by rw [hw3]; exact HN1.out
  have HG3 : Hid (w.grownBy w3 none) := by rw [hw3]; exact grown_trans HG1.out (grown_drew _ _)
  have HWR := Lib.hid (IntWalk.i64_in (len : Int) (by omega))
  clear hw3 HK1 HN1 HG1
  (repeat (first | (refine gSeq_skip rfl (by rfl) ?_; (try simp only [Act.put, Act.eval, List.setIfInBounds_toArray, List.set_cons_zero, List.set_cons_succ, Array.getD_eq_getD_getElem?, List.getElem?_toArray, List.getElem?_cons_succ, List.getElem?_cons_zero, Option.getD_some])) | (refine gSeq_move _ rfl rfl (by rfl) ?_; (try simp only [Act.put, Act.eval, List.setIfInBounds_toArray, List.set_cons_zero, List.set_cons_succ, Array.getD_eq_getD_getElem?, List.getElem?_toArray, List.getElem?_cons_succ, List.getElem?_cons_zero, Option.getD_some])) | (refine gSeq_assign _ rfl rfl (by rfl) ?_; (try simp only [Act.put, Act.eval, List.setIfInBounds_toArray, List.set_cons_zero, List.set_cons_succ, Array.getD_eq_getD_getElem?, List.getElem?_toArray, List.getElem?_cons_succ, List.getElem?_cons_zero, Option.getD_some])) | (first | (refine gSeq_row rfl (by rfl) _ _ rfl _ rfl _ _ _ _ HK3.out Try.underlying22 rfl (by rw [size_enc8, HK.out]; kernel_rfl) ?_; (try simp only [Act.put, Act.eval, List.setIfInBounds_toArray, List.set_cons_zero, List.set_cons_succ, Array.getD_eq_getD_getElem?, List.getElem?_toArray, List.getElem?_cons_succ, List.getElem?_cons_zero, Option.getD_some])) | (refine gSeq_row rfl (by rfl) _ _ rfl _ rfl _ _ _ _ HN3.out Try.underlying23 rfl (by rw [size_enc8, HN.out]; kernel_rfl) ?_; (try simp only [Act.put, Act.eval, List.setIfInBounds_toArray, List.set_cons_zero, List.set_cons_succ, Array.getD_eq_getD_getElem?, List.getElem?_toArray, List.getElem?_cons_succ, List.getElem?_cons_zero, Option.getD_some]))) | (refine gSeq_still rfl (by rfl) ?_ ?_ ?_; (rotate_left; (intro w' hG; (have hwr := HWR.out); go_simp; (first | done | with_reducible rfl)); (try simp only [Act.put, Act.eval, List.setIfInBounds_toArray, List.set_cons_zero, List.set_cons_succ, Array.getD_eq_getD_getElem?, List.getElem?_toArray, List.getElem?_cons_succ, List.getElem?_cons_zero, Option.getD_some])))))
  refine gSeq_make rfl (by rfl) _ _ _ rfl 5 (.int .u8 0) 1 Try.underlying25 (by kernel_rfl) rfl len len rfl rfl rfl (by omega) (by omega) ?_
  intro w4 r4 g4
  (try simp only [Act.put, Act.eval, List.setIfInBounds_toArray, List.set_cons_zero, List.set_cons_succ, Array.getD_eq_getD_getElem?, List.getElem?_toArray, List.getElem?_cons_succ, List.getElem?_cons_zero, Option.getD_some])
  have hs4 : Sl8 w4 (some ⟨w3.heap.size, 0, none⟩) len (List.replicate len 0) := by
    refine ⟨by simp, fun x hx => by rw [List.eq_of_mem_replicate hx]; omega, fun i hi => ⟨_, rfl, ?_⟩⟩
    rw [Addr.add_mid, Nat.zero_add, row_cell r4 i (.int .u8 0) (by simp [hi]), getD_rep]
  have HS4 := Lib.hid hs4
  have hk4 := (g4.block _ (row_lt HK3.out) (by simp)).trans HK3.out
  have hn4 := (g4.block _ (row_lt HN3.out) (by simp)).trans HN3.out
  have hg4 := grown_trans HG3.out g4
  have HK4 := Lib.hid hk4
  have HN4 := Lib.hid hn4
  have HG4 := Lib.hid hg4
  clear hs4 hk4 hn4 hg4 g4 r4 HK3 HN3 HG3
  (refine gSeq_do rfl (by rfl) (fun K hK => ?_)); go_simp
  refine (xor_any key nonce c _ len len (List.replicate len 0) _ HK.out HN.out HK8.out HN8.out HC.out.1 HC.out.2 HS4.out (by omega)).mono ?_
  intro e w5 hr
  obtain ⟨xs, hxs⟩ : ∃ xs, xs = xorL key c nonce (List.replicate len 0) len := ⟨_, rfl⟩
  have hx8 : ok8 xs := by rw [hxs]; exact ok_xorL _ _ _ _ _
  have hxl : xs.length = len := by rw [hxs, length_xorL]
  rw [← hxs] at hr
  obtain ⟨ad5, cap5, rfl, hs5, hcap5, g5⟩ := ret8_cap hr hx8
  rw [hxl] at hs5 hcap5 ⊢
  refine hK _ _ g5 ?_; clear hK K; (try simp only [Act.put, Act.eval, List.setIfInBounds_toArray, List.set_cons_zero, List.set_cons_succ, Array.getD_eq_getD_getElem?, List.getElem?_toArray, List.getElem?_cons_succ, List.getElem?_cons_zero, Option.getD_some])
  have hk5 := (g5.block _ (row_lt HK4.out) (by simp)).trans HK4.out
  have hn5 := (g5.block _ (row_lt HN4.out) (by simp)).trans HN4.out
  have hg5 := grown_trans HG4.out g5
  have HK5 := Lib.hid hk5
  have HN5 := Lib.hid hn5
  have HG5 := Lib.hid hg5
  have HXS := Lib.hid hxs
  have HS5 := Lib.hid hs5
  have HCAP5 := Lib.hid hcap5
  clear hk5 hn5 hg5 g5 hxs hx8 hxl hs5 hcap5 hr HK4 HN4 HG4 HS4
  (repeat (first | (refine gSeq_skip rfl (by rfl) ?_; (try simp only [Act.put, Act.eval, List.setIfInBounds_toArray, List.set_cons_zero, List.set_cons_succ, Array.getD_eq_getD_getElem?, List.getElem?_toArray, List.getElem?_cons_succ, List.getElem?_cons_zero, Option.getD_some])) | (refine gSeq_move _ rfl rfl (by rfl) ?_; (try simp only [Act.put, Act.eval, List.setIfInBounds_toArray, List.set_cons_zero, List.set_cons_succ, Array.getD_eq_getD_getElem?, List.getElem?_toArray, List.getElem?_cons_succ, List.getElem?_cons_zero, Option.getD_some])) | (refine gSeq_assign _ rfl rfl (by rfl) ?_; (try simp only [Act.put, Act.eval, List.setIfInBounds_toArray, List.set_cons_zero, List.set_cons_succ, Array.getD_eq_getD_getElem?, List.getElem?_toArray, List.getElem?_cons_succ, List.getElem?_cons_zero, Option.getD_some])) | (fail) | (refine gSeq_still rfl (by rfl) ?_ ?_ ?_; (rotate_left; (intro w' hG; (skip); go_simp; (first | done | with_reducible rfl)); (try simp only [Act.put, Act.eval, List.setIfInBounds_toArray, List.set_cons_zero, List.set_cons_succ, Array.getD_eq_getD_getElem?, List.getElem?_toArray, List.getElem?_cons_succ, List.getElem?_cons_zero, Option.getD_some])))))
  refine gSeq_nil ?_
  go_wp2_with fail
  have H255 : Hid ((len : Int) < 256) := hn1
  go_loopw [10] (fun v wr => ∃ i : Nat, i % 64 = 0 ∧ i ≤ len + 63 ∧ v = .int .i64 i ∧ wr.heap[b]? = some (.cells (enc8 key) 22 (0, 0)) ∧ wr.heap[b + 1]? = some (.cells (enc8 nonce) 23 (0, 0)) ∧ Hid (Sl8 wr ad5 len xs) ∧ w.grownBy wr none) (fun v _ => len + 64 - (intOf v).toNat)
  case atStart => exact ⟨0, rfl, by omega, rfl, HK5.out, HN5.out, HS5, HG5.out⟩
  case round =>
    obtain ⟨i, hi64, hile, rfl, r1, r2, HSR, hg⟩ := hrel
    have R1 := Lib.hid r1
    have R2 := Lib.hid r2
    have HG := Lib.hid hg
    clear r1 r2 hg
    by_cases hlt : i < len
    · have hlt' : (i : Int) < len := by omega
      go_wp2_with (first | (refine wpList_load_row rfl 22 (.tmp 4) rfl b rfl _ _ _ _ R1.out Try.underlying22 rfl (by rw [size_enc8, HK.out]; kernel_rfl) ?_) | (refine wpList_load_row rfl 23 (.tmp 5) rfl (b + 1) rfl _ _ _ _ R2.out Try.underlying23 rfl (by rw [size_enc8, HN.out]; kernel_rfl) ?_))
      rw [show (c + (i : Int) / 64) % 4294967296 = ctrAt c i by unfold ctrAt; omega]
      refine (block_any key nonce (ctrAt c i) _ HK.out HN.out HK8.out HN8.out (by unfold ctrAt; omega) (by unfold ctrAt; omega)).mono ?_
      rintro e w2 ⟨rfl, g2⟩
      obtain ⟨st, hst⟩ : ∃ st, st = blk key (ctrAt c i) nonce := ⟨_, rfl⟩
      have hl2 : st.length = 64 := by rw [hst]; exact length_outs _ _ _
      have h82 : ok8 st := by rw [hst]; exact ok_blk _ _ _
      rw [← hst]
      obtain ⟨s, hs⟩ : ∃ s, w2.heap.size = s := ⟨_, rfl⟩
      have q1 := (g2.block _ (row_lt R1.out) (by simp)).trans R1.out
      have q2 := (g2.block _ (row_lt R2.out) (by simp)).trans R2.out
      have hbs : b + 1 < s := by rw [← hs]; exact row_lt q2
      have hg2 := grown_trans HG.out g2
      have hsr := HSR.out.kept g2
      have Q1 := Lib.hid q1
      have Q2 := Lib.hid q2
      have HG2 := Lib.hid hg2
      have HSR2 := Lib.hid hsr
      have HST := Lib.hid hst
      have HL := Lib.hid hl2
      have H8 := Lib.hid h82
      have HS := Lib.hid hs
      have HBS := Lib.hid hbs
      clear q1 q2 hg2 hsr g2 hst hl2 h82 hs hbs HG HSR R1 R2
      go_wp2_with (refine wpList_store_range rfl 27 (.tmp 11) (.tmp 40) rfl s 0 (enc8 st) (by simp [Act.eval, HS.out]) rfl _ (enc8 (List.replicate 64 0)) (alloc_at _ _ HS.out.symm) (by rw [size_enc8, size_enc8, HL.out]; decide) (by rw [size_enc8, HL.out]; kernel_rfl) (one_enc8 st) ?_)
      intro w3 r3 g3
      rw [putAt_all _ _ (by rw [Array.length_toList, size_enc8, size_enc8, HL.out]; rfl)] at r3
      have q3 : w3.heap[s]? = some (.cells (enc8 st) 27 (0, 0)) := r3
      have gg : w2.grownBy w3 none := grown_row (grown_alloc (grown_refl w2 none) _) g3 (fun j hj => by injection hj with hj; have := HS.out; omega)
      have q1 := (gg.block _ (row_lt Q1.out) (by simp)).trans Q1.out
      have q2 := (gg.block _ (row_lt Q2.out) (by simp)).trans Q2.out
      have hg3 := grown_trans HG2.out gg
      have hsr := HSR2.out.kept gg
      have P1 := Lib.hid q1
      have P2 := Lib.hid q2
      have P3 := Lib.hid q3
      have HG3 := Lib.hid hg3
      have HSR3 := Lib.hid hsr
      clear q1 q2 q3 hg3 hsr gg r3 g3 Q1 Q2 HG2 HSR2
      rw [HS.out]
      go_wp2_with fail
      · have e1 : i ≤ len := by omega
        have e2 : len ≤ len := by omega
        have e3 : len ≤ i + 64 := by omega
        refine wp_region_grow [(true, 0), (true, 1), (true, 2), (true, 3), (true, 4), (true, 5), (true, 6), (true, 7), (true, 8), (true, 9), (true, 10)] (by kernel_rfl) (by kernel_rfl) (fun _ _ _ _ _ h => h) ?_
        obtain ⟨w4, hw4⟩ : ∃ w4, w4 = w3.drew := ⟨_, rfl⟩
        rw [← hw4]
        have g4 : w3.grownBy w4 none := by rw [hw4]; exact grown_drew _ _
        have rA : Rd .u8 w4 (subAt ad5 i cap5) (len - i) (st.take (len - i)) := by
          have h := rd_sub' (HSR3.out.kept g4).rd i len e1 e2 (Nat.le_trans e2 HCAP5.out)
          rw [HXS.out, noughts_part key c nonce len i len hi64 e1 e2 e3, ← HST.out] at h
          exact h
        have rB : Rd .u8 w4 (some ⟨s, 0, none⟩) (len - i) (st.take (len - i)) := by
          refine ⟨rA.1, fun j hj => ⟨_, rfl, ?_⟩⟩
          have hl64 := HL.out
          rw [Addr.add_mid, Nat.zero_add, g4.cell (row8_at P3.out j (by omega)) (by simp), List.getD_eq_getElem?_getD, List.getD_eq_getElem?_getD, List.getElem?_take_of_lt hj]
        have q1 := (g4.block _ (row_lt P1.out) (by simp)).trans P1.out
        have q2 := (g4.block _ (row_lt P2.out) (by simp)).trans P2.out
        have hg4 := grown_trans HG3.out g4
        have hsr := HSR3.out.kept g4
        have HWR := Lib.hid (IntWalk.i64_in ((len : Int) - (i : Int)) (by omega))
        have RA := Lib.hid rA
        have RB := Lib.hid rB
        have Q1 := Lib.hid q1
        have Q2 := Lib.hid q2
        have HG4 := Lib.hid hg4
        have HSR4 := Lib.hid hsr
        clear rA rB q1 q2 hg4 hsr hw4 g4
        (repeat (first | (refine gSeq_skip rfl (by rfl) ?_; (try simp only [Act.put, Act.eval, List.setIfInBounds_toArray, List.set_cons_zero, List.set_cons_succ, Array.getD_eq_getD_getElem?, List.getElem?_toArray, List.getElem?_cons_succ, List.getElem?_cons_zero, Option.getD_some])) | (refine gSeq_move _ rfl rfl (by rfl) ?_; (try simp only [Act.put, Act.eval, List.setIfInBounds_toArray, List.set_cons_zero, List.set_cons_succ, Array.getD_eq_getD_getElem?, List.getElem?_toArray, List.getElem?_cons_succ, List.getElem?_cons_zero, Option.getD_some])) | (refine gSeq_assign _ rfl rfl (by rfl) ?_; (try simp only [Act.put, Act.eval, List.setIfInBounds_toArray, List.set_cons_zero, List.set_cons_succ, Array.getD_eq_getD_getElem?, List.getElem?_toArray, List.getElem?_cons_succ, List.getElem?_cons_zero, Option.getD_some])) | (first | (refine gSeq_slice rfl (by rfl) _ _ _ _ rfl _ rfl _ _ rfl rfl _ (run_sub_lh Try.underlying25 (by kernel_rfl) _ _ i len (by omega) (by omega) (by omega) (by have := HCAP5.out; omega)) ?_; (try simp only [Act.put, Act.eval, List.setIfInBounds_toArray, List.set_cons_zero, List.set_cons_succ, Array.getD_eq_getD_getElem?, List.getElem?_toArray, List.getElem?_cons_succ, List.getElem?_cons_zero, Option.getD_some])) | (refine gSeq_slice rfl (by rfl) _ _ _ _ rfl _ rfl _ _ rfl rfl _ (run_arr_h 64 Try.underlying27 (by kernel_rfl) s _ (len - i) (by omega) (by omega)) ?_; (try simp only [Act.put, Act.eval, List.setIfInBounds_toArray, List.set_cons_zero, List.set_cons_succ, Array.getD_eq_getD_getElem?, List.getElem?_toArray, List.getElem?_cons_succ, List.getElem?_cons_zero, Option.getD_some])) | (refine gSeq_string rfl (by rfl) _ _ _ rfl 5 Try.underlying25 Try.underlying5 Try.underlying9 _ _ _ rfl (st.take (len - i)) RA.out.1 RA.out.2 ?_; (try simp only [Act.put, Act.eval, List.setIfInBounds_toArray, List.set_cons_zero, List.set_cons_succ, Array.getD_eq_getD_getElem?, List.getElem?_toArray, List.getElem?_cons_succ, List.getElem?_cons_zero, Option.getD_some])) | (refine gSeq_string rfl (by rfl) _ _ _ rfl 5 Try.underlying25 Try.underlying5 Try.underlying9 _ _ _ rfl (st.take (len - i)) RB.out.1 RB.out.2 ?_; (try simp only [Act.put, Act.eval, List.setIfInBounds_toArray, List.set_cons_zero, List.set_cons_succ, Array.getD_eq_getD_getElem?, List.getElem?_toArray, List.getElem?_cons_succ, List.getElem?_cons_zero, Option.getD_some]))) | (refine gSeq_still rfl (by rfl) ?_ ?_ ?_; (rotate_left; (intro w' hG; (have hwr := HWR.out); go_simp; (first | done | with_reducible rfl)); (try simp only [Act.put, Act.eval, List.setIfInBounds_toArray, List.set_cons_zero, List.set_cons_succ, Array.getD_eq_getD_getElem?, List.getElem?_toArray, List.getElem?_cons_succ, List.getElem?_cons_zero, Option.getD_some])))))
        refine gSeq_nil ?_
        go_wp2_with fail
        go_roundw
        case rel => exact ⟨i + 64, by omega, by omega, by go_num, Q1.out, Q2.out, HSR4, HG4.out⟩
        case measure => simp [intOf]; omega
      · have e1 : i ≤ (i + 64) := by omega
        have e2 : (i + 64) ≤ len := by omega
        have e3 : (i + 64) ≤ i + 64 := by omega
        refine wp_region_grow [(true, 0), (true, 1), (true, 2), (true, 3), (true, 4), (true, 5), (true, 6), (true, 7), (true, 8), (true, 9), (true, 10)] (by kernel_rfl) (by kernel_rfl) (fun _ _ _ _ _ h => h) ?_
        obtain ⟨w4, hw4⟩ : ∃ w4, w4 = w3.drew := ⟨_, rfl⟩
        rw [← hw4]
        have g4 : w3.grownBy w4 none := by rw [hw4]; exact grown_drew _ _
        have rA : Rd .u8 w4 (subAt ad5 i cap5) ((i + 64) - i) (st.take ((i + 64) - i)) := by
          have h := rd_sub' (HSR3.out.kept g4).rd i (i + 64) e1 e2 (Nat.le_trans e2 HCAP5.out)
          rw [HXS.out, noughts_part key c nonce len i (i + 64) hi64 e1 e2 e3, ← HST.out] at h
          exact h
        have rB : Rd .u8 w4 (some ⟨s, 0, none⟩) ((i + 64) - i) (st.take ((i + 64) - i)) := by
          refine ⟨rA.1, fun j hj => ⟨_, rfl, ?_⟩⟩
          have hl64 := HL.out
          rw [Addr.add_mid, Nat.zero_add, g4.cell (row8_at P3.out j (by omega)) (by simp), List.getD_eq_getElem?_getD, List.getD_eq_getElem?_getD, List.getElem?_take_of_lt hj]
        have q1 := (g4.block _ (row_lt P1.out) (by simp)).trans P1.out
        have q2 := (g4.block _ (row_lt P2.out) (by simp)).trans P2.out
        have hg4 := grown_trans HG3.out g4
        have hsr := HSR3.out.kept g4
        have HWR := Lib.hid (IntWalk.i64_in (((i : Int) + 64) - (i : Int)) (by omega))
        have RA := Lib.hid rA
        have RB := Lib.hid rB
        have Q1 := Lib.hid q1
        have Q2 := Lib.hid q2
        have HG4 := Lib.hid hg4
        have HSR4 := Lib.hid hsr
        clear rA rB q1 q2 hg4 hsr hw4 g4
        (repeat (first | (refine gSeq_skip rfl (by rfl) ?_; (try simp only [Act.put, Act.eval, List.setIfInBounds_toArray, List.set_cons_zero, List.set_cons_succ, Array.getD_eq_getD_getElem?, List.getElem?_toArray, List.getElem?_cons_succ, List.getElem?_cons_zero, Option.getD_some])) | (refine gSeq_move _ rfl rfl (by rfl) ?_; (try simp only [Act.put, Act.eval, List.setIfInBounds_toArray, List.set_cons_zero, List.set_cons_succ, Array.getD_eq_getD_getElem?, List.getElem?_toArray, List.getElem?_cons_succ, List.getElem?_cons_zero, Option.getD_some])) | (refine gSeq_assign _ rfl rfl (by rfl) ?_; (try simp only [Act.put, Act.eval, List.setIfInBounds_toArray, List.set_cons_zero, List.set_cons_succ, Array.getD_eq_getD_getElem?, List.getElem?_toArray, List.getElem?_cons_succ, List.getElem?_cons_zero, Option.getD_some])) | (first | (refine gSeq_slice rfl (by rfl) _ _ _ _ rfl _ rfl _ _ rfl rfl _ (run_sub_lh Try.underlying25 (by kernel_rfl) _ _ i (i + 64) (by omega) (by omega) (by omega) (by have := HCAP5.out; omega)) ?_; (try simp only [Act.put, Act.eval, List.setIfInBounds_toArray, List.set_cons_zero, List.set_cons_succ, Array.getD_eq_getD_getElem?, List.getElem?_toArray, List.getElem?_cons_succ, List.getElem?_cons_zero, Option.getD_some])) | (refine gSeq_slice rfl (by rfl) _ _ _ _ rfl _ rfl _ _ rfl rfl _ (run_arr_h 64 Try.underlying27 (by kernel_rfl) s _ ((i + 64) - i) (by omega) (by omega)) ?_; (try simp only [Act.put, Act.eval, List.setIfInBounds_toArray, List.set_cons_zero, List.set_cons_succ, Array.getD_eq_getD_getElem?, List.getElem?_toArray, List.getElem?_cons_succ, List.getElem?_cons_zero, Option.getD_some])) | (refine gSeq_string rfl (by rfl) _ _ _ rfl 5 Try.underlying25 Try.underlying5 Try.underlying9 _ _ _ rfl (st.take ((i + 64) - i)) RA.out.1 RA.out.2 ?_; (try simp only [Act.put, Act.eval, List.setIfInBounds_toArray, List.set_cons_zero, List.set_cons_succ, Array.getD_eq_getD_getElem?, List.getElem?_toArray, List.getElem?_cons_succ, List.getElem?_cons_zero, Option.getD_some])) | (refine gSeq_string rfl (by rfl) _ _ _ rfl 5 Try.underlying25 Try.underlying5 Try.underlying9 _ _ _ rfl (st.take ((i + 64) - i)) RB.out.1 RB.out.2 ?_; (try simp only [Act.put, Act.eval, List.setIfInBounds_toArray, List.set_cons_zero, List.set_cons_succ, Array.getD_eq_getD_getElem?, List.getElem?_toArray, List.getElem?_cons_succ, List.getElem?_cons_zero, Option.getD_some]))) | (refine gSeq_still rfl (by rfl) ?_ ?_ ?_; (rotate_left; (intro w' hG; (have hwr := HWR.out); go_simp; (first | done | with_reducible rfl)); (try simp only [Act.put, Act.eval, List.setIfInBounds_toArray, List.set_cons_zero, List.set_cons_succ, Array.getD_eq_getD_getElem?, List.getElem?_toArray, List.getElem?_cons_succ, List.getElem?_cons_zero, Option.getD_some])))))
        refine gSeq_nil ?_
        go_wp2_with fail
        go_roundw
        case rel => exact ⟨i + 64, by omega, by omega, by go_num, Q1.out, Q2.out, HSR4, HG4.out⟩
        case measure => simp [intOf]; omega
    · go_wp2_with fail
      go_ret
      exact ⟨rfl, HG.out⟩
end Go.Proofs.Ytfhopjkpefclpaa
