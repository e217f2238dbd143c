/- ChachaTells, walked. -/
import Derived.Test.YtfhopjkpefclpaaChaM
namespace Go.Proofs.Ytfhopjkpefclpaa
set_option linter.unusedVariables false
set_option linter.unusedSimpArgs false
open Go.RowKit Go.Proofs.YtfhopjkpefclpaaL

set_option maxHeartbeats 4000000 in
set_option maxRecDepth 100000 in
theorem tells_walk (key nonce : List Int) (ctr : Int) (a : Option Addr) (len cap : Nat) (zs : List Int) (over : Bool) (w : World) (hk : key.length = 32) (hk8 : ok8 key) (hn : nonce.length = 12) (hn8 : ok8 nonce) (hc0 : 0 ≤ ctr) (hc1 : ctr < 4294967296)
    (hb : IsRow .u8 w a len cap zs) :
    Calls Try.prog 3 #[.agg (enc8 key), .agg (enc8 nonce), .int .u32 ctr, .slice a len cap, .bool over] w fun e w' => e = .returned (.bool true) ∧ w.grownBy w' none := by
  obtain ⟨hsl, hnil⟩ := isRow_sl8 hb
  have HK := Lib.hid hk
  have HN := Lib.hid hn
  have HK8 := Lib.hid hk8
  have HN8 := Lib.hid hn8
  have HSL := Lib.hid hsl
  have HNIL := Lib.hid hnil
  obtain ⟨bs, hbs⟩ : ∃ bs, bs = zs.take len := ⟨_, rfl⟩
  rw [← hbs] at HSL
  have H63 : Hid ((len : Int) ≤ 9223372036854775807) := by
    rcases hb with ⟨-, h, -⟩ | ⟨x, -, h, h', -⟩
    · show (len : Int) ≤ _; omega
    · show (len : Int) ≤ _; unfold maxLen at h'; omega
  clear hk hn hk8 hn8 hb hsl hnil hbs
  go_enter Try.func3, Try.ntmps3
  go_wp2_with fail
  refine (known_any _).mono ?_
  rintro e w1 ⟨rfl, g1⟩
  obtain ⟨b, hbz⟩ : ∃ b, w.heap.size = b := ⟨_, rfl⟩
  have hk1 : w1.heap[b]? = some (.cells (enc8 key) 22 (0, 0)) := by
    rw [← hbz, g1.block _ (by simp only [alloc_size]; omega) (by simp), alloc_up _ _ (by simp only [alloc_size]; omega)]; exact alloc_at _ _ rfl
  have hn1 : w1.heap[b + 1]? = some (.cells (enc8 nonce) 23 (0, 0)) := by
    rw [← hbz, g1.block _ (by simp only [alloc_size]; omega) (by simp)]; exact alloc_at _ _ (by simp only [alloc_size])
  have hg1 : w.grownBy w1 none := grown_trans (grown_alloc (grown_alloc (grown_refl w none) _) _) g1
  rw [hbz]
  have HK1 := Lib.hid hk1
  have HN1 := Lib.hid hn1
  have HG1 := Lib.hid hg1
  clear hk1 hn1 hg1 g1 hbz
  have h63 := H63.out
  by_cases h300 : (len : Int) > 300
  · go_wp2_with fail
    go_ret
    exact ⟨rfl, HG1.out⟩
  · have H300 : Hid ((len : Int) ≤ 100000) := by show (len : Int) ≤ _; omega
    cases over
    case' true =>
      go_wp2_with fail
      obtain ⟨c, hc⟩ : ∃ c, c = bits .or .u32 ctr 4294967294 := ⟨_, rfl⟩
      rw [← hc]
      have HC : Hid (0 ≤ c ∧ c < 4294967296) := by rw [hc]; exact bits_range32 _ _ _
      clear hc
    case' false =>
      go_wp2_with fail
      obtain ⟨c, hc⟩ : ∃ c, c = ctr := ⟨_, rfl⟩
      have HC : Hid (0 ≤ c ∧ c < 4294967296) := by rw [hc]; exact ⟨hc0, hc1⟩
      rw [← hc]
      clear hc
    all_goals
      refine wp_region_grow [(true, 0), (true, 1), (true, 2), (true, 4), (true, 5), (true, 6), (false, 3), (false, 7), (true, 8), (true, 9), (true, 10), (true, 11), (true, 12), (true, 13), (true, 16), (true, 17), (true, 18), (true, 19), (false, 14), (true, 15), (false, 20), (true, 21), (true, 22), (true, 23), (true, 24)] (by kernel_rfl) (by kernel_rfl) (fun _ _ _ _ _ h => h) ?_
      obtain ⟨w2, hw2⟩ : ∃ w2, w2 = w1.drew := ⟨_, rfl⟩
      rw [← hw2]
      have hk2 : w2.heap[b]? = some (.cells (enc8 key) 22 (0, 0)) := by rw [hw2]; exact HK1.out
      have hn2 : w2.heap[b + 1]? = some (.cells (enc8 nonce) 23 (0, 0)) := by rw [hw2]; exact HN1.out
      have hg2 : w.grownBy w2 none := by rw [hw2]; exact grown_trans HG1.out (grown_drew _ _)
      have HK2 := Lib.hid hk2
      have HN2 := Lib.hid hn2
      have HG2 := Lib.hid hg2
      clear hk2 hn2 hg2 hw2 HK1 HN1 HG1
      (repeat (first | (refine gSeq_skip rfl (by rfl) ?_; (try simp only [Act.put, Act.eval, List.setIfInBounds_toArray, List.set_cons_zero, List.set_cons_succ, Array.getD_eq_getD_getElem?, List.getElem?_toArray, List.getElem?_cons_succ, List.getElem?_cons_zero, Option.getD_some])) | (refine gSeq_move _ rfl rfl (by rfl) ?_; (try simp only [Act.put, Act.eval, List.setIfInBounds_toArray, List.set_cons_zero, List.set_cons_succ, Array.getD_eq_getD_getElem?, List.getElem?_toArray, List.getElem?_cons_succ, List.getElem?_cons_zero, Option.getD_some])) | (refine gSeq_assign _ rfl rfl (by rfl) ?_; (try simp only [Act.put, Act.eval, List.setIfInBounds_toArray, List.set_cons_zero, List.set_cons_succ, Array.getD_eq_getD_getElem?, List.getElem?_toArray, List.getElem?_cons_succ, List.getElem?_cons_zero, Option.getD_some])) | (first | (refine gSeq_row rfl (by rfl) _ _ rfl _ rfl _ _ _ _ HK2.out Try.underlying22 rfl (by rw [size_enc8, HK.out]; kernel_rfl) ?_; (try simp only [Act.put, Act.eval, List.setIfInBounds_toArray, List.set_cons_zero, List.set_cons_succ, Array.getD_eq_getD_getElem?, List.getElem?_toArray, List.getElem?_cons_succ, List.getElem?_cons_zero, Option.getD_some])) | (refine gSeq_row rfl (by rfl) _ _ rfl _ rfl _ _ _ _ HN2.out Try.underlying23 rfl (by rw [size_enc8, HN.out]; kernel_rfl) ?_; (try simp only [Act.put, Act.eval, List.setIfInBounds_toArray, List.set_cons_zero, List.set_cons_succ, Array.getD_eq_getD_getElem?, List.getElem?_toArray, List.getElem?_cons_succ, List.getElem?_cons_zero, Option.getD_some]))) | (refine gSeq_still rfl (by rfl) ?_ ?_ ?_; (rotate_left; (intro w' hG; (skip); go_simp; (first | done | with_reducible rfl)); (try simp only [Act.put, Act.eval, List.setIfInBounds_toArray, List.set_cons_zero, List.set_cons_succ, Array.getD_eq_getD_getElem?, List.getElem?_toArray, List.getElem?_cons_succ, List.getElem?_cons_zero, Option.getD_some])))))
      (refine gSeq_do rfl (by rfl) (fun K hK => ?_)); go_simp
      refine (block_any key nonce c _ HK.out HN.out HK8.out HN8.out HC.out.1 HC.out.2).mono ?_
      rintro e w3 ⟨rfl, g3⟩
      refine hK _ _ g3 ?_; clear hK K; (try simp only [Act.put, Act.eval, List.setIfInBounds_toArray, List.set_cons_zero, List.set_cons_succ, Array.getD_eq_getD_getElem?, List.getElem?_toArray, List.getElem?_cons_succ, List.getElem?_cons_zero, Option.getD_some])
      obtain ⟨st, hst⟩ : ∃ st, st = blk key c nonce := ⟨_, rfl⟩
      have hl : st.length = 64 := by rw [hst]; exact length_outs _ _ _
      rw [← hst]
      have HST := Lib.hid hst
      have HL := Lib.hid hl
      clear hst hl
      (refine gSeq_do rfl (by rfl) (fun K hK => ?_)); go_simp
      refine (rblock_any key nonce c _ HK.out HN.out HK8.out HN8.out HC.out.1 HC.out.2).mono ?_
      rintro e w4 ⟨rfl, g4⟩
      refine hK _ _ g4 ?_; clear hK K; (try simp only [Act.put, Act.eval, List.setIfInBounds_toArray, List.set_cons_zero, List.set_cons_succ, Array.getD_eq_getD_getElem?, List.getElem?_toArray, List.getElem?_cons_succ, List.getElem?_cons_zero, Option.getD_some])
      rw [← HST.out]
      have hk4 := ((g3.block _ (row_lt HK2.out) (by simp)).trans HK2.out)
      have hk4' := ((g4.block _ (row_lt hk4) (by simp)).trans hk4)
      have hn4 := ((g3.block _ (row_lt HN2.out) (by simp)).trans HN2.out)
      have hn4' := ((g4.block _ (row_lt hn4) (by simp)).trans hn4)
      have hg4 := grown_trans (grown_trans HG2.out g3) g4
      have HK4 := Lib.hid hk4'
      have HN4 := Lib.hid hn4'
      have HG4 := Lib.hid hg4
      clear hk4 hk4' hn4 hn4' hg4 g3 g4 HK2 HN2 HG2
      (repeat (first | (refine gSeq_skip rfl (by rfl) ?_; (try simp only [Act.put, Act.eval, List.setIfInBounds_toArray, List.set_cons_zero, List.set_cons_succ, Array.getD_eq_getD_getElem?, List.getElem?_toArray, List.getElem?_cons_succ, List.getElem?_cons_zero, Option.getD_some])) | (refine gSeq_move _ rfl rfl (by rfl) ?_; (try simp only [Act.put, Act.eval, List.setIfInBounds_toArray, List.set_cons_zero, List.set_cons_succ, Array.getD_eq_getD_getElem?, List.getElem?_toArray, List.getElem?_cons_succ, List.getElem?_cons_zero, Option.getD_some])) | (refine gSeq_assign _ rfl rfl (by rfl) ?_; (try simp only [Act.put, Act.eval, List.setIfInBounds_toArray, List.set_cons_zero, List.set_cons_succ, Array.getD_eq_getD_getElem?, List.getElem?_toArray, List.getElem?_cons_succ, List.getElem?_cons_zero, Option.getD_some])) | (first | (refine gSeq_eql rfl (by rfl) _ _ _ _ rfl _ _ _ Try.underlying27 Try.underlying5 (by kernel_rfl) (by kernel_rfl) st st rfl rfl HL.out HL.out true (by simp) ?_; (try simp only [Act.put, Act.eval, List.setIfInBounds_toArray, List.set_cons_zero, List.set_cons_succ, Array.getD_eq_getD_getElem?, List.getElem?_toArray, List.getElem?_cons_succ, List.getElem?_cons_zero, Option.getD_some])) | (refine gSeq_row rfl (by rfl) _ _ rfl _ rfl _ _ _ _ HK4.out Try.underlying22 rfl (by rw [size_enc8, HK.out]; kernel_rfl) ?_; (try simp only [Act.put, Act.eval, List.setIfInBounds_toArray, List.set_cons_zero, List.set_cons_succ, Array.getD_eq_getD_getElem?, List.getElem?_toArray, List.getElem?_cons_succ, List.getElem?_cons_zero, Option.getD_some])) | (refine gSeq_row rfl (by rfl) _ _ rfl _ rfl _ _ _ _ HN4.out Try.underlying23 rfl (by rw [size_enc8, HN.out]; kernel_rfl) ?_; (try simp only [Act.put, Act.eval, List.setIfInBounds_toArray, List.set_cons_zero, List.set_cons_succ, Array.getD_eq_getD_getElem?, List.getElem?_toArray, List.getElem?_cons_succ, List.getElem?_cons_zero, Option.getD_some]))) | (refine gSeq_still rfl (by rfl) ?_ ?_ ?_; (rotate_left; (intro w' hG; (skip); go_simp; (first | done | with_reducible rfl)); (try simp only [Act.put, Act.eval, List.setIfInBounds_toArray, List.set_cons_zero, List.set_cons_succ, Array.getD_eq_getD_getElem?, List.getElem?_toArray, List.getElem?_cons_succ, List.getElem?_cons_zero, Option.getD_some])))))
      (refine gSeq_do rfl (by rfl) (fun K hK => ?_)); go_simp
      refine (xor_any key nonce c a len cap bs _ HK.out HN.out HK8.out HN8.out HC.out.1 HC.out.2 (HSL.out.kept HG4.out) H300.out).mono ?_
      intro e w5 hr
      obtain ⟨xs, hxs⟩ : ∃ xs, xs = xorL key c nonce bs len := ⟨_, rfl⟩
      have hx8 : ok8 xs := by rw [hxs]; exact ok_xorL _ _ _ _ _
      rw [← hxs] at hr
      obtain ⟨ad5, cap5, rfl, hs5, -, g5⟩ := ret8_open hr hx8
      refine hK _ _ g5 ?_; clear hK K; (try simp only [Act.put, Act.eval, List.setIfInBounds_toArray, List.set_cons_zero, List.set_cons_succ, Array.getD_eq_getD_getElem?, List.getElem?_toArray, List.getElem?_cons_succ, List.getElem?_cons_zero, Option.getD_some])
      have HXS := Lib.hid hxs
      have HS5 := Lib.hid hs5
      have hg5 := grown_trans HG4.out g5
      have HG5 := Lib.hid hg5
      clear hxs hs5 hg5 g5 hr HK4 HN4 HG4
      (repeat (first | (refine gSeq_skip rfl (by rfl) ?_; (try simp only [Act.put, Act.eval, List.setIfInBounds_toArray, List.set_cons_zero, List.set_cons_succ, Array.getD_eq_getD_getElem?, List.getElem?_toArray, List.getElem?_cons_succ, List.getElem?_cons_zero, Option.getD_some])) | (refine gSeq_move _ rfl rfl (by rfl) ?_; (try simp only [Act.put, Act.eval, List.setIfInBounds_toArray, List.set_cons_zero, List.set_cons_succ, Array.getD_eq_getD_getElem?, List.getElem?_toArray, List.getElem?_cons_succ, List.getElem?_cons_zero, Option.getD_some])) | (refine gSeq_assign _ rfl rfl (by rfl) ?_; (try simp only [Act.put, Act.eval, List.setIfInBounds_toArray, List.set_cons_zero, List.set_cons_succ, Array.getD_eq_getD_getElem?, List.getElem?_toArray, List.getElem?_cons_succ, List.getElem?_cons_zero, Option.getD_some])) | ((refine gSeq_string rfl (by rfl) _ _ _ rfl 5 Try.underlying25 Try.underlying5 Try.underlying9 _ _ _ rfl xs rfl HS5.out.2.2 ?_; (try simp only [Act.put, Act.eval, List.setIfInBounds_toArray, List.set_cons_zero, List.set_cons_succ, Array.getD_eq_getD_getElem?, List.getElem?_toArray, List.getElem?_cons_succ, List.getElem?_cons_zero, Option.getD_some]))) | (refine gSeq_still rfl (by rfl) ?_ ?_ ?_; (rotate_left; (intro w' hG; (skip); go_simp; (first | done | with_reducible rfl)); (try simp only [Act.put, Act.eval, List.setIfInBounds_toArray, List.set_cons_zero, List.set_cons_succ, Array.getD_eq_getD_getElem?, List.getElem?_toArray, List.getElem?_cons_succ, List.getElem?_cons_zero, Option.getD_some])))))
      (refine gSeq_do rfl (by rfl) (fun K hK => ?_)); go_simp
      refine (rxor_any key nonce c a len cap bs _ HK.out HN.out HK8.out HN8.out HC.out.1 HC.out.2 (HSL.out.kept HG5.out) HNIL.out H300.out).mono ?_
      intro e w6 hr
      rw [← HXS.out] at hr
      obtain ⟨ad6, cap6, rfl, hs6, -, g6⟩ := ret8_open hr hx8
      refine hK _ _ g6 ?_; clear hK K; (try simp only [Act.put, Act.eval, List.setIfInBounds_toArray, List.set_cons_zero, List.set_cons_succ, Array.getD_eq_getD_getElem?, List.getElem?_toArray, List.getElem?_cons_succ, List.getElem?_cons_zero, Option.getD_some])
      have HS6 := Lib.hid hs6
      have hg6 := grown_trans HG5.out g6
      have HG6 := Lib.hid hg6
      clear hs6 hg6 g6 hr HG5 HS5
      (repeat (first | (refine gSeq_skip rfl (by rfl) ?_; (try simp only [Act.put, Act.eval, List.setIfInBounds_toArray, List.set_cons_zero, List.set_cons_succ, Array.getD_eq_getD_getElem?, List.getElem?_toArray, List.getElem?_cons_succ, List.getElem?_cons_zero, Option.getD_some])) | (refine gSeq_move _ rfl rfl (by rfl) ?_; (try simp only [Act.put, Act.eval, List.setIfInBounds_toArray, List.set_cons_zero, List.set_cons_succ, Array.getD_eq_getD_getElem?, List.getElem?_toArray, List.getElem?_cons_succ, List.getElem?_cons_zero, Option.getD_some])) | (refine gSeq_assign _ rfl rfl (by rfl) ?_; (try simp only [Act.put, Act.eval, List.setIfInBounds_toArray, List.set_cons_zero, List.set_cons_succ, Array.getD_eq_getD_getElem?, List.getElem?_toArray, List.getElem?_cons_succ, List.getElem?_cons_zero, Option.getD_some])) | ((refine gSeq_string rfl (by rfl) _ _ _ rfl 5 Try.underlying25 Try.underlying5 Try.underlying9 _ _ _ rfl xs rfl HS6.out.2.2 ?_; (try simp only [Act.put, Act.eval, List.setIfInBounds_toArray, List.set_cons_zero, List.set_cons_succ, Array.getD_eq_getD_getElem?, List.getElem?_toArray, List.getElem?_cons_succ, List.getElem?_cons_zero, Option.getD_some]))) | (refine gSeq_still rfl (by rfl) ?_ ?_ ?_; (rotate_left; (intro w' hG; (skip); go_simp; (first | done | with_reducible rfl)); (try simp only [Act.put, Act.eval, List.setIfInBounds_toArray, List.set_cons_zero, List.set_cons_succ, Array.getD_eq_getD_getElem?, List.getElem?_toArray, List.getElem?_cons_succ, List.getElem?_cons_zero, Option.getD_some])))))
      refine gSeq_nil ?_
      go_wp2_with fail
      go_ret
      exact ⟨rfl, HG6.out⟩
end Go.Proofs.Ytfhopjkpefclpaa
