/- ChachaBack, walked. -/
import Derived.Test.YtfhopjkpefclpaaChaP
namespace Go.Proofs.Ytfhopjkpefclpaa
set_option linter.unusedVariables false
set_option linter.unusedSimpArgs false
open Go.RowKit Go.Proofs.YtfhopjkpefclpaaL

theorem ret8_cap {w w' : World} {xs : List Int} {e : Ending} (h : Ret8 w xs e w') (h8 : ok8 xs) :
    ∃ ad cap, e = .returned (.slice ad xs.length cap) ∧ Sl8 w' ad xs.length xs ∧ xs.length ≤ cap ∧ w.grownBy w' none := by
  obtain ⟨v, rfl, ho, hg⟩ := h
  have hc := fun g hg => World.ownsRow.cells ho (g := g) hg
  obtain ⟨hl, ⟨rfl, h0⟩ | ⟨g, cap, cur, rfl, -, -, h1, -, -, -⟩⟩ := ho
  · rw [h0]
    exact ⟨none, 0, rfl, ⟨h0, h8, fun i hi => by omega⟩, Nat.le_refl _, hg⟩
  · refine ⟨_, _, rfl, ⟨rfl, h8, fun i hi => ⟨_, rfl, ?_⟩⟩, h1, hg⟩
    exact hc g rfl i _ (by simp [List.getElem?_eq_getElem hi])
theorem isRow_cap {k : IntKind} {w : World} {a : Option Addr} {len cap : Nat} {zs : List Int} (h : IsRow k w a len cap zs) : len ≤ cap := by
  rcases h with ⟨-, rfl, rfl, -⟩ | ⟨x, -, hl, -⟩
  · exact Nat.le_refl _
  · exact hl
theorem Sl8.rd {w : World} {a : Option Addr} {len : Nat} {bs : List Int} (h : Sl8 w a len bs) : Rd .u8 w a len bs := ⟨h.1, h.2.2⟩
theorem sl8_drop {w : World} {a : Option Addr} {len cap : Nat} {bs : List Int} (h : Sl8 w a len bs) (l : Nat) (hl : l ≤ len) (hm : len ≤ cap) : Sl8 w (subAt a l cap) (len - l) (bs.drop l) :=
  let r := rd_drop' h.rd l hl hm
  ⟨r.1, fun x hx => h.2.1 x (List.mem_of_mem_drop hx), r.2⟩

set_option maxHeartbeats 4000000 in
set_option maxRecDepth 100000 in
theorem back_walk (key nonce : List Int) (c : Int) (a : Option Addr) (len cap : Nat) (zs : List Int) (w : World) (hk : key.length = 32) (hk8 : ok8 key) (hn : nonce.length = 12) (hn8 : ok8 nonce) (hc0 : 0 ≤ c) (hc1 : c < 4294967296)
    (hb : IsRow .u8 w a len cap zs) :
    Calls Try.prog 4 #[.agg (enc8 key), .agg (enc8 nonce), .int .u32 c, .slice a len cap] w fun e w' => e = .returned (.bool true) ∧ w.grownBy w' none := by
  obtain ⟨hsl, -⟩ := isRow_sl8 hb
  have hcap := isRow_cap hb
  have HK := Lib.hid hk
  have HN := Lib.hid hn
  have HK8 := Lib.hid hk8
  have HN8 := Lib.hid hn8
  have HSL := Lib.hid hsl
  have HCAP := Lib.hid hcap
  have HC : Hid (0 ≤ c ∧ c < 4294967296) := ⟨hc0, hc1⟩
  obtain ⟨bs, hbs⟩ : ∃ bs, bs = zs.take len := ⟨_, rfl⟩
  rw [← hbs] at HSL
  have H63 : Hid ((len : Int) ≤ 9223372036854775807) := by
    rcases hb with ⟨-, h, -⟩ | ⟨x, -, h, h', -⟩
    · show (len : Int) ≤ _; omega
    · show (len : Int) ≤ _; unfold maxLen at h'; omega
  clear hk hn hk8 hn8 hb hsl hcap hbs
  go_enter Try.func4, Try.ntmps4
  go_wp2_with fail
  refine (known_any _).mono ?_
  rintro e w1 ⟨rfl, g1⟩
  obtain ⟨b, hbz⟩ : ∃ b, w.heap.size = b := ⟨_, rfl⟩
  have hk1 : w1.heap[b]? = some (.cells (enc8 key) 22 (0, 0)) := by
    rw [← hbz, g1.block _ (by simp only [alloc_size]; omega) (by simp), alloc_up _ _ (by simp only [alloc_size]; omega)]; exact alloc_at _ _ rfl
  have hn1 : w1.heap[b + 1]? = some (.cells (enc8 nonce) 23 (0, 0)) := by
    rw [← hbz, g1.block _ (by simp only [alloc_size]; omega) (by simp)]; exact alloc_at _ _ (by simp only [alloc_size])
  have hg1 : w.grownBy w1 none := grown_trans (grown_alloc (grown_alloc (grown_refl w none) _) _) g1
  rw [hbz]
  have HK1 := Lib.hid hk1
  have HN1 := Lib.hid hn1
  have HG1 := Lib.hid hg1
  clear hk1 hn1 hg1 g1 hbz
  have h63 := H63.out
  by_cases h300 : (len : Int) > 300
  · go_wp2_with fail
    go_ret
    exact ⟨rfl, HG1.out⟩
  · have H300 : Hid ((len : Int) ≤ 100000) := by show (len : Int) ≤ _; omega
    go_wp2_with (first | (refine wpList_load_row rfl 22 (.tmp 4) rfl b rfl _ _ _ _ HK1.out Try.underlying22 rfl (by rw [size_enc8, HK.out]; kernel_rfl) ?_) | (refine wpList_load_row rfl 23 (.tmp 5) rfl (b + 1) rfl _ _ _ _ HN1.out Try.underlying23 rfl (by rw [size_enc8, HN.out]; kernel_rfl) ?_))
    refine (xor_any key nonce c a len cap bs _ HK.out HN.out HK8.out HN8.out HC.out.1 HC.out.2 (HSL.out.kept HG1.out) H300.out).mono ?_
    intro e w2 hr
    obtain ⟨xs, hxs⟩ : ∃ xs, xs = xorL key c nonce bs len := ⟨_, rfl⟩
    have hx8 : ok8 xs := by rw [hxs]; exact ok_xorL _ _ _ _ _
    have hxl : xs.length = len := by rw [hxs, length_xorL]
    rw [← hxs] at hr
    obtain ⟨ad2, cap2, rfl, hs2, hcap2, g2⟩ := ret8_cap hr hx8
    rw [hxl] at hs2 hcap2 ⊢
    have hk2 := (g2.block _ (row_lt HK1.out) (by simp)).trans HK1.out
    have hn2 := (g2.block _ (row_lt HN1.out) (by simp)).trans HN1.out
    have hg2 := grown_trans HG1.out g2
    have HK2 := Lib.hid hk2
    have HN2 := Lib.hid hn2
    have HG2 := Lib.hid hg2
    have HXS := Lib.hid hxs
    have HX8 := Lib.hid hx8
    have HS2 := Lib.hid hs2
    have HCAP2 := Lib.hid hcap2
    clear hk2 hn2 hg2 g2 hxs hx8 hxl hs2 hcap2 hr HK1 HN1 HG1
    go_wp2_with fail
    refine wp_region_grow [(true, 0), (true, 1), (true, 2), (true, 3), (true, 4), (true, 5), (true, 6), (true, 7), (true, 8), (true, 9), (true, 12), (true, 13), (false, 10), (true, 11), (true, 14), (true, 15)] (by kernel_rfl) (by kernel_rfl) (fun _ _ _ _ _ h => h) ?_
    obtain ⟨w3, hw3⟩ : ∃ w3, w3 = w2.drew := ⟨_, rfl⟩
    rw [← hw3]
    have HK3 : Hid (w3.heap[b]? = some (.cells (enc8 key) 22 (0, 0))) := by rw [hw3]; exact HK2.out
    have HN3 : Hid (w3.heap[b + 1]? = some (.cells (enc8 nonce) 23 (0, 0))) := by rw [hw3]; exact HN2.out
    have HG3 : Hid (w.grownBy w3 none) := by rw [hw3]; exact grown_trans HG2.out (grown_drew _ _)
    have HS3 : Hid (Sl8 w3 ad2 len xs) := by rw [hw3]; exact HS2.out.kept (grown_drew _ _)
    have HSL3 : Hid (Sl8 w3 a len bs) := HSL.out.kept HG3.out
    clear hw3 HK2 HN2 HG2 HS2
    (repeat (first | (refine gSeq_skip rfl (by rfl) ?_; (try simp only [Act.put, Act.eval, List.setIfInBounds_toArray, List.set_cons_zero, List.set_cons_succ, Array.getD_eq_getD_getElem?, List.getElem?_toArray, List.getElem?_cons_succ, List.getElem?_cons_zero, Option.getD_some])) | (refine gSeq_move _ rfl rfl (by rfl) ?_; (try simp only [Act.put, Act.eval, List.setIfInBounds_toArray, List.set_cons_zero, List.set_cons_succ, Array.getD_eq_getD_getElem?, List.getElem?_toArray, List.getElem?_cons_succ, List.getElem?_cons_zero, Option.getD_some])) | (refine gSeq_assign _ rfl rfl (by rfl) ?_; (try simp only [Act.put, Act.eval, List.setIfInBounds_toArray, List.set_cons_zero, List.set_cons_succ, Array.getD_eq_getD_getElem?, List.getElem?_toArray, List.getElem?_cons_succ, List.getElem?_cons_zero, Option.getD_some])) | (first | (refine gSeq_row rfl (by rfl) _ _ rfl _ rfl _ _ _ _ HK3.out Try.underlying22 rfl (by rw [size_enc8, HK.out]; kernel_rfl) ?_; (try simp only [Act.put, Act.eval, List.setIfInBounds_toArray, List.set_cons_zero, List.set_cons_succ, Array.getD_eq_getD_getElem?, List.getElem?_toArray, List.getElem?_cons_succ, List.getElem?_cons_zero, Option.getD_some])) | (refine gSeq_row rfl (by rfl) _ _ rfl _ rfl _ _ _ _ HN3.out Try.underlying23 rfl (by rw [size_enc8, HN.out]; kernel_rfl) ?_; (try simp only [Act.put, Act.eval, List.setIfInBounds_toArray, List.set_cons_zero, List.set_cons_succ, Array.getD_eq_getD_getElem?, List.getElem?_toArray, List.getElem?_cons_succ, List.getElem?_cons_zero, Option.getD_some])) | (refine gSeq_string rfl (by rfl) _ _ _ rfl 5 Try.underlying25 Try.underlying5 Try.underlying9 _ _ _ rfl bs HSL3.out.1 HSL3.out.2.2 ?_; (try simp only [Act.put, Act.eval, List.setIfInBounds_toArray, List.set_cons_zero, List.set_cons_succ, Array.getD_eq_getD_getElem?, List.getElem?_toArray, List.getElem?_cons_succ, List.getElem?_cons_zero, Option.getD_some]))) | (refine gSeq_still rfl (by rfl) ?_ ?_ ?_; (rotate_left; (intro w' hG; (skip); go_simp; (first | done | with_reducible rfl)); (try simp only [Act.put, Act.eval, List.setIfInBounds_toArray, List.set_cons_zero, List.set_cons_succ, Array.getD_eq_getD_getElem?, List.getElem?_toArray, List.getElem?_cons_succ, List.getElem?_cons_zero, Option.getD_some])))))
    (refine gSeq_do rfl (by rfl) (fun K hK => ?_)); go_simp
    refine (xor_any key nonce c ad2 len cap2 xs _ HK.out HN.out HK8.out HN8.out HC.out.1 HC.out.2 HS3.out H300.out).mono ?_
    intro e w4 hr
    rw [HXS.out, xorL_twice key c nonce bs len HSL.out.1 HSL.out.2.1] at hr
    obtain ⟨ad4, cap4, rfl, hs4, hcap4, g4⟩ := ret8_cap hr HSL.out.2.1
    refine hK _ _ g4 ?_; clear hK K; (try simp only [Act.put, Act.eval, List.setIfInBounds_toArray, List.set_cons_zero, List.set_cons_succ, Array.getD_eq_getD_getElem?, List.getElem?_toArray, List.getElem?_cons_succ, List.getElem?_cons_zero, Option.getD_some])
    have hk4 := (g4.block _ (row_lt HK3.out) (by simp)).trans HK3.out
    have hn4 := (g4.block _ (row_lt HN3.out) (by simp)).trans HN3.out
    have hg4 := grown_trans HG3.out g4
    have hs4' := HS3.out.kept g4
    have HK4 := Lib.hid hk4
    have HN4 := Lib.hid hn4
    have HG4 := Lib.hid hg4
    have HT4 := Lib.hid hs4
    have HS4 := Lib.hid hs4'
    clear hk4 hn4 hg4 hs4 hs4' hcap4 g4 hr HK3 HN3 HG3 HS3 HSL3
    (repeat (first | (refine gSeq_skip rfl (by rfl) ?_; (try simp only [Act.put, Act.eval, List.setIfInBounds_toArray, List.set_cons_zero, List.set_cons_succ, Array.getD_eq_getD_getElem?, List.getElem?_toArray, List.getElem?_cons_succ, List.getElem?_cons_zero, Option.getD_some])) | (refine gSeq_move _ rfl rfl (by rfl) ?_; (try simp only [Act.put, Act.eval, List.setIfInBounds_toArray, List.set_cons_zero, List.set_cons_succ, Array.getD_eq_getD_getElem?, List.getElem?_toArray, List.getElem?_cons_succ, List.getElem?_cons_zero, Option.getD_some])) | (refine gSeq_assign _ rfl rfl (by rfl) ?_; (try simp only [Act.put, Act.eval, List.setIfInBounds_toArray, List.set_cons_zero, List.set_cons_succ, Array.getD_eq_getD_getElem?, List.getElem?_toArray, List.getElem?_cons_succ, List.getElem?_cons_zero, Option.getD_some])) | ((refine gSeq_string rfl (by rfl) _ _ _ rfl 5 Try.underlying25 Try.underlying5 Try.underlying9 _ _ _ rfl bs rfl HT4.out.2.2 ?_; (try simp only [Act.put, Act.eval, List.setIfInBounds_toArray, List.set_cons_zero, List.set_cons_succ, Array.getD_eq_getD_getElem?, List.getElem?_toArray, List.getElem?_cons_succ, List.getElem?_cons_zero, Option.getD_some]))) | (refine gSeq_still rfl (by rfl) ?_ ?_ ?_; (rotate_left; (intro w' hG; (skip); go_simp; (first | done | with_reducible rfl)); (try simp only [Act.put, Act.eval, List.setIfInBounds_toArray, List.set_cons_zero, List.set_cons_succ, Array.getD_eq_getD_getElem?, List.getElem?_toArray, List.getElem?_cons_succ, List.getElem?_cons_zero, Option.getD_some])))))
    refine gSeq_nil ?_
    go_wp2_with fail
    refine wp_region_grow [(true, 0), (true, 1), (true, 2), (true, 3), (true, 4), (true, 5), (true, 6), (true, 7), (true, 8), (true, 9), (true, 12), (true, 13), (true, 14), (false, 10), (true, 11), (true, 15), (true, 16), (true, 17)] (by kernel_rfl) (by kernel_rfl) (fun _ _ _ _ _ h => h) ?_
    obtain ⟨w5, hw5⟩ : ∃ w5, w5 = w4.drew := ⟨_, rfl⟩
    rw [← hw5]
    have HK5 : Hid (w5.heap[b]? = some (.cells (enc8 key) 22 (0, 0))) := by rw [hw5]; exact HK4.out
    have HN5 : Hid (w5.heap[b + 1]? = some (.cells (enc8 nonce) 23 (0, 0))) := by rw [hw5]; exact HN4.out
    have HG5 : Hid (w.grownBy w5 none) := by rw [hw5]; exact grown_trans HG4.out (grown_drew _ _)
    have HS5 : Hid (Sl8 w5 ad2 len xs) := by rw [hw5]; exact HS4.out.kept (grown_drew _ _)
    have HSL5 : Hid (Sl8 w5 a len bs) := HSL.out.kept HG5.out
    clear hw5 HK4 HN4 HG4 HS4 HT4
    by_cases h64 : len < 64
    · have h64' : (len : Int) < 64 := by omega
      have hdec : decide ((len : Int) < 64) = true := decide_eq_true h64'
      (repeat (first | (refine gSeq_skip rfl (by rfl) ?_; (try simp only [Act.put, Act.eval, List.setIfInBounds_toArray, List.set_cons_zero, List.set_cons_succ, Array.getD_eq_getD_getElem?, List.getElem?_toArray, List.getElem?_cons_succ, List.getElem?_cons_zero, Option.getD_some])) | (refine gSeq_move _ rfl rfl (by rfl) ?_; (try simp only [Act.put, Act.eval, List.setIfInBounds_toArray, List.set_cons_zero, List.set_cons_succ, Array.getD_eq_getD_getElem?, List.getElem?_toArray, List.getElem?_cons_succ, List.getElem?_cons_zero, Option.getD_some])) | (refine gSeq_assign _ rfl rfl (by rfl) ?_; (try simp only [Act.put, Act.eval, List.setIfInBounds_toArray, List.set_cons_zero, List.set_cons_succ, Array.getD_eq_getD_getElem?, List.getElem?_toArray, List.getElem?_cons_succ, List.getElem?_cons_zero, Option.getD_some])) | (fail) | (refine gSeq_still rfl (by rfl) ?_ ?_ ?_; (rotate_left; (intro w' hG; (skip); go_simp; (first | done | with_reducible rfl)); (try simp only [Act.put, Act.eval, List.setIfInBounds_toArray, List.set_cons_zero, List.set_cons_succ, Array.getD_eq_getD_getElem?, List.getElem?_toArray, List.getElem?_cons_succ, List.getElem?_cons_zero, Option.getD_some])))))
      refine gSeq_nil ?_
      go_wp2_with fail
      go_ret
      exact ⟨rfl, HG5.out⟩
    · have h64' : ¬ (len : Int) < 64 := by omega
      have hdec : decide ((len : Int) < 64) = false := decide_eq_false h64'
      have HSD := Lib.hid (sl8_drop HS5.out 64 (by omega) HCAP2.out)
      (repeat (first | (refine gSeq_skip rfl (by rfl) ?_; (try simp only [Act.put, Act.eval, List.setIfInBounds_toArray, List.set_cons_zero, List.set_cons_succ, Array.getD_eq_getD_getElem?, List.getElem?_toArray, List.getElem?_cons_succ, List.getElem?_cons_zero, Option.getD_some])) | (refine gSeq_move _ rfl rfl (by rfl) ?_; (try simp only [Act.put, Act.eval, List.setIfInBounds_toArray, List.set_cons_zero, List.set_cons_succ, Array.getD_eq_getD_getElem?, List.getElem?_toArray, List.getElem?_cons_succ, List.getElem?_cons_zero, Option.getD_some])) | (refine gSeq_assign _ rfl rfl (by rfl) ?_; (try simp only [Act.put, Act.eval, List.setIfInBounds_toArray, List.set_cons_zero, List.set_cons_succ, Array.getD_eq_getD_getElem?, List.getElem?_toArray, List.getElem?_cons_succ, List.getElem?_cons_zero, Option.getD_some])) | (first | (refine gSeq_row rfl (by rfl) _ _ rfl _ rfl _ _ _ _ HK5.out Try.underlying22 rfl (by rw [size_enc8, HK.out]; kernel_rfl) ?_; (try simp only [Act.put, Act.eval, List.setIfInBounds_toArray, List.set_cons_zero, List.set_cons_succ, Array.getD_eq_getD_getElem?, List.getElem?_toArray, List.getElem?_cons_succ, List.getElem?_cons_zero, Option.getD_some])) | (refine gSeq_row rfl (by rfl) _ _ rfl _ rfl _ _ _ _ HN5.out Try.underlying23 rfl (by rw [size_enc8, HN.out]; kernel_rfl) ?_; (try simp only [Act.put, Act.eval, List.setIfInBounds_toArray, List.set_cons_zero, List.set_cons_succ, Array.getD_eq_getD_getElem?, List.getElem?_toArray, List.getElem?_cons_succ, List.getElem?_cons_zero, Option.getD_some])) | (refine gSeq_slice rfl (by rfl) _ _ _ _ rfl _ rfl _ _ rfl rfl _ (run_sub_l Try.underlying25 (by kernel_rfl) 64 64 rfl (by omega)) ?_; (try simp only [Act.put, Act.eval, List.setIfInBounds_toArray, List.set_cons_zero, List.set_cons_succ, Array.getD_eq_getD_getElem?, List.getElem?_toArray, List.getElem?_cons_succ, List.getElem?_cons_zero, Option.getD_some])) | (refine gSeq_string rfl (by rfl) _ _ _ rfl 5 Try.underlying25 Try.underlying5 Try.underlying9 _ _ _ rfl (xs.drop 64) HSD.out.1 HSD.out.2.2 ?_; (try simp only [Act.put, Act.eval, List.setIfInBounds_toArray, List.set_cons_zero, List.set_cons_succ, Array.getD_eq_getD_getElem?, List.getElem?_toArray, List.getElem?_cons_succ, List.getElem?_cons_zero, Option.getD_some]))) | (refine gSeq_still rfl (by rfl) ?_ ?_ ?_; (rotate_left; (intro w' hG; (skip); go_simp; (first | done | with_reducible rfl)); (try simp only [Act.put, Act.eval, List.setIfInBounds_toArray, List.set_cons_zero, List.set_cons_succ, Array.getD_eq_getD_getElem?, List.getElem?_toArray, List.getElem?_cons_succ, List.getElem?_cons_zero, Option.getD_some])))))
      (refine gSeq_do rfl (by rfl) (fun K hK => ?_)); go_simp
      refine (xor_any key nonce ((c + 1) % 4294967296) (subAt a 64 cap) (len - 64) (cap - 64) (bs.drop 64) _ HK.out HN.out HK8.out HN8.out (by omega) (by omega) (sl8_drop HSL5.out 64 (by omega) HCAP.out) (by have := H300.out; omega)).mono ?_
      intro e w6 hr
      rw [xorL_tail key c nonce bs len (by omega), ← HXS.out] at hr
      obtain ⟨ad6, cap6, rfl, hs6, -, g6⟩ := ret8_cap hr (fun x hx => HX8.out x (List.mem_of_mem_drop hx))
      refine hK _ _ g6 ?_; clear hK K; (try simp only [Act.put, Act.eval, List.setIfInBounds_toArray, List.set_cons_zero, List.set_cons_succ, Array.getD_eq_getD_getElem?, List.getElem?_toArray, List.getElem?_cons_succ, List.getElem?_cons_zero, Option.getD_some])
      have hg6 := grown_trans HG5.out g6
      have HG6 := Lib.hid hg6
      have HS6 := Lib.hid hs6
      clear hg6 hs6 g6 hr HK5 HN5 HG5 HS5 HSL5
      (repeat (first | (refine gSeq_skip rfl (by rfl) ?_; (try simp only [Act.put, Act.eval, List.setIfInBounds_toArray, List.set_cons_zero, List.set_cons_succ, Array.getD_eq_getD_getElem?, List.getElem?_toArray, List.getElem?_cons_succ, List.getElem?_cons_zero, Option.getD_some])) | (refine gSeq_move _ rfl rfl (by rfl) ?_; (try simp only [Act.put, Act.eval, List.setIfInBounds_toArray, List.set_cons_zero, List.set_cons_succ, Array.getD_eq_getD_getElem?, List.getElem?_toArray, List.getElem?_cons_succ, List.getElem?_cons_zero, Option.getD_some])) | (refine gSeq_assign _ rfl rfl (by rfl) ?_; (try simp only [Act.put, Act.eval, List.setIfInBounds_toArray, List.set_cons_zero, List.set_cons_succ, Array.getD_eq_getD_getElem?, List.getElem?_toArray, List.getElem?_cons_succ, List.getElem?_cons_zero, Option.getD_some])) | ((refine gSeq_string rfl (by rfl) _ _ _ rfl 5 Try.underlying25 Try.underlying5 Try.underlying9 _ _ _ rfl (xs.drop 64) rfl HS6.out.2.2 ?_; (try simp only [Act.put, Act.eval, List.setIfInBounds_toArray, List.set_cons_zero, List.set_cons_succ, Array.getD_eq_getD_getElem?, List.getElem?_toArray, List.getElem?_cons_succ, List.getElem?_cons_zero, Option.getD_some]))) | (refine gSeq_still rfl (by rfl) ?_ ?_ ?_; (rotate_left; (intro w' hG; (skip); go_simp; (first | done | with_reducible rfl)); (try simp only [Act.put, Act.eval, List.setIfInBounds_toArray, List.set_cons_zero, List.set_cons_succ, Array.getD_eq_getD_getElem?, List.getElem?_toArray, List.getElem?_cons_succ, List.getElem?_cons_zero, Option.getD_some])))))
      refine gSeq_nil ?_
      go_wp2_with fail
      go_ret
      exact ⟨rfl, HG6.out⟩
end Go.Proofs.Ytfhopjkpefclpaa
