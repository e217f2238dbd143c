/- The law's known block, walked. -/
import Derived.Test.YtfhopjkpefclpaaChaK
import Derived.Test.YtfhopjkpefclpaaGrow
namespace Go.Proofs.Ytfhopjkpefclpaa
set_option linter.unusedVariables false
set_option linter.unusedSimpArgs false
open Go.RowKit Go.Proofs.YtfhopjkpefclpaaL

def keyK (k : Nat) : List Int := (List.range k).map (fun n : Nat => (n : Int)) ++ List.replicate (32 - k) 0
theorem length_keyK (k : Nat) (h : k ≤ 32) : (keyK k).length = 32 := by simp [keyK]; omega
theorem keyK_step (k : Nat) (h : k < 32) : (keyK k).set k (k : Int) = keyK (k + 1) := by
  rw [keyK, List.set_append_right _ _ (by simp), show 32 - k = (32 - (k + 1)) + 1 by omega, List.replicate_succ]
  simp [keyK, List.range_succ]
theorem keyK_all : keyK 32 = kKey := by decide +kernel
theorem ok_kKey : ok8 kKey := by unfold ok8 kKey; decide
theorem ok_kNonce : ok8 kNonce := by unfold ok8 kNonce; decide

set_option maxHeartbeats 4000000 in
set_option maxRecDepth 100000 in
theorem known_any (w : World) : Calls Try.prog 6 #[] w fun e w' => e = .returned (.bool true) ∧ w.grownBy w' none := by
  go_enter Try.func6, Try.ntmps6
  go_wp2_with fail
  obtain ⟨b, hb⟩ : ∃ b, w.heap.size = b := ⟨_, rfl⟩
  rw [hb]
  have HB := Lib.hid hb
  clear hb
  go_loopw [2] (fun v wr => ∃ k : Nat, k ≤ 32 ∧ v = .int .i64 k ∧ wr.heap[b]? = some (.cells (enc8 (keyK k)) 22 (0, 0)) ∧ w.grownBy wr none) (fun v _ => 32 - (intOf v).toNat)
  case atStart => exact ⟨0, by omega, rfl, (alloc_at _ _ HB.out.symm), grown_alloc (grown_refl w none) _⟩
  case round =>
    obtain ⟨k, hk, rfl, r1, hg⟩ := hrel
    have R1 := Lib.hid r1
    have HG := Lib.hid hg
    clear r1 hg
    by_cases hlt : k < 32
    · have hlt' : (k : Int) < 32 := by omega
      go_wp2_with (refine wpList_store_cell rfl 5 (.tmp 11) (.tmp 10) rfl b k _ (by simp [Act.eval]) rfl _ _ R1.out (by rw [size_enc8, length_keyK k hk]; exact hlt) (by kernel_rfl) rfl rfl ?_)
      intro w6 r6 g6
      have r7 := row8_set r6
      rw [keyK_step k hlt] at r7
      have R7 := Lib.hid r7
      have G6 := Lib.hid g6
      clear r6 r7 g6
      go_wp2_with fail
      go_roundw
      case rel => exact ⟨k + 1, by omega, by go_num, R7.out, grown_row HG.out G6.out (fun j hj => by injection hj with hj; have := HB.out; omega)⟩
      case measure => simp [intOf]; omega
    · have : k = 32 := by omega
      subst this
      rw [keyK_all] at R1
      go_wp2_with (first | (refine wpList_load_row rfl 22 (.tmp 1) rfl b rfl _ _ _ _ R1.out Try.underlying22 rfl (by rw [size_enc8]; kernel_rfl) ?_))
      refine (block_any kKey kNonce 1 _ rfl rfl ok_kKey ok_kNonce (by omega) (by omega)).mono ?_
      rintro e w2 ⟨rfl, g2⟩
      obtain ⟨st, hst⟩ : ∃ st, st = blk kKey 1 kNonce := ⟨_, rfl⟩
      have hl : st.length = 64 := by rw [hst]; exact length_outs _ _ _
      have h0 : st.getD 0 0 = 16 := by rw [hst]; exact k_0
      have h1 : st.getD 1 0 = 241 := by rw [hst]; exact k_1
      rw [← hst]
      have q1 := (g2.block _ (row_lt R1.out) (by simp)).trans R1.out
      have hg2 := grown_trans HG.out g2
      have Q1 := Lib.hid q1
      have HG2 := Lib.hid hg2
      have HST := Lib.hid hst
      have HL := Lib.hid hl
      have H0 := Lib.hid h0
      have H1 := Lib.hid h1
      clear q1 hg2 g2 hst hl h0 h1 R1 HG
      obtain ⟨s, hs⟩ : ∃ s, w2.heap.size = s := ⟨_, rfl⟩
      have hbs : b < s := by rw [← hs]; exact row_lt Q1.out
      have HS := Lib.hid hs
      have HBS := Lib.hid hbs
      clear hs hbs
      go_wp2_with (refine wpList_store_range rfl 27 (.tmp 3) (.tmp 14) rfl s 0 (enc8 st) (by simp [Act.eval, HS.out]) rfl _ (enc8 (List.replicate 64 0)) (alloc_at _ _ HS.out.symm) (by rw [size_enc8, size_enc8, HL.out]; decide) (by rw [size_enc8, HL.out]; kernel_rfl) (one_enc8 st) ?_)
      intro w3 r3 g3
      rw [putAt_all _ _ (by rw [Array.length_toList, size_enc8, size_enc8, HL.out]; rfl)] at r3
      have q3 : w3.heap[s]? = some (.cells (enc8 st) 27 (0, 0)) := r3
      have q1 : w3.heap[b]? = some (.cells (enc8 kKey) 22 (0, 0)) := by
        rw [g3.block _ (by simp only [alloc_size]; have := HS.out; have := HBS.out; omega) (by intro e; injection e; have := HBS.out; omega), alloc_up _ _ (by rw [HS.out]; exact HBS.out)]; exact Q1.out
      have hg3 : w.grownBy w3 none := grown_row (grown_alloc HG2.out _) g3 (fun j hj => by injection hj with hj; have := HB.out; have := HBS.out; omega)
      have P1 := Lib.hid q1
      have P3 := Lib.hid q3
      have HG3 := Lib.hid hg3
      clear q1 q3 hg3 r3 g3 Q1 HG2
      rw [HS.out]
      go_wp2_with fail
      refine wp_region_grow [(true, 0), (true, 1), (true, 2), (false, 3), (true, 4), (true, 5), (true, 6), (true, 7), (true, 8), (true, 9), (true, 10), (true, 11), (true, 12), (true, 13), (true, 14), (true, 15)] (by kernel_rfl) (by kernel_rfl) (fun _ _ _ _ _ h => h) ?_
      (repeat (first | (refine gSeq_skip rfl (by rfl) ?_; (try simp only [Act.put, Act.eval, List.setIfInBounds_toArray, List.set_cons_zero, List.set_cons_succ, Array.getD_eq_getD_getElem?, List.getElem?_toArray, List.getElem?_cons_succ, List.getElem?_cons_zero, Option.getD_some])) | (refine gSeq_move _ rfl rfl (by rfl) ?_; (try simp only [Act.put, Act.eval, List.setIfInBounds_toArray, List.set_cons_zero, List.set_cons_succ, Array.getD_eq_getD_getElem?, List.getElem?_toArray, List.getElem?_cons_succ, List.getElem?_cons_zero, Option.getD_some])) | (refine gSeq_assign _ rfl rfl (by rfl) ?_; (try simp only [Act.put, Act.eval, List.setIfInBounds_toArray, List.set_cons_zero, List.set_cons_succ, Array.getD_eq_getD_getElem?, List.getElem?_toArray, List.getElem?_cons_succ, List.getElem?_cons_zero, Option.getD_some])) | (first | (refine gSeq_row rfl (by rfl) _ _ rfl _ rfl _ _ _ _ P1.out Try.underlying22 rfl (by rw [size_enc8]; kernel_rfl) ?_; (try simp only [Act.put, Act.eval, List.setIfInBounds_toArray, List.set_cons_zero, List.set_cons_succ, Array.getD_eq_getD_getElem?, List.getElem?_toArray, List.getElem?_cons_succ, List.getElem?_cons_zero, Option.getD_some])) | (refine gSeq_row rfl (by rfl) _ _ rfl _ rfl _ _ _ _ P3.out Try.underlying27 rfl (by rw [size_enc8, HL.out]; kernel_rfl) ?_; (try simp only [Act.put, Act.eval, List.setIfInBounds_toArray, List.set_cons_zero, List.set_cons_succ, Array.getD_eq_getD_getElem?, List.getElem?_toArray, List.getElem?_cons_succ, List.getElem?_cons_zero, Option.getD_some]))) | (refine gSeq_still rfl (by rfl) ?_ ?_ ?_; (rotate_left; (intro w' hG; (skip); go_simp; (first | done | with_reducible rfl)); (try simp only [Act.put, Act.eval, List.setIfInBounds_toArray, List.set_cons_zero, List.set_cons_succ, Array.getD_eq_getD_getElem?, List.getElem?_toArray, List.getElem?_cons_succ, List.getElem?_cons_zero, Option.getD_some])))))
      (refine gSeq_do rfl (by rfl) (fun K hK => ?_)); go_simp
      refine (rblock_any kKey kNonce 1 _ rfl rfl ok_kKey ok_kNonce (by omega) (by omega)).mono ?_
      rintro e w4 ⟨rfl, g4⟩
      refine hK _ _ g4 ?_; clear hK K; (try simp only [Act.put, Act.eval, List.setIfInBounds_toArray, List.set_cons_zero, List.set_cons_succ, Array.getD_eq_getD_getElem?, List.getElem?_toArray, List.getElem?_cons_succ, List.getElem?_cons_zero, Option.getD_some])
      have p3 := (g4.block _ (row_lt P3.out) (by simp)).trans P3.out
      have c0 := row8_at p3 0 (by rw [HL.out]; omega)
      have c1 := row8_at p3 1 (by rw [HL.out]; omega)
      rw [H0.out] at c0
      rw [H1.out] at c1
      have hg4 := grown_trans (grown_trans HG3.out (grown_drew _ none)) g4
      rw [← HST.out]
      have HG4 := Lib.hid hg4
      have C0 := Lib.hid c0
      have C1 := Lib.hid c1
      clear hg4 c0 c1 p3 g4
      (repeat (first | (refine gSeq_skip rfl (by rfl) ?_; (try simp only [Act.put, Act.eval, List.setIfInBounds_toArray, List.set_cons_zero, List.set_cons_succ, Array.getD_eq_getD_getElem?, List.getElem?_toArray, List.getElem?_cons_succ, List.getElem?_cons_zero, Option.getD_some])) | (refine gSeq_move _ rfl rfl (by rfl) ?_; (try simp only [Act.put, Act.eval, List.setIfInBounds_toArray, List.set_cons_zero, List.set_cons_succ, Array.getD_eq_getD_getElem?, List.getElem?_toArray, List.getElem?_cons_succ, List.getElem?_cons_zero, Option.getD_some])) | (refine gSeq_assign _ rfl rfl (by rfl) ?_; (try simp only [Act.put, Act.eval, List.setIfInBounds_toArray, List.set_cons_zero, List.set_cons_succ, Array.getD_eq_getD_getElem?, List.getElem?_toArray, List.getElem?_cons_succ, List.getElem?_cons_zero, Option.getD_some])) | ((refine gSeq_eql rfl (by rfl) _ _ _ _ rfl _ _ _ Try.underlying27 Try.underlying5 (by kernel_rfl) (by kernel_rfl) st st rfl rfl HL.out HL.out true (by simp) ?_; (try simp only [Act.put, Act.eval, List.setIfInBounds_toArray, List.set_cons_zero, List.set_cons_succ, Array.getD_eq_getD_getElem?, List.getElem?_toArray, List.getElem?_cons_succ, List.getElem?_cons_zero, Option.getD_some]))) | (refine gSeq_still rfl (by rfl) ?_ ?_ ?_; (rotate_left; (intro w' hG; (have d0 := hG.cell C0.out (by simp); have d1 := hG.cell C1.out (by simp)); go_simp; (first | done | with_reducible rfl)); (try simp only [Act.put, Act.eval, List.setIfInBounds_toArray, List.set_cons_zero, List.set_cons_succ, Array.getD_eq_getD_getElem?, List.getElem?_toArray, List.getElem?_cons_succ, List.getElem?_cons_zero, Option.getD_some])))))
      refine gSeq_nil ?_
      go_wp2_with fail
      go_ret
      exact ⟨rfl, HG4.out⟩
end Go.Proofs.Ytfhopjkpefclpaa
