/- scalar's reference: reduced, canonical, sums, products, clamped. -/
import Derived.Test.YtcfgobpjhppebaaScaM
namespace Go.Proofs.Ytcfgobpjhppebaa
set_option linter.unusedVariables false
set_option linter.unusedSimpArgs false
open Go.RowKit Go.Proofs.YtcfgobpjhppebaaL

theorem rd_take {w : World} {ad : Option Addr} {len : Nat} {xs : List Int} (h : Rd .u8 w ad len xs) (n : Nat) (hn : n ≤ len) : Rd .u8 w ad n (xs.take n) :=
  ⟨by rw [List.length_take, h.1]; omega, fun i hi => let ⟨x, h1, h2⟩ := h.2 i (by omega); ⟨x, h1, by
    rw [h2, List.getD_eq_getElem?_getD, List.getD_eq_getElem?_getD, List.getElem?_take, if_pos hi]⟩⟩
set_option maxHeartbeats 400000 in
set_option maxRecDepth 100000 in
theorem rreduce_any (ad : Option Addr) (len cap : Nat) (xs : List Int) (w : World) (hr : Rd .u8 w ad len xs) (hox : okB 256 xs) (hlen : len ≤ 1000) (hcap : len ≤ cap) :
    Calls Try.prog 8 #[.slice ad len cap] w fun e w' => e = .returned (.agg (encK .u8 (digB 256 32 (numB 256 (xs.take 64) % ordL)))) ∧ w.grownBy w' none := by
  have HR := Lib.hid hr
  have HOX := Lib.hid hox
  clear hr hox
  go_enter Try.func8, Try.ntmps8
  obtain ⟨p, hp⟩ : ∃ p, w.heap.size = p := ⟨_, rfl⟩
  have HP := Lib.hid hp
  clear hp
  have hxl := HR.out.1
  by_cases h64 : 64 < len
  · go_wp2_with (refine wpList_stop 7 rfl ?_)
    rw [HP.out]
    intro w0 hw0
    have hw0' : w0 = w.alloc (.cells (encK .u8 (List.replicate 32 0)) A32 (0, 0)) := hw0
    have R0 : Hid (w0.heap[p]? = some (.cells (encK .u8 (List.replicate 32 0)) A32 (0, 0))) := by rw [hw0']; exact alloc_at (w := w) _ HP.out.symm
    have HG0 : Hid (w.grownBy w0 none) := by rw [hw0']; exact grown_alloc (grown_refl w none) _
    have HS := Lib.hid (HR.out.kept HG0.out)
    clear hw0 hw0'
    go_wp2_with fail
    refine (rscalar_any ad 64 cap (xs.take 64) _ (rd_take HS.out 64 (by omega)) (fun x hx => HOX.out x (List.mem_of_mem_take hx)) (by omega)).mono ?_
    rintro e w1 ⟨rfl, hg1⟩
    have R0' := Lib.hid ((hg1.block _ (row_lt R0.out) (by simp)).trans R0.out)
    have HG := Lib.hid (grown_trans HG0.out hg1)
    clear R0 HG0 HS hg1
    go_wp2_with (refine wpList_store_range rfl A32 (.tmp 2) (.tmp 8) rfl (p) 0 (encK .u8 (digB 256 32 (numB 256 (xs.take 64) % ordL))) rfl rfl _ _ R0'.out (by rw [size_encK, size_encK, length_digB]; decide) (by rw [size_encK, length_digB]; kernel_rfl) (one_encK _ _) ?_)
    intro w8 r8 g8
    rw [putAt_all _ _ (by rw [Array.length_toList, size_encK, size_encK, length_digB]; rfl)] at r8
    have R9 : Hid (w8.heap[p]? = some (.cells (encK .u8 (digB 256 32 (numB 256 (xs.take 64) % ordL))) A32 (0, 0))) := r8
    have HG9 : Hid (w.grownBy w8 none) := grown_row HG.out g8 (fun k hk => by injection hk with hk; have := HP.out; omega)
    clear r8 g8
    go_wp2_with fail
    exact bodyPost_ret (results_cell_row rfl _ _ (p) _ _ _ _ rfl R9.out Try.underlying22 rfl (by rw [size_encK, length_digB]; kernel_rfl)) rfl ⟨rfl, HG9.out⟩
  · go_wp2_with (refine wpList_stop 7 rfl ?_)
    rw [HP.out]
    intro w0 hw0
    have hw0' : w0 = w.alloc (.cells (encK .u8 (List.replicate 32 0)) A32 (0, 0)) := hw0
    have R0 : Hid (w0.heap[p]? = some (.cells (encK .u8 (List.replicate 32 0)) A32 (0, 0))) := by rw [hw0']; exact alloc_at (w := w) _ HP.out.symm
    have HG0 : Hid (w.grownBy w0 none) := by rw [hw0']; exact grown_alloc (grown_refl w none) _
    have HS := Lib.hid (HR.out.kept HG0.out)
    clear hw0 hw0'
    go_wp2_with fail
    refine (rscalar_any ad len cap xs _ HS.out HOX.out (by omega)).mono ?_
    rintro e w1 ⟨rfl, hg1⟩
    rw [← List.take_of_length_le (i := 64) (l := xs) (by omega)]
    have R0' := Lib.hid ((hg1.block _ (row_lt R0.out) (by simp)).trans R0.out)
    have HG := Lib.hid (grown_trans HG0.out hg1)
    clear R0 HG0 HS hg1
    go_wp2_with (refine wpList_store_range rfl A32 (.tmp 2) (.tmp 8) rfl (p) 0 (encK .u8 (digB 256 32 (numB 256 (xs.take 64) % ordL))) rfl rfl _ _ R0'.out (by rw [size_encK, size_encK, length_digB]; decide) (by rw [size_encK, length_digB]; kernel_rfl) (one_encK _ _) ?_)
    intro w8 r8 g8
    rw [putAt_all _ _ (by rw [Array.length_toList, size_encK, size_encK, length_digB]; rfl)] at r8
    have R9 : Hid (w8.heap[p]? = some (.cells (encK .u8 (digB 256 32 (numB 256 (xs.take 64) % ordL))) A32 (0, 0))) := r8
    have HG9 : Hid (w.grownBy w8 none) := grown_row HG.out g8 (fun k hk => by injection hk with hk; have := HP.out; omega)
    clear r8 g8
    go_wp2_with fail
    exact bodyPost_ret (results_cell_row rfl _ _ (p) _ _ _ _ rfl R9.out Try.underlying22 rfl (by rw [size_encK, length_digB]; kernel_rfl)) rfl ⟨rfl, HG9.out⟩

set_option maxHeartbeats 400000 in
set_option maxRecDepth 100000 in
theorem rcanon_any (a : List Int) (w : World) (ha : a.length = 32) (hoa : okB 256 a) :
    Calls Try.prog 14 #[.agg (encK .u8 a)] w fun e w' => e = .returned (.bool (decide (numB 256 a < ordL))) ∧ w.grownBy w' none := by
  have HA := Lib.hid ha
  have HOA := Lib.hid hoa
  clear ha hoa
  go_enter Try.func14, Try.ntmps14
  obtain ⟨p, hp⟩ : ∃ p, w.heap.size = p := ⟨_, rfl⟩
  have HP := Lib.hid hp
  clear hp
  go_wp2_with fail
  rw [HP.out]
  refine wp_region_grow [(1, 0), (0, 1), (0, 2), (2, 3)] (by kernel_rfl) (by kernel_rfl) (fun _ _ _ _ _ h => h) (fun _ _ _ _ _ h => h) ?_
  refine gSeq_name fun w1 hw1 => ?_
  have hw1' : w1 = (w.alloc (.cells (encK .u8 a) A32 (0, 0))).drew := hw1
  have R0 : Hid (w1.heap[p]? = some (.cells (encK .u8 a) A32 (0, 0))) := by rw [hw1']; exact alloc_at (w := w) _ HP.out.symm
  have HG : Hid (w.grownBy w1 none) := by rw [hw1']; exact grown_trans (grown_alloc (grown_refl w none) _) (grown_drew _ _)
  clear hw1 hw1'
  (repeat (first | (refine gSeq_skip rfl (by rfl) ?_; (try simp only [Act.put, Act.eval, List.setIfInBounds_toArray, List.set_cons_zero, List.set_cons_succ, Array.getD_eq_getD_getElem?, List.getElem?_toArray, List.getElem?_cons_succ, List.getElem?_cons_zero, Option.getD_some])) | (refine gSeq_move _ rfl rfl (by rfl) ?_; (try simp only [Act.put, Act.eval, List.setIfInBounds_toArray, List.set_cons_zero, List.set_cons_succ, Array.getD_eq_getD_getElem?, List.getElem?_toArray, List.getElem?_cons_succ, List.getElem?_cons_zero, Option.getD_some])) | (refine gSeq_assign _ rfl rfl (by rfl) ?_; (try simp only [Act.put, Act.eval, List.setIfInBounds_toArray, List.set_cons_zero, List.set_cons_succ, Array.getD_eq_getD_getElem?, List.getElem?_toArray, List.getElem?_cons_succ, List.getElem?_cons_zero, Option.getD_some])) | ((refine gSeq_row rfl (by rfl) _ _ rfl _ rfl _ _ _ _ R0.out Try.underlying22 rfl (by rw [size_encK, HA.out]; kernel_rfl) ?_; (try simp only [Act.put, Act.eval, List.setIfInBounds_toArray, List.set_cons_zero, List.set_cons_succ, Array.getD_eq_getD_getElem?, List.getElem?_toArray, List.getElem?_cons_succ, List.getElem?_cons_zero, Option.getD_some]))) | (refine gSeq_pure rfl (by rfl) ?_ ?_ ?_; (rotate_left; (intro w'; (skip); go_simp; (first | done | with_reducible rfl)); (try simp only [Act.put, Act.eval, List.setIfInBounds_toArray, List.set_cons_zero, List.set_cons_succ, Array.getD_eq_getD_getElem?, List.getElem?_toArray, List.getElem?_cons_succ, List.getElem?_cons_zero, Option.getD_some]))) | (refine gSeq_still rfl (by rfl) ?_ ?_ ?_; (rotate_left; (intro w' hG; (skip); go_simp; (first | done | with_reducible rfl)); (try simp only [Act.put, Act.eval, List.setIfInBounds_toArray, List.set_cons_zero, List.set_cons_succ, Array.getD_eq_getD_getElem?, List.getElem?_toArray, List.getElem?_cons_succ, List.getElem?_cons_zero, Option.getD_some])))))
  (refine gSeq_do rfl (by rfl) (fun K hK => ?_)); go_simp
  refine (rorder_any _).mono ?_
  rintro e w2 ⟨rfl, hg2⟩
  refine hK _ _ hg2 ?_; clear hK K; (try simp only [Act.put, Act.eval, List.setIfInBounds_toArray, List.set_cons_zero, List.set_cons_succ, Array.getD_eq_getD_getElem?, List.getElem?_toArray, List.getElem?_cons_succ, List.getElem?_cons_zero, Option.getD_some])
  (refine gSeq_do rfl (by rfl) (fun K hK => ?_)); go_simp
  refine (below_any a ordB _ HA.out HOA.out rfl ordB_ok).mono ?_
  rintro e w3 ⟨rfl, hg3⟩
  rw [ordB_num]
  refine hK _ _ hg3 ?_; clear hK K; (try simp only [Act.put, Act.eval, List.setIfInBounds_toArray, List.set_cons_zero, List.set_cons_succ, Array.getD_eq_getD_getElem?, List.getElem?_toArray, List.getElem?_cons_succ, List.getElem?_cons_zero, Option.getD_some])
  have HG3 := Lib.hid (grown_trans HG.out (grown_trans hg2 hg3))
  clear hg2 hg3
  obtain ⟨b, hb⟩ : ∃ b, b = decide (numB 256 a < ordL) := ⟨_, rfl⟩
  rw [← hb]
  have HB := Lib.hid hb
  clear hb
  (repeat (first | (refine gSeq_skip rfl (by rfl) ?_; (try simp only [Act.put, Act.eval, List.setIfInBounds_toArray, List.set_cons_zero, List.set_cons_succ, Array.getD_eq_getD_getElem?, List.getElem?_toArray, List.getElem?_cons_succ, List.getElem?_cons_zero, Option.getD_some])) | (refine gSeq_move _ rfl rfl (by rfl) ?_; (try simp only [Act.put, Act.eval, List.setIfInBounds_toArray, List.set_cons_zero, List.set_cons_succ, Array.getD_eq_getD_getElem?, List.getElem?_toArray, List.getElem?_cons_succ, List.getElem?_cons_zero, Option.getD_some])) | (refine gSeq_assign _ rfl rfl (by rfl) ?_; (try simp only [Act.put, Act.eval, List.setIfInBounds_toArray, List.set_cons_zero, List.set_cons_succ, Array.getD_eq_getD_getElem?, List.getElem?_toArray, List.getElem?_cons_succ, List.getElem?_cons_zero, Option.getD_some])) | (fail) | (refine gSeq_pure rfl (by rfl) ?_ ?_ ?_; (rotate_left; (intro w'; (skip); go_simp; (first | done | with_reducible rfl)); (try simp only [Act.put, Act.eval, List.setIfInBounds_toArray, List.set_cons_zero, List.set_cons_succ, Array.getD_eq_getD_getElem?, List.getElem?_toArray, List.getElem?_cons_succ, List.getElem?_cons_zero, Option.getD_some]))) | (refine gSeq_still rfl (by rfl) ?_ ?_ ?_; (rotate_left; (intro w' hG; (skip); go_simp; (first | done | with_reducible rfl)); (try simp only [Act.put, Act.eval, List.setIfInBounds_toArray, List.set_cons_zero, List.set_cons_succ, Array.getD_eq_getD_getElem?, List.getElem?_toArray, List.getElem?_cons_succ, List.getElem?_cons_zero, Option.getD_some])))))
  refine gSeq_nil ?_
  go_wp2_with fail
  exact bodyPost_ret (results_tmp rfl _ _ _) rfl ⟨by rw [← HB.out]; rfl, HG3.out⟩

set_option maxHeartbeats 1000000 in
set_option maxRecDepth 100000 in
theorem rclamp_any (a : List Int) (w : World) (ha : a.length = 32) (hoa : okB 256 a) :
    Calls Try.prog 16 #[.agg (encK .u8 a)] w fun e w' => e = .returned (.agg (encK .u8 ((a.set 0 (a.getD 0 0 / 8 * 8)).set 31 (a.getD 31 0 % 64 + 64)))) ∧ w.grownBy w' none := by
  have HA := Lib.hid ha
  have HOA := Lib.hid hoa
  clear ha hoa
  go_enter Try.func16, Try.ntmps16
  obtain ⟨p, hp⟩ : ∃ p, w.heap.size = p := ⟨_, rfl⟩
  have HP := Lib.hid hp
  clear hp
  go_wp2_with (refine wpList_stop 3 rfl ?_)
  intro w1 hw1
  have r0 := two_0 w (.cells (encK .u8 a) A32 (0, 0)) (.cells (encK .u8 (List.replicate 32 0)) A32 (0, 0))
  have r1 := two_1 w (.cells (encK .u8 a) A32 (0, 0)) (.cells (encK .u8 (List.replicate 32 0)) A32 (0, 0))
  have hg := two_g w (.cells (encK .u8 a) A32 (0, 0)) (.cells (encK .u8 (List.replicate 32 0)) A32 (0, 0))
  have hw1' : w1 = (w.alloc (.cells (encK .u8 a) A32 (0, 0))).alloc (.cells (encK .u8 (List.replicate 32 0)) A32 (0, 0)) := hw1
  rw [← hw1', HP.out] at r0 r1
  rw [← hw1'] at hg
  have R0 := Lib.hid r0
  have R1 := Lib.hid r1
  have HG := Lib.hid hg
  clear r0 r1 hg hw1 hw1'
  rw [HP.out]
  have e0 := rowK_at R0.out 0 (by rw [HA.out]; decide)
  obtain ⟨x, hx⟩ : ∃ x, x = a.getD 0 0 := ⟨_, rfl⟩
  have hx0 := ok_getD (by decide) HOA.out 0
  rw [← hx] at e0 hx0
  have HX := Lib.hid hx
  have hand : bits .and .u8 x 248 = x / 8 * 8 := u8_and248 x hx0.1 hx0.2
  have HAND := Lib.hid hand
  clear hx hand
  go_wp2_with (refine wpList_store_cell rfl _ (.tmp 6) (.tmp 5) rfl p 0 _ rfl rfl _ _ R0.out (by rw [size_encK, HA.out]; decide) (by kernel_rfl) rfl rfl ?_)
  intro w2 r2 g2
  rw [HAND.out] at r2
  have r2' := rowK_set r2
  have R1' := Lib.hid ((g2.block _ (row_lt R1.out) (by intro e; injection e; omega)).trans R1.out)
  have R2 := Lib.hid r2'
  have HG2 := Lib.hid (grown_row HG.out g2 (fun k hk => by injection hk with hk; have := HP.out; omega))
  have e1 := rowK_at r2' 31 (by rw [List.length_set, HA.out]; decide)
  rw [show (a.set 0 (x / 8 * 8)).getD 31 0 = a.getD 31 0 by simp] at e1
  obtain ⟨y, hy⟩ : ∃ y, y = a.getD 31 0 := ⟨_, rfl⟩
  have hy0 := ok_getD (by decide) HOA.out 31
  rw [← hy] at e1 hy0
  have HY := Lib.hid hy
  have hand2 : bits .or .u8 (bits .and .u8 y 127) 64 = y % 64 + 64 := u8_clamp y hy0.1 hy0.2
  have HAND2 := Lib.hid hand2
  clear e0 hy r2 r2' g2 hand2 R0 R1 HG
  go_wp2_with (refine wpList_store_cell rfl _ (.tmp 11) (.tmp 10) rfl p 31 _ rfl rfl _ _ R2.out (by rw [size_encK, List.length_set, HA.out]; decide) (by kernel_rfl) rfl rfl ?_)
  intro w3 r3 g3
  rw [HAND2.out] at r3
  have R3 := Lib.hid (rowK_set r3)
  have R1 := Lib.hid ((g3.block _ (row_lt R1'.out) (by intro e; injection e; omega)).trans R1'.out)
  have HG3 := Lib.hid (grown_row HG2.out g3 (fun k hk => by injection hk with hk; have := HP.out; omega))
  clear r3 g3 R2 R1' HG2 e1
  obtain ⟨z, hz⟩ : ∃ z, z = (a.set 0 (x / 8 * 8)).set 31 (y % 64 + 64) := ⟨_, rfl⟩
  have R3' := R3.out
  rw [← hz] at R3'
  have hzl : z.length = 32 := by rw [hz]; simp [HA.out]
  have hz2 : (a.set 0 (a.getD 0 0 / 8 * 8)).set 31 (a.getD 31 0 % 64 + 64) = z := by rw [← HX.out, ← HY.out, hz]
  have HZ := Lib.hid hzl
  have HZ2 := Lib.hid hz2
  have R3 := Lib.hid R3'
  clear hz hzl hz2 R3' hx0 hy0
  go_wp2_with (first | (refine wpList_load_row rfl A32 (.tmp 1) rfl p rfl _ _ _ _ R3.out Try.underlying22 rfl (by rw [size_encK, HZ.out]; kernel_rfl) ?_) | (refine wpList_store_range rfl A32 (.tmp 2) (.tmp 12) rfl (p + 1) 0 (encK .u8 z) rfl rfl _ _ R1.out (by rw [size_encK, size_encK, HZ.out]; decide) (by rw [size_encK, HZ.out]; kernel_rfl) (one_encK _ _) ?_))
  intro w8 r8 g8
  rw [putAt_all _ _ (by rw [Array.length_toList, size_encK, size_encK, HZ.out]; rfl)] at r8
  have R9 : Hid (w8.heap[p + 1]? = some (.cells (encK .u8 z) A32 (0, 0))) := r8
  have HG9 : Hid (w.grownBy w8 none) := grown_row HG3.out g8 (fun k hk => by injection hk with hk; have := HP.out; omega)
  clear r8 g8
  go_wp2_with fail
  exact bodyPost_ret (results_cell_row rfl _ _ (p + 1) _ _ _ _ rfl R9.out Try.underlying22 rfl (by rw [size_encK, HZ.out]; kernel_rfl)) rfl ⟨by rw [HZ2.out], HG9.out⟩
end Go.Proofs.Ytcfgobpjhppebaa
