/- scalar: canonical numbers, sums, clamping. -/
import Derived.Test.YtcfgobpjhppebaaScaG
namespace Go.Proofs.Ytcfgobpjhppebaa
set_option linter.unusedVariables false
set_option linter.unusedSimpArgs false
open Go.RowKit Go.Proofs.YtcfgobpjhppebaaL

theorem num32 {a : List Int} (ha : a.length = 32) (hoa : okB 256 a) : 0 ≤ numB 256 a ∧ numB 256 a < B64 ^ 4 := by
  have := numB_range (B := 256) (by decide) a hoa
  rw [ha] at this
  exact this
theorem num32' {a : List Int} (ha : a.length = 32) (hoa : okB 256 a) : numB B64 (digB B64 5 (numB 256 a)) = numB 256 a := by
  have := num32 ha hoa
  exact num5 _ this.1 (Int.lt_trans this.2 (by decide))
theorem nat_all (p : Nat → Bool) (h : (List.range 256).all p = true) (X : Nat) (hX : X < 256) : p X = true := List.all_eq_true.1 h X (List.mem_range.2 hX)
theorem u8_and248 (x : Int) (h0 : 0 ≤ x) (h1 : x < 256) : bits .and .u8 x 248 = x / 8 * 8 := by
  obtain ⟨X, rfl⟩ := Int.eq_ofNat_of_zero_le h0
  rw [u8_and _ 248 (by omega) (by omega) (by decide) (by decide), Int.toNat_natCast]
  have := nat_all (fun X => X &&& 248 == X / 8 * 8) (by decide +kernel) X (by omega)
  have h : X &&& 248 = X / 8 * 8 := by simpa using this
  rw [show (248 : Int).toNat = 248 from rfl, h]
  omega
theorem u8_clamp (x : Int) (h0 : 0 ≤ x) (h1 : x < 256) : bits .or .u8 (bits .and .u8 x 127) 64 = x % 64 + 64 := by
  obtain ⟨X, rfl⟩ := Int.eq_ofNat_of_zero_le h0
  rw [u8_and _ 127 (by omega) (by omega) (by decide) (by decide), Int.toNat_natCast, show (127 : Int).toNat = 127 from rfl]
  have hlt : X &&& 127 ≤ 127 := Nat.and_le_right
  rw [u8_or _ 64 (by omega) (by omega) (by decide) (by decide), Int.toNat_natCast, show (64 : Int).toNat = 64 from rfl]
  have := nat_all (fun X => (X &&& 127) ||| 64 == X % 64 + 64) (by decide +kernel) X (by omega)
  have h : (X &&& 127) ||| 64 = X % 64 + 64 := by simpa using this
  rw [h]
  omega
set_option maxHeartbeats 1000000 in
set_option maxRecDepth 100000 in
theorem canon_any (a : List Int) (w : World) (ha : a.length = 32) (hoa : okB 256 a) :
    Calls Try.prog 9 #[.agg (encK .u8 a)] w fun e w' => e = .returned (.bool (decide (numB 256 a < ordL))) ∧ w.grownBy w' none := by
  have HA := Lib.hid ha
  have HOA := Lib.hid hoa
  clear ha hoa
  go_enter Try.func9, Try.ntmps9
  obtain ⟨p, hp⟩ : ∃ p, w.heap.size = p := ⟨_, rfl⟩
  have HP := Lib.hid hp
  clear hp
  go_wp2_with (refine wpList_load_row rfl A32 (.tmp 1) rfl p (by simp [Act.eval, HP.out]) _ _ _ _ (alloc_at _ _ HP.out.symm) Try.underlying22 rfl (by rw [size_encK, HA.out]; kernel_rfl) ?_)
  refine (load_any a _ HA.out HOA.out).mono ?_
  rintro e w1 ⟨rfl, hg1⟩
  have G1 := Lib.hid (grown_trans (grown_alloc (grown_refl w none) _) hg1)
  clear hg1
  go_wp2_with fail
  refine (order_any _).mono ?_
  rintro e w2 ⟨rfl, hg2⟩
  have G2 := Lib.hid (grown_trans G1.out hg2)
  clear hg2 G1
  go_wp2_with fail
  refine (minus_any _ ordD _ (length_digB _ _ _) rfl (ok_digB (by decide) _ _) ordD_ok).mono ?_
  rintro e w3 ⟨rfl, hg3⟩
  rw [num32' HA.out HOA.out, ordD_num]
  have G3 := Lib.hid (grown_trans G2.out hg3)
  clear hg3 G2
  obtain ⟨b, hb⟩ : ∃ b, b = decide (numB 256 a < ordL) := ⟨_, rfl⟩
  rw [← hb]
  have HB := Lib.hid hb
  clear hb
  obtain ⟨q, hq⟩ : ∃ q, w3.heap.size = q := ⟨_, rfl⟩
  have HQ := Lib.hid hq
  clear hq
  go_wp2_with (refine wpList_store_range rfl T5 (.tmp 3) (.tmp 10) rfl q 0 (encK .u64 (digB B64 5 (numB 256 a - ordL))) (by simp [Act.eval, HQ.out]) rfl _ (encK .u64 (List.replicate 5 0)) (alloc_at _ _ HQ.out.symm) (by rw [size_encK, size_encK, length_digB]; decide) (by rw [size_encK, length_digB]; kernel_rfl) (one_encK _ _) ?_)
  intro w5 r5 g5
  have G5 := Lib.hid (grown_row (grown_alloc G3.out _) g5 (fun k hk => by injection hk with hk; have := HQ.out; have := G3.out.size; omega))
  clear r5 g5
  go_wp2_with fail
  exact bodyPost_ret (results_tmp rfl _ _ _) rfl ⟨by rw [← HB.out]; rfl, G5.out⟩

set_option maxHeartbeats 1000000 in
set_option maxRecDepth 100000 in
theorem clamp_any (a : List Int) (w : World) (ha : a.length = 32) (hoa : okB 256 a) :
    Calls Try.prog 15 #[.agg (encK .u8 a)] w fun e w' => e = .returned (.agg (encK .u8 ((a.set 0 (a.getD 0 0 / 8 * 8)).set 31 (a.getD 31 0 % 64 + 64)))) ∧ w.grownBy w' none := by
  have HA := Lib.hid ha
  have HOA := Lib.hid hoa
  clear ha hoa
  go_enter Try.func15, Try.ntmps15
  obtain ⟨p, hp⟩ : ∃ p, w.heap.size = p := ⟨_, rfl⟩
  have HP := Lib.hid hp
  clear hp
  go_wp2_with (refine wpList_stop 3 rfl ?_)
  intro w1 hw1
  have r0 := two_0 w (.cells (encK .u8 a) A32 (0, 0)) (.cells (encK .u8 (List.replicate 32 0)) A32 (0, 0))
  have r1 := two_1 w (.cells (encK .u8 a) A32 (0, 0)) (.cells (encK .u8 (List.replicate 32 0)) A32 (0, 0))
  have hg := two_g w (.cells (encK .u8 a) A32 (0, 0)) (.cells (encK .u8 (List.replicate 32 0)) A32 (0, 0))
  have hw1' : w1 = (w.alloc (.cells (encK .u8 a) A32 (0, 0))).alloc (.cells (encK .u8 (List.replicate 32 0)) A32 (0, 0)) := hw1
  rw [← hw1', HP.out] at r0 r1
  rw [← hw1'] at hg
  have R0 := Lib.hid r0
  have R1 := Lib.hid r1
  have HG := Lib.hid hg
  clear r0 r1 hg hw1 hw1'
  rw [HP.out]
  have e0 := rowK_at R0.out 0 (by rw [HA.out]; decide)
  obtain ⟨x, hx⟩ : ∃ x, x = a.getD 0 0 := ⟨_, rfl⟩
  have hx0 := ok_getD (by decide) HOA.out 0
  rw [← hx] at e0 hx0
  have HX := Lib.hid hx
  have hand : bits .and .u8 x 248 = x / 8 * 8 := u8_and248 x hx0.1 hx0.2
  have HAND := Lib.hid hand
  clear hx hand
  go_wp2_with (refine wpList_store_cell rfl _ (.tmp 6) (.tmp 5) rfl p 0 _ rfl rfl _ _ R0.out (by rw [size_encK, HA.out]; decide) (by kernel_rfl) rfl rfl ?_)
  intro w2 r2 g2
  rw [HAND.out] at r2
  have r2' := rowK_set r2
  have R1' := Lib.hid ((g2.block _ (row_lt R1.out) (by intro e; injection e; omega)).trans R1.out)
  have R2 := Lib.hid r2'
  have HG2 := Lib.hid (grown_row HG.out g2 (fun k hk => by injection hk with hk; have := HP.out; omega))
  have e1 := rowK_at r2' 31 (by rw [List.length_set, HA.out]; decide)
  rw [show (a.set 0 (x / 8 * 8)).getD 31 0 = a.getD 31 0 by simp] at e1
  obtain ⟨y, hy⟩ : ∃ y, y = a.getD 31 0 := ⟨_, rfl⟩
  have hy0 := ok_getD (by decide) HOA.out 31
  rw [← hy] at e1 hy0
  have HY := Lib.hid hy
  have hand2 : bits .or .u8 (bits .and .u8 y 127) 64 = y % 64 + 64 := u8_clamp y hy0.1 hy0.2
  have HAND2 := Lib.hid hand2
  clear e0 hy r2 r2' g2 hand2 R0 R1 HG
  go_wp2_with (refine wpList_store_cell rfl _ (.tmp 11) (.tmp 10) rfl p 31 _ rfl rfl _ _ R2.out (by rw [size_encK, List.length_set, HA.out]; decide) (by kernel_rfl) rfl rfl ?_)
  intro w3 r3 g3
  rw [HAND2.out] at r3
  have R3 := Lib.hid (rowK_set r3)
  have R1 := Lib.hid ((g3.block _ (row_lt R1'.out) (by intro e; injection e; omega)).trans R1'.out)
  have HG3 := Lib.hid (grown_row HG2.out g3 (fun k hk => by injection hk with hk; have := HP.out; omega))
  clear r3 g3 R2 R1' HG2 e1
  obtain ⟨z, hz⟩ : ∃ z, z = (a.set 0 (x / 8 * 8)).set 31 (y % 64 + 64) := ⟨_, rfl⟩
  have R3' := R3.out
  rw [← hz] at R3'
  have hzl : z.length = 32 := by rw [hz]; simp [HA.out]
  have hz2 : (a.set 0 (a.getD 0 0 / 8 * 8)).set 31 (a.getD 31 0 % 64 + 64) = z := by rw [← HX.out, ← HY.out, hz]
  have HZ := Lib.hid hzl
  have HZ2 := Lib.hid hz2
  have R3 := Lib.hid R3'
  clear hz hzl hz2 R3' hx0 hy0
  go_wp2_with (first | (refine wpList_load_row rfl A32 (.tmp 1) rfl p rfl _ _ _ _ R3.out Try.underlying22 rfl (by rw [size_encK, HZ.out]; kernel_rfl) ?_) | (refine wpList_store_range rfl A32 (.tmp 2) (.tmp 12) rfl (p + 1) 0 (encK .u8 z) rfl rfl _ _ R1.out (by rw [size_encK, size_encK, HZ.out]; decide) (by rw [size_encK, HZ.out]; kernel_rfl) (one_encK _ _) ?_))
  intro w8 r8 g8
  rw [putAt_all _ _ (by rw [Array.length_toList, size_encK, size_encK, HZ.out]; rfl)] at r8
  have R9 : Hid (w8.heap[p + 1]? = some (.cells (encK .u8 z) A32 (0, 0))) := r8
  have HG9 : Hid (w.grownBy w8 none) := grown_row HG3.out g8 (fun k hk => by injection hk with hk; have := HP.out; omega)
  clear r8 g8
  go_wp2_with fail
  exact bodyPost_ret (results_cell_row rfl _ _ (p + 1) _ _ _ _ rfl R9.out Try.underlying22 rfl (by rw [size_encK, HZ.out]; kernel_rfl)) rfl ⟨by rw [HZ2.out], HG9.out⟩
end Go.Proofs.Ytcfgobpjhppebaa
