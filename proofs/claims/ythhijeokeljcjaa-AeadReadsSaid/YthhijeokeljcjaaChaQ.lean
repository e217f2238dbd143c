/- The quarters of a round, walked: the program's and the reference's. -/
import Derived.Test.YthhijeokeljcjaaChaW
namespace Go.Proofs.Ythhijeokeljcjaa
set_option linter.unusedVariables false
set_option linter.unusedSimpArgs false
open Go.RowKit Go.Proofs.YthhijeokeljcjaaL

set_option maxHeartbeats 4000000 in
set_option maxRecDepth 100000 in
theorem quarter_any (p T : Nat) (s : List Int) (a b c d : Nat) (w : World) (hr : Row32 w p T s) (hl : s.length = 16) (hs : ok32 s) (ha : (a : Int) < 16) (hb : (b : Int) < 16) (hc : (c : Int) < 16) (hd : (d : Int) < 16) :
    Calls Try.prog 29 #[.pointer (some ⟨p, 0, none⟩), .int .i64 a, .int .i64 b, .int .i64 c, .int .i64 d] w fun e w' => e = .returned (.tuple #[]) ∧ Row32 w' p T (qr s a b c d) ∧ w.grownBy w' (some p) := by
  have a0 : (0 : Int) ≤ a := by omega
  have b0 : (0 : Int) ≤ b := by omega
  have c0 : (0 : Int) ≤ c := by omega
  have d0 : (0 : Int) ≤ d := by omega
  obtain ⟨sf, HF⟩ : ∃ sf, Hid (sf = qr s a b c d) := ⟨_, rfl⟩
  rw [← HF.out]
  have HR0 := Lib.hid hr
  have HL0 := Lib.hid hl
  have HS0 := Lib.hid hs
  have HG0 := Lib.hid (grown_refl w (some p))
  obtain ⟨s0, h0⟩ : ∃ s0, s0 = s := ⟨_, rfl⟩
  rw [← h0] at HR0 HL0 HS0
  have HE0 := Lib.hid h0
  clear hr hl hs h0
  go_enter Try.func29, Try.ntmps29
  obtain ⟨x0, hx0⟩ : ∃ x, x = s0.getD a 0 := ⟨_, rfl⟩
  obtain ⟨y0, hy0⟩ : ∃ y, y = s0.getD b 0 := ⟨_, rfl⟩
  have e0 : w.cell? ⟨p, a, none⟩ = some (.int .u32 x0) := by rw [hx0]; exact row32_at HR0.out a (by rw [HL0.out]; omega)
  have f0 : w.cell? ⟨p, b, none⟩ = some (.int .u32 y0) := by rw [hy0]; exact row32_at HR0.out b (by rw [HL0.out]; omega)
  have HX0 := Lib.hid hx0
  have HY0 := Lib.hid hy0
  clear hx0 hy0
  go_wp2_with (first | go_still_tail 12, (by kernel_rfl) | (refine wpList_store_cell rfl 37 (.tmp 22) (.tmp 20) rfl p _ _ rfl rfl T (enc32 s0) HR0.out ?_ (by kernel_rfl) rfl rfl ?_))
  · rw [size_enc32, HL0.out]; omega
  intro w1 r1 g1
  obtain ⟨s1, h1⟩ : ∃ t, t = qa s0 a b := ⟨_, rfl⟩
  have r1 : Row32 w1 p T s1 := by
    rw [h1]
    have := row32_set r1
    rw [HX0.out, HY0.out] at this
    exact this
  have HR1 := Lib.hid r1
  have HL1 : Hid (s1.length = 16) := by rw [h1]; exact (List.length_set ..).trans HL0.out
  have HS1 : Hid (ok32 s1) := by rw [h1]; exact ok_qa HS0.out _ _
  have HG1 := Lib.hid (grown_after g1 HG0.out rfl rfl rfl rfl)
  have HE1 := Lib.hid h1
  clear r1 g1 h1 e0 f0 HR0 HG0
  obtain ⟨x1, hx1⟩ : ∃ x, x = s1.getD d 0 := ⟨_, rfl⟩
  obtain ⟨y1, hy1⟩ : ∃ y, y = s1.getD a 0 := ⟨_, rfl⟩
  have e1 : w1.cell? ⟨p, d, none⟩ = some (.int .u32 x1) := by rw [hx1]; exact row32_at HR1.out d (by rw [HL1.out]; omega)
  have f1 : w1.cell? ⟨p, a, none⟩ = some (.int .u32 y1) := by rw [hy1]; exact row32_at HR1.out a (by rw [HL1.out]; omega)
  have HX1 := Lib.hid hx1
  have HY1 := Lib.hid hy1
  clear hx1 hy1
  go_wp2_with (first | (refine wp_region_quiet_tail 15 (by kernel_rfl) (by kernel_rfl) ?_; simp only [List.take_succ_cons, List.take_zero, List.drop_succ_cons, List.drop_zero]; (repeat (go_big_quiet_step ((go_at_call 40; exact Calls.quiet_of_same (rotl_16 _ (bits_range32 _ _ _).1 (bits_range32 _ _ _).2 _))))); refine wpQuiet_nil ?_; rintro _ ⟨nq, rfl⟩) | (refine wpList_store_cell rfl 37 (.tmp 38) (.tmp 36) rfl p _ _ rfl rfl T (enc32 s1) HR1.out ?_ (by kernel_rfl) rfl rfl ?_))
  · rw [size_enc32, HL1.out]; omega
  intro w2 r2 g2
  obtain ⟨s2, h2⟩ : ∃ t, t = qx s1 d a 16 := ⟨_, rfl⟩
  have r2 : Row32 w2 p T s2 := by
    rw [h2]
    have := row32_set r2
    rw [HX1.out, HY1.out] at this
    exact this
  have HR2 := Lib.hid r2
  have HL2 : Hid (s2.length = 16) := by rw [h2]; exact (List.length_set ..).trans HL1.out
  have HS2 : Hid (ok32 s2) := by rw [h2]; exact ok_qx HS1.out _ _ _
  have HG2 := Lib.hid (grown_after g2 HG1.out rfl rfl rfl rfl)
  have HE2 := Lib.hid h2
  clear r2 g2 h2 e1 f1 HR1 HG1
  obtain ⟨x2, hx2⟩ : ∃ x, x = s2.getD c 0 := ⟨_, rfl⟩
  obtain ⟨y2, hy2⟩ : ∃ y, y = s2.getD d 0 := ⟨_, rfl⟩
  have e2 : w2.cell? ⟨p, c, none⟩ = some (.int .u32 x2) := by rw [hx2]; exact row32_at HR2.out c (by rw [HL2.out]; omega)
  have f2 : w2.cell? ⟨p, d, none⟩ = some (.int .u32 y2) := by rw [hy2]; exact row32_at HR2.out d (by rw [HL2.out]; omega)
  have HX2 := Lib.hid hx2
  have HY2 := Lib.hid hy2
  clear hx2 hy2
  go_wp2_with (first | go_still_tail 12, (by kernel_rfl) | (refine wpList_store_cell rfl 37 (.tmp 51) (.tmp 49) rfl p _ _ rfl rfl T (enc32 s2) HR2.out ?_ (by kernel_rfl) rfl rfl ?_))
  · rw [size_enc32, HL2.out]; omega
  intro w3 r3 g3
  obtain ⟨s3, h3⟩ : ∃ t, t = qa s2 c d := ⟨_, rfl⟩
  have r3 : Row32 w3 p T s3 := by
    rw [h3]
    have := row32_set r3
    rw [HX2.out, HY2.out] at this
    exact this
  have HR3 := Lib.hid r3
  have HL3 : Hid (s3.length = 16) := by rw [h3]; exact (List.length_set ..).trans HL2.out
  have HS3 : Hid (ok32 s3) := by rw [h3]; exact ok_qa HS2.out _ _
  have HG3 := Lib.hid (grown_after g3 HG2.out rfl rfl rfl rfl)
  have HE3 := Lib.hid h3
  clear r3 g3 h3 e2 f2 HR2 HG2
  obtain ⟨x3, hx3⟩ : ∃ x, x = s3.getD b 0 := ⟨_, rfl⟩
  obtain ⟨y3, hy3⟩ : ∃ y, y = s3.getD c 0 := ⟨_, rfl⟩
  have e3 : w3.cell? ⟨p, b, none⟩ = some (.int .u32 x3) := by rw [hx3]; exact row32_at HR3.out b (by rw [HL3.out]; omega)
  have f3 : w3.cell? ⟨p, c, none⟩ = some (.int .u32 y3) := by rw [hy3]; exact row32_at HR3.out c (by rw [HL3.out]; omega)
  have HX3 := Lib.hid hx3
  have HY3 := Lib.hid hy3
  clear hx3 hy3
  go_wp2_with (first | (refine wp_region_quiet_tail 15 (by kernel_rfl) (by kernel_rfl) ?_; simp only [List.take_succ_cons, List.take_zero, List.drop_succ_cons, List.drop_zero]; (repeat (go_big_quiet_step ((go_at_call 40; exact Calls.quiet_of_same (rotl_12 _ (bits_range32 _ _ _).1 (bits_range32 _ _ _).2 _))))); refine wpQuiet_nil ?_; rintro _ ⟨nq, rfl⟩) | (refine wpList_store_cell rfl 37 (.tmp 67) (.tmp 65) rfl p _ _ rfl rfl T (enc32 s3) HR3.out ?_ (by kernel_rfl) rfl rfl ?_))
  · rw [size_enc32, HL3.out]; omega
  intro w4 r4 g4
  obtain ⟨s4, h4⟩ : ∃ t, t = qx s3 b c 12 := ⟨_, rfl⟩
  have r4 : Row32 w4 p T s4 := by
    rw [h4]
    have := row32_set r4
    rw [HX3.out, HY3.out] at this
    exact this
  have HR4 := Lib.hid r4
  have HL4 : Hid (s4.length = 16) := by rw [h4]; exact (List.length_set ..).trans HL3.out
  have HS4 : Hid (ok32 s4) := by rw [h4]; exact ok_qx HS3.out _ _ _
  have HG4 := Lib.hid (grown_after g4 HG3.out rfl rfl rfl rfl)
  have HE4 := Lib.hid h4
  clear r4 g4 h4 e3 f3 HR3 HG3
  obtain ⟨x4, hx4⟩ : ∃ x, x = s4.getD a 0 := ⟨_, rfl⟩
  obtain ⟨y4, hy4⟩ : ∃ y, y = s4.getD b 0 := ⟨_, rfl⟩
  have e4 : w4.cell? ⟨p, a, none⟩ = some (.int .u32 x4) := by rw [hx4]; exact row32_at HR4.out a (by rw [HL4.out]; omega)
  have f4 : w4.cell? ⟨p, b, none⟩ = some (.int .u32 y4) := by rw [hy4]; exact row32_at HR4.out b (by rw [HL4.out]; omega)
  have HX4 := Lib.hid hx4
  have HY4 := Lib.hid hy4
  clear hx4 hy4
  go_wp2_with (first | go_still_tail 12, (by kernel_rfl) | (refine wpList_store_cell rfl 37 (.tmp 80) (.tmp 78) rfl p _ _ rfl rfl T (enc32 s4) HR4.out ?_ (by kernel_rfl) rfl rfl ?_))
  · rw [size_enc32, HL4.out]; omega
  intro w5 r5 g5
  obtain ⟨s5, h5⟩ : ∃ t, t = qa s4 a b := ⟨_, rfl⟩
  have r5 : Row32 w5 p T s5 := by
    rw [h5]
    have := row32_set r5
    rw [HX4.out, HY4.out] at this
    exact this
  have HR5 := Lib.hid r5
  have HL5 : Hid (s5.length = 16) := by rw [h5]; exact (List.length_set ..).trans HL4.out
  have HS5 : Hid (ok32 s5) := by rw [h5]; exact ok_qa HS4.out _ _
  have HG5 := Lib.hid (grown_after g5 HG4.out rfl rfl rfl rfl)
  have HE5 := Lib.hid h5
  clear r5 g5 h5 e4 f4 HR4 HG4
  obtain ⟨x5, hx5⟩ : ∃ x, x = s5.getD d 0 := ⟨_, rfl⟩
  obtain ⟨y5, hy5⟩ : ∃ y, y = s5.getD a 0 := ⟨_, rfl⟩
  have e5 : w5.cell? ⟨p, d, none⟩ = some (.int .u32 x5) := by rw [hx5]; exact row32_at HR5.out d (by rw [HL5.out]; omega)
  have f5 : w5.cell? ⟨p, a, none⟩ = some (.int .u32 y5) := by rw [hy5]; exact row32_at HR5.out a (by rw [HL5.out]; omega)
  have HX5 := Lib.hid hx5
  have HY5 := Lib.hid hy5
  clear hx5 hy5
  go_wp2_with (first | (refine wp_region_quiet_tail 15 (by kernel_rfl) (by kernel_rfl) ?_; simp only [List.take_succ_cons, List.take_zero, List.drop_succ_cons, List.drop_zero]; (repeat (go_big_quiet_step ((go_at_call 40; exact Calls.quiet_of_same (rotl_8 _ (bits_range32 _ _ _).1 (bits_range32 _ _ _).2 _))))); refine wpQuiet_nil ?_; rintro _ ⟨nq, rfl⟩) | (refine wpList_store_cell rfl 37 (.tmp 96) (.tmp 94) rfl p _ _ rfl rfl T (enc32 s5) HR5.out ?_ (by kernel_rfl) rfl rfl ?_))
  · rw [size_enc32, HL5.out]; omega
  intro w6 r6 g6
  obtain ⟨s6, h6⟩ : ∃ t, t = qx s5 d a 8 := ⟨_, rfl⟩
  have r6 : Row32 w6 p T s6 := by
    rw [h6]
    have := row32_set r6
    rw [HX5.out, HY5.out] at this
    exact this
  have HR6 := Lib.hid r6
  have HL6 : Hid (s6.length = 16) := by rw [h6]; exact (List.length_set ..).trans HL5.out
  have HS6 : Hid (ok32 s6) := by rw [h6]; exact ok_qx HS5.out _ _ _
  have HG6 := Lib.hid (grown_after g6 HG5.out rfl rfl rfl rfl)
  have HE6 := Lib.hid h6
  clear r6 g6 h6 e5 f5 HR5 HG5
  obtain ⟨x6, hx6⟩ : ∃ x, x = s6.getD c 0 := ⟨_, rfl⟩
  obtain ⟨y6, hy6⟩ : ∃ y, y = s6.getD d 0 := ⟨_, rfl⟩
  have e6 : w6.cell? ⟨p, c, none⟩ = some (.int .u32 x6) := by rw [hx6]; exact row32_at HR6.out c (by rw [HL6.out]; omega)
  have f6 : w6.cell? ⟨p, d, none⟩ = some (.int .u32 y6) := by rw [hy6]; exact row32_at HR6.out d (by rw [HL6.out]; omega)
  have HX6 := Lib.hid hx6
  have HY6 := Lib.hid hy6
  clear hx6 hy6
  go_wp2_with (first | go_still_tail 12, (by kernel_rfl) | (refine wpList_store_cell rfl 37 (.tmp 109) (.tmp 107) rfl p _ _ rfl rfl T (enc32 s6) HR6.out ?_ (by kernel_rfl) rfl rfl ?_))
  · rw [size_enc32, HL6.out]; omega
  intro w7 r7 g7
  obtain ⟨s7, h7⟩ : ∃ t, t = qa s6 c d := ⟨_, rfl⟩
  have r7 : Row32 w7 p T s7 := by
    rw [h7]
    have := row32_set r7
    rw [HX6.out, HY6.out] at this
    exact this
  have HR7 := Lib.hid r7
  have HL7 : Hid (s7.length = 16) := by rw [h7]; exact (List.length_set ..).trans HL6.out
  have HS7 : Hid (ok32 s7) := by rw [h7]; exact ok_qa HS6.out _ _
  have HG7 := Lib.hid (grown_after g7 HG6.out rfl rfl rfl rfl)
  have HE7 := Lib.hid h7
  clear r7 g7 h7 e6 f6 HR6 HG6
  obtain ⟨x7, hx7⟩ : ∃ x, x = s7.getD b 0 := ⟨_, rfl⟩
  obtain ⟨y7, hy7⟩ : ∃ y, y = s7.getD c 0 := ⟨_, rfl⟩
  have e7 : w7.cell? ⟨p, b, none⟩ = some (.int .u32 x7) := by rw [hx7]; exact row32_at HR7.out b (by rw [HL7.out]; omega)
  have f7 : w7.cell? ⟨p, c, none⟩ = some (.int .u32 y7) := by rw [hy7]; exact row32_at HR7.out c (by rw [HL7.out]; omega)
  have HX7 := Lib.hid hx7
  have HY7 := Lib.hid hy7
  clear hx7 hy7
  go_wp2_with (first | (refine wp_region_quiet_tail 15 (by kernel_rfl) (by kernel_rfl) ?_; simp only [List.take_succ_cons, List.take_zero, List.drop_succ_cons, List.drop_zero]; (repeat (go_big_quiet_step ((go_at_call 40; exact Calls.quiet_of_same (rotl_7 _ (bits_range32 _ _ _).1 (bits_range32 _ _ _).2 _))))); refine wpQuiet_nil ?_; rintro _ ⟨nq, rfl⟩) | (refine wpList_store_cell rfl 37 (.tmp 125) (.tmp 123) rfl p _ _ rfl rfl T (enc32 s7) HR7.out ?_ (by kernel_rfl) rfl rfl ?_))
  · rw [size_enc32, HL7.out]; omega
  intro w8 r8 g8
  obtain ⟨s8, h8⟩ : ∃ t, t = qx s7 b c 7 := ⟨_, rfl⟩
  have r8 : Row32 w8 p T s8 := by
    rw [h8]
    have := row32_set r8
    rw [HX7.out, HY7.out] at this
    exact this
  have HR8 := Lib.hid r8
  have HL8 : Hid (s8.length = 16) := by rw [h8]; exact (List.length_set ..).trans HL7.out
  have HS8 : Hid (ok32 s8) := by rw [h8]; exact ok_qx HS7.out _ _ _
  have HG8 := Lib.hid (grown_after g8 HG7.out rfl rfl rfl rfl)
  have HE8 := Lib.hid h8
  clear r8 g8 h8 e7 f7 HR7 HG7
  go_wp2
  go_end0
  refine ⟨rfl, ?_, HG8.out⟩
  rw [HF.out]
  have := HR8.out
  rw [HE8.out, HE7.out, HE6.out, HE5.out, HE4.out, HE3.out, HE2.out, HE1.out, HE0.out] at this
  exact this

set_option maxHeartbeats 4000000 in
set_option maxRecDepth 100000 in
theorem rquarter_any (p T : Nat) (s : List Int) (a b c d : Nat) (w : World) (hr : Row32 w p T s) (hl : s.length = 16) (hs : ok32 s) (ha : (a : Int) < 16) (hb : (b : Int) < 16) (hc : (c : Int) < 16) (hd : (d : Int) < 16) :
    Calls Try.prog 36 #[.pointer (some ⟨p, 0, none⟩), .int .i64 a, .int .i64 b, .int .i64 c, .int .i64 d] w fun e w' => e = .returned (.tuple #[]) ∧ Row32 w' p T (qr s a b c d) ∧ w.grownBy w' (some p) := by
  have a0 : (0 : Int) ≤ a := by omega
  have b0 : (0 : Int) ≤ b := by omega
  have c0 : (0 : Int) ≤ c := by omega
  have d0 : (0 : Int) ≤ d := by omega
  obtain ⟨sf, HF⟩ : ∃ sf, Hid (sf = qr s a b c d) := ⟨_, rfl⟩
  rw [← HF.out]
  have HR0 := Lib.hid hr
  have HL0 := Lib.hid hl
  have HS0 := Lib.hid hs
  have HG0 := Lib.hid (grown_refl w (some p))
  obtain ⟨s0, h0⟩ : ∃ s0, s0 = s := ⟨_, rfl⟩
  rw [← h0] at HR0 HL0 HS0
  have HE0 := Lib.hid h0
  clear hr hl hs h0
  go_enter Try.func36, Try.ntmps36
  obtain ⟨x0, hx0⟩ : ∃ x, x = s0.getD a 0 := ⟨_, rfl⟩
  obtain ⟨y0, hy0⟩ : ∃ y, y = s0.getD b 0 := ⟨_, rfl⟩
  have e0 : w.cell? ⟨p, a, none⟩ = some (.int .u32 x0) := by rw [hx0]; exact row32_at HR0.out a (by rw [HL0.out]; omega)
  have f0 : w.cell? ⟨p, b, none⟩ = some (.int .u32 y0) := by rw [hy0]; exact row32_at HR0.out b (by rw [HL0.out]; omega)
  have HX0 := Lib.hid hx0
  have HY0 := Lib.hid hy0
  clear hx0 hy0
  go_wp2_with (first | go_still_tail 12, (by kernel_rfl) | (refine wpList_store_cell rfl 37 (.tmp 22) (.tmp 20) rfl p _ _ rfl rfl T (enc32 s0) HR0.out ?_ (by kernel_rfl) rfl rfl ?_))
  · rw [size_enc32, HL0.out]; omega
  intro w1 r1 g1
  obtain ⟨s1, h1⟩ : ∃ t, t = qa s0 a b := ⟨_, rfl⟩
  have r1 : Row32 w1 p T s1 := by
    rw [h1]
    have := row32_set r1
    rw [HX0.out, HY0.out] at this
    exact this
  have HR1 := Lib.hid r1
  have HL1 : Hid (s1.length = 16) := by rw [h1]; exact (List.length_set ..).trans HL0.out
  have HS1 : Hid (ok32 s1) := by rw [h1]; exact ok_qa HS0.out _ _
  have HG1 := Lib.hid (grown_after g1 HG0.out rfl rfl rfl rfl)
  have HE1 := Lib.hid h1
  clear r1 g1 h1 e0 f0 HR0 HG0
  obtain ⟨x1, hx1⟩ : ∃ x, x = s1.getD d 0 := ⟨_, rfl⟩
  obtain ⟨y1, hy1⟩ : ∃ y, y = s1.getD a 0 := ⟨_, rfl⟩
  have e1 : w1.cell? ⟨p, d, none⟩ = some (.int .u32 x1) := by rw [hx1]; exact row32_at HR1.out d (by rw [HL1.out]; omega)
  have f1 : w1.cell? ⟨p, a, none⟩ = some (.int .u32 y1) := by rw [hy1]; exact row32_at HR1.out a (by rw [HL1.out]; omega)
  have HX1 := Lib.hid hx1
  have HY1 := Lib.hid hy1
  clear hx1 hy1
  go_wp2_with (first | (refine wp_region_quiet_tail 15 (by kernel_rfl) (by kernel_rfl) ?_; simp only [List.take_succ_cons, List.take_zero, List.drop_succ_cons, List.drop_zero]; (repeat (go_big_quiet_step ((go_at_call 43; exact Calls.quiet_of (rot_16 _ (bits_range32 _ _ _).1 (bits_range32 _ _ _).2 _))))); refine wpQuiet_nil ?_; rintro _ ⟨nq, rfl⟩) | (refine wpList_store_cell rfl 37 (.tmp 38) (.tmp 36) rfl p _ _ rfl rfl T (enc32 s1) HR1.out ?_ (by kernel_rfl) rfl rfl ?_))
  · rw [size_enc32, HL1.out]; omega
  intro w2 r2 g2
  obtain ⟨s2, h2⟩ : ∃ t, t = qx s1 d a 16 := ⟨_, rfl⟩
  have r2 : Row32 w2 p T s2 := by
    rw [h2]
    have := row32_set r2
    rw [HX1.out, HY1.out] at this
    exact this
  have HR2 := Lib.hid r2
  have HL2 : Hid (s2.length = 16) := by rw [h2]; exact (List.length_set ..).trans HL1.out
  have HS2 : Hid (ok32 s2) := by rw [h2]; exact ok_qx HS1.out _ _ _
  have HG2 := Lib.hid (grown_after g2 HG1.out rfl rfl rfl rfl)
  have HE2 := Lib.hid h2
  clear r2 g2 h2 e1 f1 HR1 HG1
  obtain ⟨x2, hx2⟩ : ∃ x, x = s2.getD c 0 := ⟨_, rfl⟩
  obtain ⟨y2, hy2⟩ : ∃ y, y = s2.getD d 0 := ⟨_, rfl⟩
  have e2 : w2.cell? ⟨p, c, none⟩ = some (.int .u32 x2) := by rw [hx2]; exact row32_at HR2.out c (by rw [HL2.out]; omega)
  have f2 : w2.cell? ⟨p, d, none⟩ = some (.int .u32 y2) := by rw [hy2]; exact row32_at HR2.out d (by rw [HL2.out]; omega)
  have HX2 := Lib.hid hx2
  have HY2 := Lib.hid hy2
  clear hx2 hy2
  go_wp2_with (first | go_still_tail 12, (by kernel_rfl) | (refine wpList_store_cell rfl 37 (.tmp 51) (.tmp 49) rfl p _ _ rfl rfl T (enc32 s2) HR2.out ?_ (by kernel_rfl) rfl rfl ?_))
  · rw [size_enc32, HL2.out]; omega
  intro w3 r3 g3
  obtain ⟨s3, h3⟩ : ∃ t, t = qa s2 c d := ⟨_, rfl⟩
  have r3 : Row32 w3 p T s3 := by
    rw [h3]
    have := row32_set r3
    rw [HX2.out, HY2.out] at this
    exact this
  have HR3 := Lib.hid r3
  have HL3 : Hid (s3.length = 16) := by rw [h3]; exact (List.length_set ..).trans HL2.out
  have HS3 : Hid (ok32 s3) := by rw [h3]; exact ok_qa HS2.out _ _
  have HG3 := Lib.hid (grown_after g3 HG2.out rfl rfl rfl rfl)
  have HE3 := Lib.hid h3
  clear r3 g3 h3 e2 f2 HR2 HG2
  obtain ⟨x3, hx3⟩ : ∃ x, x = s3.getD b 0 := ⟨_, rfl⟩
  obtain ⟨y3, hy3⟩ : ∃ y, y = s3.getD c 0 := ⟨_, rfl⟩
  have e3 : w3.cell? ⟨p, b, none⟩ = some (.int .u32 x3) := by rw [hx3]; exact row32_at HR3.out b (by rw [HL3.out]; omega)
  have f3 : w3.cell? ⟨p, c, none⟩ = some (.int .u32 y3) := by rw [hy3]; exact row32_at HR3.out c (by rw [HL3.out]; omega)
  have HX3 := Lib.hid hx3
  have HY3 := Lib.hid hy3
  clear hx3 hy3
  go_wp2_with (first | (refine wp_region_quiet_tail 15 (by kernel_rfl) (by kernel_rfl) ?_; simp only [List.take_succ_cons, List.take_zero, List.drop_succ_cons, List.drop_zero]; (repeat (go_big_quiet_step ((go_at_call 43; exact Calls.quiet_of (rot_20 _ (bits_range32 _ _ _).1 (bits_range32 _ _ _).2 _))))); refine wpQuiet_nil ?_; rintro _ ⟨nq, rfl⟩) | (refine wpList_store_cell rfl 37 (.tmp 67) (.tmp 65) rfl p _ _ rfl rfl T (enc32 s3) HR3.out ?_ (by kernel_rfl) rfl rfl ?_))
  · rw [size_enc32, HL3.out]; omega
  intro w4 r4 g4
  obtain ⟨s4, h4⟩ : ∃ t, t = qx s3 b c 12 := ⟨_, rfl⟩
  have r4 : Row32 w4 p T s4 := by
    rw [h4]
    have := row32_set r4
    rw [HX3.out, HY3.out] at this
    exact this
  have HR4 := Lib.hid r4
  have HL4 : Hid (s4.length = 16) := by rw [h4]; exact (List.length_set ..).trans HL3.out
  have HS4 : Hid (ok32 s4) := by rw [h4]; exact ok_qx HS3.out _ _ _
  have HG4 := Lib.hid (grown_after g4 HG3.out rfl rfl rfl rfl)
  have HE4 := Lib.hid h4
  clear r4 g4 h4 e3 f3 HR3 HG3
  obtain ⟨x4, hx4⟩ : ∃ x, x = s4.getD a 0 := ⟨_, rfl⟩
  obtain ⟨y4, hy4⟩ : ∃ y, y = s4.getD b 0 := ⟨_, rfl⟩
  have e4 : w4.cell? ⟨p, a, none⟩ = some (.int .u32 x4) := by rw [hx4]; exact row32_at HR4.out a (by rw [HL4.out]; omega)
  have f4 : w4.cell? ⟨p, b, none⟩ = some (.int .u32 y4) := by rw [hy4]; exact row32_at HR4.out b (by rw [HL4.out]; omega)
  have HX4 := Lib.hid hx4
  have HY4 := Lib.hid hy4
  clear hx4 hy4
  go_wp2_with (first | go_still_tail 12, (by kernel_rfl) | (refine wpList_store_cell rfl 37 (.tmp 80) (.tmp 78) rfl p _ _ rfl rfl T (enc32 s4) HR4.out ?_ (by kernel_rfl) rfl rfl ?_))
  · rw [size_enc32, HL4.out]; omega
  intro w5 r5 g5
  obtain ⟨s5, h5⟩ : ∃ t, t = qa s4 a b := ⟨_, rfl⟩
  have r5 : Row32 w5 p T s5 := by
    rw [h5]
    have := row32_set r5
    rw [HX4.out, HY4.out] at this
    exact this
  have HR5 := Lib.hid r5
  have HL5 : Hid (s5.length = 16) := by rw [h5]; exact (List.length_set ..).trans HL4.out
  have HS5 : Hid (ok32 s5) := by rw [h5]; exact ok_qa HS4.out _ _
  have HG5 := Lib.hid (grown_after g5 HG4.out rfl rfl rfl rfl)
  have HE5 := Lib.hid h5
  clear r5 g5 h5 e4 f4 HR4 HG4
  obtain ⟨x5, hx5⟩ : ∃ x, x = s5.getD d 0 := ⟨_, rfl⟩
  obtain ⟨y5, hy5⟩ : ∃ y, y = s5.getD a 0 := ⟨_, rfl⟩
  have e5 : w5.cell? ⟨p, d, none⟩ = some (.int .u32 x5) := by rw [hx5]; exact row32_at HR5.out d (by rw [HL5.out]; omega)
  have f5 : w5.cell? ⟨p, a, none⟩ = some (.int .u32 y5) := by rw [hy5]; exact row32_at HR5.out a (by rw [HL5.out]; omega)
  have HX5 := Lib.hid hx5
  have HY5 := Lib.hid hy5
  clear hx5 hy5
  go_wp2_with (first | (refine wp_region_quiet_tail 15 (by kernel_rfl) (by kernel_rfl) ?_; simp only [List.take_succ_cons, List.take_zero, List.drop_succ_cons, List.drop_zero]; (repeat (go_big_quiet_step ((go_at_call 43; exact Calls.quiet_of (rot_24 _ (bits_range32 _ _ _).1 (bits_range32 _ _ _).2 _))))); refine wpQuiet_nil ?_; rintro _ ⟨nq, rfl⟩) | (refine wpList_store_cell rfl 37 (.tmp 96) (.tmp 94) rfl p _ _ rfl rfl T (enc32 s5) HR5.out ?_ (by kernel_rfl) rfl rfl ?_))
  · rw [size_enc32, HL5.out]; omega
  intro w6 r6 g6
  obtain ⟨s6, h6⟩ : ∃ t, t = qx s5 d a 8 := ⟨_, rfl⟩
  have r6 : Row32 w6 p T s6 := by
    rw [h6]
    have := row32_set r6
    rw [HX5.out, HY5.out] at this
    exact this
  have HR6 := Lib.hid r6
  have HL6 : Hid (s6.length = 16) := by rw [h6]; exact (List.length_set ..).trans HL5.out
  have HS6 : Hid (ok32 s6) := by rw [h6]; exact ok_qx HS5.out _ _ _
  have HG6 := Lib.hid (grown_after g6 HG5.out rfl rfl rfl rfl)
  have HE6 := Lib.hid h6
  clear r6 g6 h6 e5 f5 HR5 HG5
  obtain ⟨x6, hx6⟩ : ∃ x, x = s6.getD c 0 := ⟨_, rfl⟩
  obtain ⟨y6, hy6⟩ : ∃ y, y = s6.getD d 0 := ⟨_, rfl⟩
  have e6 : w6.cell? ⟨p, c, none⟩ = some (.int .u32 x6) := by rw [hx6]; exact row32_at HR6.out c (by rw [HL6.out]; omega)
  have f6 : w6.cell? ⟨p, d, none⟩ = some (.int .u32 y6) := by rw [hy6]; exact row32_at HR6.out d (by rw [HL6.out]; omega)
  have HX6 := Lib.hid hx6
  have HY6 := Lib.hid hy6
  clear hx6 hy6
  go_wp2_with (first | go_still_tail 12, (by kernel_rfl) | (refine wpList_store_cell rfl 37 (.tmp 109) (.tmp 107) rfl p _ _ rfl rfl T (enc32 s6) HR6.out ?_ (by kernel_rfl) rfl rfl ?_))
  · rw [size_enc32, HL6.out]; omega
  intro w7 r7 g7
  obtain ⟨s7, h7⟩ : ∃ t, t = qa s6 c d := ⟨_, rfl⟩
  have r7 : Row32 w7 p T s7 := by
    rw [h7]
    have := row32_set r7
    rw [HX6.out, HY6.out] at this
    exact this
  have HR7 := Lib.hid r7
  have HL7 : Hid (s7.length = 16) := by rw [h7]; exact (List.length_set ..).trans HL6.out
  have HS7 : Hid (ok32 s7) := by rw [h7]; exact ok_qa HS6.out _ _
  have HG7 := Lib.hid (grown_after g7 HG6.out rfl rfl rfl rfl)
  have HE7 := Lib.hid h7
  clear r7 g7 h7 e6 f6 HR6 HG6
  obtain ⟨x7, hx7⟩ : ∃ x, x = s7.getD b 0 := ⟨_, rfl⟩
  obtain ⟨y7, hy7⟩ : ∃ y, y = s7.getD c 0 := ⟨_, rfl⟩
  have e7 : w7.cell? ⟨p, b, none⟩ = some (.int .u32 x7) := by rw [hx7]; exact row32_at HR7.out b (by rw [HL7.out]; omega)
  have f7 : w7.cell? ⟨p, c, none⟩ = some (.int .u32 y7) := by rw [hy7]; exact row32_at HR7.out c (by rw [HL7.out]; omega)
  have HX7 := Lib.hid hx7
  have HY7 := Lib.hid hy7
  clear hx7 hy7
  go_wp2_with (first | (refine wp_region_quiet_tail 15 (by kernel_rfl) (by kernel_rfl) ?_; simp only [List.take_succ_cons, List.take_zero, List.drop_succ_cons, List.drop_zero]; (repeat (go_big_quiet_step ((go_at_call 43; exact Calls.quiet_of (rot_25 _ (bits_range32 _ _ _).1 (bits_range32 _ _ _).2 _))))); refine wpQuiet_nil ?_; rintro _ ⟨nq, rfl⟩) | (refine wpList_store_cell rfl 37 (.tmp 125) (.tmp 123) rfl p _ _ rfl rfl T (enc32 s7) HR7.out ?_ (by kernel_rfl) rfl rfl ?_))
  · rw [size_enc32, HL7.out]; omega
  intro w8 r8 g8
  obtain ⟨s8, h8⟩ : ∃ t, t = qx s7 b c 7 := ⟨_, rfl⟩
  have r8 : Row32 w8 p T s8 := by
    rw [h8]
    have := row32_set r8
    rw [HX7.out, HY7.out] at this
    exact this
  have HR8 := Lib.hid r8
  have HL8 : Hid (s8.length = 16) := by rw [h8]; exact (List.length_set ..).trans HL7.out
  have HS8 : Hid (ok32 s8) := by rw [h8]; exact ok_qx HS7.out _ _ _
  have HG8 := Lib.hid (grown_after g8 HG7.out rfl rfl rfl rfl)
  have HE8 := Lib.hid h8
  clear r8 g8 h8 e7 f7 HR7 HG7
  go_wp2
  go_end0
  refine ⟨rfl, ?_, HG8.out⟩
  rw [HF.out]
  have := HR8.out
  rw [HE8.out, HE7.out, HE6.out, HE5.out, HE4.out, HE3.out, HE2.out, HE1.out, HE0.out] at this
  exact this

end Go.Proofs.Ythhijeokeljcjaa
