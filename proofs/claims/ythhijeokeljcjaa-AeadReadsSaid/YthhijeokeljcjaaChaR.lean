/- A block of ChaCha20's stream, walked: the reference's. -/
import Derived.Test.YthhijeokeljcjaaChaB
namespace Go.Proofs.Ythhijeokeljcjaa
set_option linter.unusedVariables false
set_option linter.unusedSimpArgs false
open Go.RowKit Go.Proofs.YthhijeokeljcjaaL

theorem rquarter_at (p T : Nat) (s : List Int) (a b c d : Nat) (A B C D : Int) (w : World) (hA : A = a) (hB : B = b) (hC : C = c) (hD : D = d) (hr : Row32 w p T s) (hl : s.length = 16) (hs : ok32 s) (ha : (a : Int) < 16) (hb : (b : Int) < 16) (hc : (c : Int) < 16) (hd : (d : Int) < 16) :
    Calls Try.prog 36 #[.pointer (some ⟨p, 0, none⟩), .int .i64 A, .int .i64 B, .int .i64 C, .int .i64 D] w fun e w' => e = .returned (.tuple #[]) ∧ Row32 w' p T (qr s a b c d) ∧ w.grownBy w' (some p) := by
  subst hA hB hC hD
  exact rquarter_any p T s a b c d w hr hl hs ha hb hc hd

theorem setW_set (s bs : List Int) (off i : Nat) (x : Int) (k : Nat) (h : ∀ j, j < k → off + j ≠ i) : setW (s.set i x) bs off k = (setW s bs off k).set i x := by
  induction k with
  | zero => rfl
  | succ k ih =>
    rw [setW, setW, ih (fun j hj => h j (by omega)), List.set_comm _ _ (Ne.symm (h k (by omega)))]
theorem set_first (ctr : Int) (key : List Int) : setW (s00.set 12 ctr) key 4 8 = (setW s00 key 4 8).set 12 ctr := setW_set _ _ _ _ _ _ (fun j hj => by omega)

set_option maxHeartbeats 4000000 in
set_option maxRecDepth 100000 in
theorem rblock_any (key nonce : List Int) (ctr : Int) (w : World) (hk : key.length = 32) (hn : nonce.length = 12) (hk8 : ok8 key) (hn8 : ok8 nonce) (hc0 : 0 ≤ ctr) (hc1 : ctr < 4294967296) :
    Calls Try.prog 24 #[.agg (enc8 key), .int .u32 ctr, .agg (enc8 nonce)] w fun e w' => e = .returned (.agg (enc8 (blk key ctr nonce))) ∧ w.grownBy w' none := by
  have HK := Lib.hid hk
  have HN := Lib.hid hn
  have HK8 := Lib.hid hk8
  have HN8 := Lib.hid hn8
  clear hk hn hk8 hn8
  go_enter Try.func24, Try.ntmps24
  go_wp2_with fail
  obtain ⟨b, hb⟩ : ∃ b, w.heap.size = b := ⟨_, rfl⟩
  rw [hb]
  have HB := Lib.hid hb
  clear hb
  go_loopw [8] (fun v wr => ∃ k : Nat, k ≤ 8 ∧ v = .int .i64 k ∧ BF w b key nonce (setW (s00.set 12 ctr) key 4 k) wr) (fun v _ => 8 - (intOf v).toNat)
  case atStart =>
    refine ⟨0, by omega, rfl, ?_⟩
    rw [← HB.out]
    exact ⟨four_0 _ _ _ _ _, four_1 _ _ _ _ _, ⟨_, rfl, four_2 _ _ _ _ _⟩, four_3 _ _ _ _ _, four_g _ _ _ _ _⟩
  case round =>
    obtain ⟨k, hk, rfl, hf⟩ := hrel
    have HF := Lib.hid hf
    clear hf
    by_cases hlt : k < 8
    · have e0 := row8_at HF.out.key (4 * k) (by rw [HK.out]; omega)
      have e1 := row8_at HF.out.key (4 * k + 1) (by rw [HK.out]; omega)
      have e2 := row8_at HF.out.key (4 * k + 2) (by rw [HK.out]; omega)
      have e3 := row8_at HF.out.key (4 * k + 3) (by rw [HK.out]; omega)
      have hsl := sliceAt_from (P := Try.prog) 22 32 5 Try.underlying22 (by kernel_rfl) b 0 (4 * k) (4 * (k : Int)) (by omega) (by omega)
      rw [Nat.zero_add] at hsl
      go_wp2_with fail
      have hkl := HK.out
      refine (four_any b (4 * k) (32 - 4 * k) (32 - 4 * k) _ _ _ _ _ (by omega) (by omega) (ok8_at HK8.out _) (ok8_at HK8.out _) (ok8_at HK8.out _) (ok8_at HK8.out _) e0 e1 e2 e3).mono ?_
      rintro e w1 ⟨rfl, d1⟩
      have HF1 := Lib.hid (HF.out.drawn d1)
      have HLS : Hid ((enc32 (setW (s00.set 12 ctr) key 4 k)).size = 16) := by rw [size_enc32, length_setW, List.length_set]; rfl
      clear d1 e0 e1 e2 e3 hsl
      go_wp2_with (refine wpList_store_cell rfl 37 (.tmp 26) (.tmp 25) rfl (b + 1 + 1 + 1) (4 + k) _ ?h1 rfl _ _ HF1.out.s ?h2 ?h3 rfl rfl ?_)
      case h1 => simp [Act.eval]
      case h2 => rw [HLS.out]; omega
      case h3 => kernel_rfl
      intro w2 r2 g2
      have HF2 : Hid (BF w b key nonce (setW (s00.set 12 ctr) key 4 (k + 1)) w2) := BF.store HB.out HF1.out g2 r2
      clear r2 g2
      go_wp2_with fail
      go_roundw
      case rel => exact ⟨k + 1, by omega, by go_num, HF2.out⟩
      case measure => simp [intOf]; omega
    · have hk8i : (k : Int) = 8 := by omega
      rw [hk8i]
      clear hk8i
      have : k = 8 := by omega
      subst this
      have hl8 : (setW (s00.set 12 ctr) key 4 8).length = 16 := (length_setW _ _ _ _).trans (List.length_set ..)
      have HL8 := Lib.hid hl8
      clear hl8
      obtain ⟨wo, rfl⟩ : ∃ wo : World, wo = wr := ⟨_, rfl⟩
      go_wp2_with fail
      go_loopw [9] (fun v wr => ∃ k : Nat, k ≤ 3 ∧ v = .int .i64 k ∧ BF w b key nonce (setW (setW (s00.set 12 ctr) key 4 8) nonce 13 k) wr) (fun v _ => 3 - (intOf v).toNat)
      case atStart => exact ⟨0, by omega, rfl, HF.out⟩
      case round =>
        obtain ⟨k, hk, rfl, hf⟩ := hrel
        have HF := Lib.hid hf
        clear hf
        by_cases hlt : k < 3
        · have e0 := row8_at HF.out.nonce (4 * k) (by rw [HN.out]; omega)
          have e1 := row8_at HF.out.nonce (4 * k + 1) (by rw [HN.out]; omega)
          have e2 := row8_at HF.out.nonce (4 * k + 2) (by rw [HN.out]; omega)
          have e3 := row8_at HF.out.nonce (4 * k + 3) (by rw [HN.out]; omega)
          have hsl := sliceAt_from (P := Try.prog) 38 12 5 Try.underlying38 (by kernel_rfl) (b + 1) 0 (4 * k) (4 * (k : Int)) (by omega) (by omega)
          rw [Nat.zero_add] at hsl
          go_wp2_with fail
          refine (four_any (b + 1) (4 * k) (12 - 4 * k) (12 - 4 * k) _ _ _ _ _ (by omega) (by omega) (ok8_at HN8.out _) (ok8_at HN8.out _) (ok8_at HN8.out _) (ok8_at HN8.out _) e0 e1 e2 e3).mono ?_
          rintro e w1 ⟨rfl, d1⟩
          have HF1 := Lib.hid (HF.out.drawn d1)
          have HLS : Hid ((enc32 (setW (setW (s00.set 12 ctr) key 4 8) nonce 13 k)).size = 16) := by rw [size_enc32]; rw [set_first]; exact (fine_s0 key ctr nonce ⟨hc0, hc1⟩ k).2
          clear d1 e0 e1 e2 e3 hsl
          go_wp2_with (refine wpList_store_cell rfl 37 (.tmp 37) (.tmp 36) rfl (b + 1 + 1 + 1) (13 + k) _ ?h1 rfl _ _ HF1.out.s ?h2 ?h3 rfl rfl ?_)
          case h1 => simp [Act.eval]
          case h2 => rw [HLS.out]; omega
          case h3 => kernel_rfl
          intro w2 r2 g2
          have HF2 : Hid (BF w b key nonce (setW (setW (s00.set 12 ctr) key 4 8) nonce 13 (k + 1)) w2) := BF.store HB.out HF1.out g2 r2
          clear r2 g2
          go_wp2_with fail
          go_roundw
          case rel => exact ⟨k + 1, by omega, by go_num, HF2.out⟩
          case measure => simp [intOf]; omega
        · have hk3i : (k : Int) = 3 := by omega
          rw [hk3i]
          clear hk3i
          have : k = 3 := by omega
          subst this
          have hfin := fine_s0 key ctr nonce ⟨hc0, hc1⟩ 3
          obtain ⟨s, hs⟩ : ∃ s, s = s0 key ctr nonce := ⟨_, rfl⟩
          have HF3 : Hid (BF w b key nonce s wr) := by rw [hs]; have h := HF.out; rw [set_first] at h; exact h
          have hsf : ok32 s ∧ s.length = 16 := by rw [hs]; exact hfin
          have HS := Lib.hid hs
          have HSF := Lib.hid hsf
          clear hfin hs hsf HF
          have hrs := HF3.out.s
          have HRS := Lib.hid hrs
          clear hrs
          obtain ⟨c, hc⟩ : ∃ c, wr.heap.size = c := ⟨_, rfl⟩
          have HC := Lib.hid hc
          clear hc
          go_wp2_with (first | (refine wpList_load_row rfl 53 (.tmp 7) rfl (b + 1 + 1 + 1) rfl _ _ _ _ HRS.out Try.underlying53 rfl ?h1 ?_) | (refine wpList_store_range rfl 53 (.tmp 10) (.tmp 38) rfl wr.heap.size 0 (enc32 s) rfl rfl _ _ (heap_alloc_new _ _) ?h2 ?h3 ?h4 ?_))
          case h1 => rw [size_enc32, HSF.out.2]; kernel_rfl
          case h2 => rw [size_enc32, HSF.out.2]; decide
          case h3 => rw [size_enc32, HSF.out.2]; kernel_rfl
          case h4 => exact one_enc32 s
          intro w4 r4 g4
          have hx4 : Row32 w4 c 53 s := by
            unfold Row32
            rw [← HC.out, r4, putAt_all _ _ (by rw [Array.length_toList, size_enc32, HSF.out.2]; rfl)]
          have hb4 : BF w b key nonce s w4 := BF.kept HB.out (BF.kept HB.out HF3.out (World.grownBy_alloc _ _ none) (by simp)) g4 (fun k hk => by injection hk with hk; subst hk; exact row_lt HF3.out.s)
          have hbc : b + 1 + 1 + 1 < c := by rw [← HC.out]; exact row_lt HF3.out.s
          have HX4 := Lib.hid hx4
          have HB4 := Lib.hid hb4
          have HBC := Lib.hid hbc
          rw [HC.out]
          clear r4 g4 hx4 hb4 hbc HF3 HRS
          obtain ⟨wo2, rfl⟩ : ∃ wo2 : World, wo2 = wr := ⟨_, rfl⟩
          go_wp2_with fail
          go_loopw [11] (fun v wr => ∃ k : Nat, k ≤ 10 ∧ v = .int .i64 k ∧ BF w b key nonce s wr ∧ Row32 wr c 53 (roundK s k)) (fun v _ => 10 - (intOf v).toNat)
          case atStart => exact ⟨0, by omega, rfl, HB4.out, HX4.out⟩
          case round =>
            obtain ⟨k, hk, rfl, hbf, hx⟩ := hrel
            have HBF := Lib.hid hbf
            have HX := Lib.hid hx
            clear hbf hx
            have HRF : Hid (ok32 (roundK s k) ∧ (roundK s k).length = 16) := ⟨(round_fine HSF.out.1 k).1, (round_fine HSF.out.1 k).2.trans HSF.out.2⟩
            by_cases hlt : k < 10
            · obtain ⟨wo3, rfl⟩ : ∃ wo3 : World, wo3 = wr := ⟨_, rfl⟩
              have hdec : decide ((k : Int) < 10) = true := by simp; omega
              go_wp2_with fail
              refine (rquarter_at c _ _ 0 4 8 12 _ _ _ _ _ rfl rfl rfl rfl HX.out HRF.out.2 HRF.out.1 (by decide) (by decide) (by decide) (by decide)).mono ?_
              rintro e w11 ⟨rfl, r5, g5⟩
              have R1 := Lib.hid r5
              have B1 := Lib.hid (BF.kept HB.out HBF.out g5 (fun k hk => by injection hk with hk; subst hk; exact HBC.out))
              have F1 := Lib.hid (And.intro (ok_qr HRF.out.1 0 4 8 12) ((length_qr _ 0 4 8 12).trans HRF.out.2))
              clear r5 g5
              go_wp2_with fail
              refine (rquarter_at c _ _ 1 5 9 13 _ _ _ _ _ rfl rfl rfl rfl R1.out F1.out.2 F1.out.1 (by decide) (by decide) (by decide) (by decide)).mono ?_
              rintro e w12 ⟨rfl, r5, g5⟩
              have R2 := Lib.hid r5
              have B2 := Lib.hid (BF.kept HB.out B1.out g5 (fun k hk => by injection hk with hk; subst hk; exact HBC.out))
              have F2 := Lib.hid (And.intro (ok_qr F1.out.1 1 5 9 13) ((length_qr _ 1 5 9 13).trans F1.out.2))
              clear r5 g5
              go_wp2_with fail
              refine (rquarter_at c _ _ 2 6 10 14 _ _ _ _ _ rfl rfl rfl rfl R2.out F2.out.2 F2.out.1 (by decide) (by decide) (by decide) (by decide)).mono ?_
              rintro e w13 ⟨rfl, r5, g5⟩
              have R3 := Lib.hid r5
              have B3 := Lib.hid (BF.kept HB.out B2.out g5 (fun k hk => by injection hk with hk; subst hk; exact HBC.out))
              have F3 := Lib.hid (And.intro (ok_qr F2.out.1 2 6 10 14) ((length_qr _ 2 6 10 14).trans F2.out.2))
              clear r5 g5
              go_wp2_with fail
              refine (rquarter_at c _ _ 3 7 11 15 _ _ _ _ _ rfl rfl rfl rfl R3.out F3.out.2 F3.out.1 (by decide) (by decide) (by decide) (by decide)).mono ?_
              rintro e w14 ⟨rfl, r5, g5⟩
              have R4 := Lib.hid r5
              have B4 := Lib.hid (BF.kept HB.out B3.out g5 (fun k hk => by injection hk with hk; subst hk; exact HBC.out))
              have F4 := Lib.hid (And.intro (ok_qr F3.out.1 3 7 11 15) ((length_qr _ 3 7 11 15).trans F3.out.2))
              clear r5 g5
              go_wp2_with fail
              refine (rquarter_at c _ _ 0 5 10 15 _ _ _ _ _ rfl rfl rfl rfl R4.out F4.out.2 F4.out.1 (by decide) (by decide) (by decide) (by decide)).mono ?_
              rintro e w15 ⟨rfl, r5, g5⟩
              have R5 := Lib.hid r5
              have B5 := Lib.hid (BF.kept HB.out B4.out g5 (fun k hk => by injection hk with hk; subst hk; exact HBC.out))
              have F5 := Lib.hid (And.intro (ok_qr F4.out.1 0 5 10 15) ((length_qr _ 0 5 10 15).trans F4.out.2))
              clear r5 g5
              go_wp2_with fail
              refine (rquarter_at c _ _ 1 6 11 12 _ _ _ _ _ rfl rfl rfl rfl R5.out F5.out.2 F5.out.1 (by decide) (by decide) (by decide) (by decide)).mono ?_
              rintro e w16 ⟨rfl, r5, g5⟩
              have R6 := Lib.hid r5
              have B6 := Lib.hid (BF.kept HB.out B5.out g5 (fun k hk => by injection hk with hk; subst hk; exact HBC.out))
              have F6 := Lib.hid (And.intro (ok_qr F5.out.1 1 6 11 12) ((length_qr _ 1 6 11 12).trans F5.out.2))
              clear r5 g5
              go_wp2_with fail
              refine (rquarter_at c _ _ 2 7 8 13 _ _ _ _ _ rfl rfl rfl rfl R6.out F6.out.2 F6.out.1 (by decide) (by decide) (by decide) (by decide)).mono ?_
              rintro e w17 ⟨rfl, r5, g5⟩
              have R7 := Lib.hid r5
              have B7 := Lib.hid (BF.kept HB.out B6.out g5 (fun k hk => by injection hk with hk; subst hk; exact HBC.out))
              have F7 := Lib.hid (And.intro (ok_qr F6.out.1 2 7 8 13) ((length_qr _ 2 7 8 13).trans F6.out.2))
              clear r5 g5
              go_wp2_with fail
              refine (rquarter_at c _ _ 3 4 9 14 _ _ _ _ _ rfl rfl rfl rfl R7.out F7.out.2 F7.out.1 (by decide) (by decide) (by decide) (by decide)).mono ?_
              rintro e w18 ⟨rfl, r5, g5⟩
              have R8 := Lib.hid r5
              have B8 := Lib.hid (BF.kept HB.out B7.out g5 (fun k hk => by injection hk with hk; subst hk; exact HBC.out))
              have F8 := Lib.hid (And.intro (ok_qr F7.out.1 3 4 9 14) ((length_qr _ 3 4 9 14).trans F7.out.2))
              clear r5 g5
              go_wp2_with fail
              go_roundw
              case rel => exact ⟨k + 1, by omega, by go_num, B8.out, R8.out⟩
              case measure => simp [intOf]; omega
            · have hk10 : (k : Int) = 10 := by omega
              rw [hk10]
              clear hk10
              have : k = 10 := by omega
              subst this
              obtain ⟨x, hx⟩ : ∃ x, x = roundK s 10 := ⟨_, rfl⟩
              have HXX := Lib.hid hx
              rw [← hx] at HX HRF
              clear hx
              have hbs := HBF.out.s
              have HBS := Lib.hid hbs
              clear hbs
              obtain ⟨d, hd⟩ : ∃ d, wr.heap.size = d := ⟨_, rfl⟩
              have HD := Lib.hid hd
              clear hd
              have HCD : Hid (c < d) := by rw [← HD.out]; exact row_lt HX.out
              go_wp2_with fail
              rw [HD.out]
              go_loopw [13] (fun v wq => ∃ i : Nat, i ≤ 64 ∧ v = .int .i64 i ∧ Row32 wq (b + 1 + 1 + 1) 53 s ∧ Row32 wq c 53 x ∧ wq.heap[d]? = some (.cells (enc8 (outs x s i ++ List.replicate (64 - i) 0)) 44 (0, 0)) ∧ (∃ q, q.size = 64 ∧ wq.heap[b + 1 + 1]? = some (.cells q 44 (0, 0))) ∧ w.grownBy wq none) (fun v _ => 64 - (intOf v).toNat)
              case atStart =>
                refine ⟨0, by omega, rfl, ?_, ?_, ?_, ?_, ?_⟩
                · exact (heap_alloc_old _ _ (row_lt HBS.out)).trans HBS.out
                · exact (heap_alloc_old _ _ (row_lt HX.out)).trans HX.out
                · rw [← HD.out]; exact heap_alloc_new _ _
                · obtain ⟨q, hq, hq2⟩ := HBF.out.out
                  exact ⟨q, hq, (heap_alloc_old _ _ (row_lt hq2)).trans hq2⟩
                · exact grown_alloc HBF.out.grown _
              case round =>
                obtain ⟨i, hi, rfl, r1, r2, r3, r4, hg⟩ := hrel
                by_cases hlt : i < 64
                · have i4 : (i : Int) / 4 < 16 := by omega
                  have i40 : (0 : Int) ≤ (i : Int) / 4 := by omega
                  have i4n : ((i : Int) / 4).toNat = i / 4 := by omega
                  have e1 := row32_at r1 (i / 4) (by rw [HSF.out.2]; omega)
                  have e2 := row32_at r2 (i / 4) (by rw [HRF.out.2]; omega)
                  have R1 := Lib.hid r1
                  have R2 := Lib.hid r2
                  have R3 := Lib.hid r3
                  have R4 := Lib.hid r4
                  have HG := Lib.hid hg
                  clear r1 r2 r3 r4 hg
                  have i8 : (0 : Int) ≤ 8 * ((i : Int) % 4) := by omega
                  have i9 : 8 * ((i : Int) % 4) ≤ 24 := by omega
                  go_wp2_with (first | (refine wp_region_quiet_tail 15 (by kernel_rfl) (by kernel_rfl) ?_; simp only [List.take_succ_cons, List.take_zero, List.drop_succ_cons, List.drop_zero]; (repeat (go_big_quiet_step (fail))); refine wpQuiet_nil ?_; rintro _ ⟨nq, rfl⟩) | (refine wpList_store_cell rfl 5 (.tmp 70) (.tmp 69) rfl d i _ ?h1 rfl _ _ R3.out ?h2 ?h3 rfl rfl ?_))
                  case h1 => simp [Act.eval]
                  case h2 => rw [size_enc8, List.length_append, length_outs, List.length_replicate]; omega
                  case h3 => kernel_rfl
                  intro w6 r6 g6
                  have r7 := row8_set r6
                  rw [show ((x[i / 4]?.getD 0 + s[i / 4]?.getD 0) % 4294967296 / 2 ^ (8 * (i % 4)) % 256) = outB x s i from rfl, outs_step x s i 64 hlt] at r7
                  have R7 := Lib.hid r7
                  have G6 := Lib.hid (grown_after g6 (grown_refl wr _) rfl rfl rfl rfl)
                  clear r6 r7 g6
                  go_wp2_with fail
                  go_roundw
                  case rel =>
                    have hbd : b + 1 + 1 + 1 < c := HBC.out
                    have hcd : c < d := HCD.out
                    refine ⟨i + 1, by omega, by go_num, ?_, ?_, R7.out, ?_, ?_⟩
                    · exact (G6.out.block _ (row_lt R1.out) (by intro e; injection e; omega)).trans R1.out
                    · exact (G6.out.block _ (row_lt R2.out) (by intro e; injection e; omega)).trans R2.out
                    · obtain ⟨q, hq, hq2⟩ := R4.out
                      exact ⟨q, hq, (G6.out.block _ (row_lt hq2) (by intro e; injection e; omega)).trans hq2⟩
                    · exact grown_row HG.out G6.out (fun k hk => by injection hk with hk; have := HB.out; omega)
                  case measure => simp [intOf]; omega
                · have : i = 64 := by omega
                  subst this
                  rw [Nat.sub_self, List.replicate_zero, List.append_nil] at r3
                  obtain ⟨q, hq, hq2⟩ := r4
                  obtain ⟨o, ho⟩ : ∃ o, o = outs x s 64 := ⟨_, rfl⟩
                  have hol : o.length = 64 := by rw [ho, length_outs]
                  have hof : blk key ctr nonce = o := by rw [ho, HXX.out, HS.out]; rfl
                  rw [← ho] at r3
                  have R3 := Lib.hid r3
                  have HQ := Lib.hid hq
                  have HQ2 := Lib.hid hq2
                  have HG := Lib.hid hg
                  have HOL := Lib.hid hol
                  have HOF := Lib.hid hof
                  clear r1 r2 r3 hq hq2 hg ho hol hof
                  go_wp2_with (first | (refine wpList_load_row rfl 44 (.tmp 12) rfl d rfl _ _ _ _ R3.out Try.underlying44 rfl ?h1 ?_) | (refine wpList_store_range rfl 44 (.tmp 6) (.tmp 71) rfl (b + 1 + 1) 0 (enc8 o) rfl rfl _ _ HQ2.out ?h2 ?h3 ?h4 ?_))
                  case h1 => rw [size_enc8, HOL.out]; kernel_rfl
                  case h2 => rw [size_enc8, HOL.out, HQ.out]; decide
                  case h3 => rw [size_enc8, HOL.out]; kernel_rfl
                  case h4 => exact one_enc8 o
                  intro w8 r8 g8
                  rw [putAt_all _ _ (by rw [Array.length_toList, size_enc8, HOL.out, HQ.out])] at r8
                  have r9 : w8.heap[b + 1 + 1]? = some (.cells (enc8 o) 44 (0, 0)) := r8
                  have R9 := Lib.hid r9
                  have HG9 : Hid (w.grownBy w8 none) := grown_row HG.out g8 (fun k hk => by injection hk with hk; have := HB.out; omega)
                  clear r8 r9 g8
                  go_wp2_with fail
                  rw [HOF.out]
                  exact bodyPost_ret (results_cell_row rfl _ _ (b + 1 + 1) _ _ _ _ rfl R9.out Try.underlying44 rfl (by rw [size_enc8, HOL.out]; kernel_rfl)) rfl ⟨rfl, HG9.out⟩
end Go.Proofs.Ythhijeokeljcjaa
