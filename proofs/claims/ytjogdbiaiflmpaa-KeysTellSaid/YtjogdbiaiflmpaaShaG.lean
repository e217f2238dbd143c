/- The reference's SHA-256, walked. -/
import Derived.Test.YtjogdbiaiflmpaaShaF
namespace Go.Proofs.Ytjogdbiaiflmpaa
set_option linter.unusedVariables false
set_option linter.unusedSimpArgs false
open Go.RowKit Go.Proofs.YtjogdbiaiflmpaaL

def hiA (H : List Int) : Nat → List Int
  | 0 => List.replicate 8 0
  | j + 1 => (hiA H j).set j (H.getD j 0 / 4294967296)
theorem hiA_8 : hiA H64 8 = H32 := by decide +kernel
theorem k64_k32 (j : Nat) (h : j < 64) : K64.getD j 0 / 4294967296 = K32.getD j 0 := by
  have : ∀ j, j < 64 → K64.getD j 0 / 4294967296 = K32.getD j 0 := by decide +kernel
  exact this j h
theorem ok_K64 : okB 18446744073709551616 K64 := by unfold okB; decide +kernel
theorem ok_H64 : okB 18446744073709551616 H64 := by unfold okB; decide +kernel

set_option maxHeartbeats 20000000 in
set_option maxRecDepth 100000 in
theorem rsum256_any (B : Bs) (w : World) (hb : B.ok w) :
    Calls Try.prog 11 #[B.val] w fun e w' => e = .returned (.agg (encK .u8 (sum32 B.xs))) ∧ w.grownBy w' none := by
  have HPAD := Lib.hid (fun (w' : World) (g : w.grownBy w' none) => rpad_any B w' (Bs.ok_keep hb g))
  have hm := hb.2.2.2
  have hml := hb.1.1
  obtain ⟨M, hM⟩ : ∃ M, M = pad64 B.xs := ⟨_, rfl⟩
  obtain ⟨nb, hnb⟩ : ∃ nb, nb = (B.len + 1 + zc B.len + 8) / 64 := ⟨_, rfl⟩
  have HMO := Lib.hid (show okB 256 M by rw [hM]; exact ok_pad64 hb.2.1)
  have hw := whole64 B.len
  have hN : B.len + 1 + zc B.len + 8 = 64 * nb := by omega
  have hzc : zc B.len ≤ 63 := by unfold zc; omega
  have hnb0 : 0 < nb := by omega
  have hnb1 : nb ≤ 2000 := by omega
  have HS := Lib.hid (show sum32 B.xs = outA (hs32 M nb) 32 by rw [sum32, ← hM]; congr 2; rw [hM, length_pad64, hml, hN]; omega)
  rw [← hM, hN] at HPAD
  obtain ⟨bv, hbv⟩ : ∃ bv, bv = B.val := ⟨_, rfl⟩
  rw [← hbv] at HPAD ⊢
  clear hb hm hml hM hnb hw hN hzc hbv
  have HK := Lib.hid (own_start w)
  go_enter Try.func11, Try.ntmps11
  go_wp2_with ((refine wpList_new_ints rfl HK.out _ rfl .u8 26 32 (zer 32) (length_zer _) (fun w => by go_simp; first | exact ⟨rfl, rfl⟩ | kernel_rfl) ?_))
  intro wn po hkn
  have HKN := Lib.hid hkn
  clear hkn HK
  have HK := HKN
  clear HKN
  obtain ⟨zs, hzs⟩ : ∃ zs, zs = zer 32 := ⟨_, rfl⟩
  rw [← hzs] at HK
  have HZS := Lib.hid hzs
  clear hzs
  go_wp2_with fail
  refine (kays_any _).mono ?_
  rintro e w3 ⟨v, rfl, ho, g3⟩
  obtain ⟨a, ck, rfl, hk⟩ := HK.out.sl g3 ho
  clear HK ho g3
  obtain ⟨pk, rfl, -⟩ := hk.addr (.here _) (by omega)
  obtain ⟨KK, hkk⟩ : ∃ KK, KK = K64 := ⟨_, rfl⟩
  rw [← hkk] at hk
  have HKK := Lib.hid hkk
  clear hkk
  have HK := Lib.hid hk
  clear hk
  go_wp2_with fail
  refine (rstart_any _).mono ?_
  rintro e w2 ⟨rfl, g2⟩
  obtain ⟨SS, hss⟩ : ∃ SS, SS = H64 := ⟨_, rfl⟩
  rw [← hss]
  have HSS := Lib.hid hss
  clear hss
  have HSL := Lib.hid (show SS.length = 8 by rw [HSS.out]; rfl)
  have HSO := Lib.hid (show okB 18446744073709551616 SS by rw [HSS.out]; exact ok_H64)
  have hk := HK.out.grow g2
  clear g2
  clear HK
  have HK := Lib.hid hk
  clear hk
  go_wp2_with ((refine wpList_new_ints rfl HK.out _ rfl .u64 43 8 (zer 8) (length_zer _) (fun w => by go_simp; first | exact ⟨rfl, rfl⟩ | kernel_rfl) ?_))
  intro wn ps hkn
  have HKN := Lib.hid hkn
  clear hkn HK
  have HK := HKN
  clear HKN
  go_wp2_with (first | (refine wpList_put_row rfl HK.out 43 _ _ rfl _ _ SS rfl rfl _ _ _ (by first | exact Upd.here _ | exact Upd.next _ (Upd.here _) | exact Upd.next _ (Upd.next _ (Upd.here _)) | exact Upd.next _ (Upd.next _ (Upd.next _ (Upd.here _))) | exact Upd.next _ (Upd.next _ (Upd.next _ (Upd.next _ (Upd.here _)))) | exact Upd.next _ (Upd.next _ (Upd.next _ (Upd.next _ (Upd.next _ (Upd.here _))))) | exact Upd.next _ (Upd.next _ (Upd.next _ (Upd.next _ (Upd.next _ (Upd.next _ (Upd.here _)))))) | exact Upd.next _ (Upd.next _ (Upd.next _ (Upd.next _ (Upd.next _ (Upd.next _ (Upd.next _ (Upd.here _))))))) | exact Upd.next _ (Upd.next _ (Upd.next _ (Upd.next _ (Upd.next _ (Upd.next _ (Upd.next _ (Upd.next _ (Upd.here _)))))))) | exact Upd.next _ (Upd.next _ (Upd.next _ (Upd.next _ (Upd.next _ (Upd.next _ (Upd.next _ (Upd.next _ (Upd.next _ (Upd.here _)))))))))) (by exact HSL.out) (by kernel_rfl) ?_; (intro wn hkn; have HKN := Lib.hid hkn; clear hkn; clear HK; have HK := HKN; clear HKN)) | (refine wpList_new_ints rfl HK.out _ rfl .u32 46 8 (zer 8) (length_zer _) (fun w => by go_simp; first | exact ⟨rfl, rfl⟩ | kernel_rfl) ?_))
  intro wn ph hkn
  have HKN := Lib.hid hkn
  clear hkn HK
  have HK := HKN
  clear HKN
  go_wp2_with fail
  go_loopw [6] (fun v wr => ∃ (j : Nat), j ≤ 8 ∧ v = .int .i64 j ∧ Hid (Own w wr [.ints ph .u32 46 8 (hiA SS j), .ints ps .u64 43 8 SS, .sl 42 .u64 (some ⟨pk, 0, none⟩) 80 ck KK, .ints po .u8 26 32 zs])) (fun v _ => 8 - (intOf v).toNat)
  case atStart => exact ⟨0, by omega, rfl, HK⟩
  case round =>
    obtain ⟨j, hj, rfl, HK'⟩ := hrel
    clear HK
    have HK := HK'
    clear HK'
    by_cases hlj : j < 8
    · obtain ⟨A, hA⟩ : ∃ A, A = hiA SS j := ⟨_, rfl⟩
      rw [← hA] at HK
      obtain ⟨x, hx⟩ : ∃ x, x = SS.getD j 0 := ⟨_, rfl⟩
      have HNA := Lib.hid (show hiA SS (j + 1) = A.set j (x / 4294967296) by rw [hiA, hA, hx])
      have hx0 := ok_getD (by decide) HSO.out j
      rw [← hx] at hx0
      obtain ⟨hx1, hx2⟩ := hx0
      have hx3 : x / 4294967296 < 4294967296 := by omega
      have hx4 : 0 ≤ x / 4294967296 := by omega
      have hcell := rowK_at (HK.out.row (.next _ (.here _))) j (by rw [HSL.out]; exact hlj)
      rw [← hx] at hcell
      have HX := Lib.hid hx
      clear hA hx
      have hj0 : (0 : Int) ≤ j := by omega
      have hj8 : (j : Int) < 8 := by omega
      go_wp2_with (refine wpList_put_int rfl HK.out _ _ _ rfl _ _ _ _ rfl rfl _ _ _ (by first | exact Upd.here _ | exact Upd.next _ (Upd.here _) | exact Upd.next _ (Upd.next _ (Upd.here _)) | exact Upd.next _ (Upd.next _ (Upd.next _ (Upd.here _))) | exact Upd.next _ (Upd.next _ (Upd.next _ (Upd.next _ (Upd.here _)))) | exact Upd.next _ (Upd.next _ (Upd.next _ (Upd.next _ (Upd.next _ (Upd.here _))))) | exact Upd.next _ (Upd.next _ (Upd.next _ (Upd.next _ (Upd.next _ (Upd.next _ (Upd.here _)))))) | exact Upd.next _ (Upd.next _ (Upd.next _ (Upd.next _ (Upd.next _ (Upd.next _ (Upd.next _ (Upd.here _))))))) | exact Upd.next _ (Upd.next _ (Upd.next _ (Upd.next _ (Upd.next _ (Upd.next _ (Upd.next _ (Upd.next _ (Upd.here _)))))))) | exact Upd.next _ (Upd.next _ (Upd.next _ (Upd.next _ (Upd.next _ (Upd.next _ (Upd.next _ (Upd.next _ (Upd.next _ (Upd.here _)))))))))) (by omega) (by kernel_rfl) ?_; (intro wn hkn; have HKN := Lib.hid hkn; clear hkn; clear HK; have HK := HKN; clear HKN))
      have HK' : Hid (Own w wn [.ints ph .u32 46 8 (hiA SS (j + 1)), .ints ps .u64 43 8 SS, .sl 42 .u64 (some ⟨pk, 0, none⟩) 80 ck KK, .ints po .u8 26 32 zs]) := by rw [HNA.out]; exact HK
      exact ⟨⟨j + 1, by omega, by go_num, HK'⟩, by simp [intOf]; omega⟩
    · have hj2 : j = 8 := by omega
      subst hj2
      clear hlj hj
      rw [show ((8 : Nat) : Int) = 8 from rfl]
      have hk := HK.out
      rw [show hiA SS 8 = hs32 M 0 by rw [HSS.out, hiA_8]; rfl] at hk
      clear HK
      have HK := Lib.hid hk
      clear hk
      go_wp2_with fail
      refine (HPAD.out _ HK.out.grown).mono ?_
      rintro e w3 ⟨v, rfl, ho, g3⟩
      obtain ⟨a, c, rfl, hk⟩ := HK.out.sl g3 ho
      clear HK ho g3
      obtain ⟨pm, rfl, hcap⟩ := hk.addr (.here _) (by omega)
      have hcm := (hk.cap (.here _)).2.1
      have HK := Lib.hid hk
      clear hk HPAD
      obtain ⟨N, hN⟩ : ∃ N, N = 64 * nb := ⟨_, rfl⟩
      rw [← hN] at HK hcap ⊢
      have HN := Lib.hid hN
      clear hN
      go_wp2_with fail
      go_loopw [7] (fun v wr => ∃ (k R C : Nat) (ad' : Option Addr), k ≤ nb ∧ Hid (R = 64 * (nb - k)) ∧ Hid (0 < R → ad' = some ⟨pm, 64 * k, none⟩ ∧ R ≤ C ∧ C ≤ maxLen) ∧ v = .slice ad' R C ∧ Hid (Own w wr [.sl 5 .u8 (some ⟨pm, 0, none⟩) N c M, .ints ph .u32 46 8 (hs32 M k), .ints ps .u64 43 8 SS, .sl 42 .u64 (some ⟨pk, 0, none⟩) 80 ck KK, .ints po .u8 26 32 zs])) (fun v _ => lenOf v)
      case atStart => exact ⟨0, N, c, _, by omega, Lib.hid (by rw [HN.out]; rfl), Lib.hid (fun _ => ⟨rfl, hcap, hcm⟩), rfl, HK⟩
      case round =>
        obtain ⟨k, R, C, ad', hk, HR, HA, rfl, HK'⟩ := hrel
        clear HK
        have HK := HK'
        clear HK'
        by_cases hlt : k < nb
        · have hR : R = 64 * (nb - k) := HR.out
          obtain ⟨rfl, hRC, hCm⟩ := HA.out (by omega)
          have hR0 : (64 : Int) ≤ (R : Int) := by omega
          have hR1 : (R : Int) ≤ 200000 := by omega
          have hR2 : 64 ≤ R := by omega
          have hRp : 0 < R := by omega
          have HRD := Lib.hid (show N - 64 * k = R by rw [HN.out, hR]; omega)
          have HRE := Lib.hid (show 64 * k ≤ N by rw [HN.out]; omega)
          clear hR HA hcap hcm
          obtain ⟨H, hH⟩ : ∃ H, H = hs32 M k := ⟨_, rfl⟩
          rw [← hH] at HK
          have HH8 := Lib.hid (show H.length = 8 by rw [hH]; exact length_hs32 M k)
          have HHO := Lib.hid (show okB 4294967296 H by rw [hH]; exact ok_hs32 M k)
          obtain ⟨b, hb⟩ : ∃ b, b = M.drop (64 * k) := ⟨_, rfl⟩
          have HBO := Lib.hid (show okB 256 b by rw [hb]; exact ok_drop' HMO.out _)
          have HB := Lib.hid hb
          have HNX := Lib.hid (show hs32 M (k + 1) = addH H (rn H (wdB (wdA b 16) 48) 64) 8 by rw [hs32, comp32, hb, hH]; rfl)
          clear hH hb
          go_wp2_with ((refine wpList_new_ints rfl HK.out _ rfl .u32 49 64 (zer 64) (length_zer _) (fun w => by go_simp; first | exact ⟨rfl, rfl⟩ | kernel_rfl) ?_))
          intro wn pw hkn
          have HKN := Lib.hid hkn
          clear hkn HK
          have HK := HKN
          clear HKN
          go_wp2_with fail
          go_loopw [9] (fun v wr => ∃ i : Nat, i ≤ 16 ∧ v = .int .i64 i ∧ Hid (Own w wr [.ints pw .u32 49 64 (wdA b i), .sl 5 .u8 (some ⟨pm, 0, none⟩) N c M, .ints ph .u32 46 8 H, .ints ps .u64 43 8 SS, .sl 42 .u64 (some ⟨pk, 0, none⟩) 80 ck KK, .ints po .u8 26 32 zs])) (fun v _ => 16 - (intOf v).toNat)
          case atStart => exact ⟨0, by omega, rfl, HK⟩
          case round =>
            obtain ⟨i, hi, rfl, HK'⟩ := hrel
            clear HK
            have HK := HK'
            clear HK'
            by_cases hlt : i < 16
            · as_aux_lemma =>
              have hi0 : (0 : Int) ≤ i := by omega
              have hi16 : (i : Int) < 16 := by omega
              go_wp2_with fail
              refine wp_region_grow [(2, 0), (2, 1), (2, 2), (2, 3), (2, 4), (1, 5), (2, 6), (2, 7), (2, 8), (2, 9), (2, 10), (2, 11), (2, 12), (1, 13), (2, 14), (2, 15), (2, 16), (2, 17), (2, 18), (2, 19), (2, 20), (2, 21), (1, 22), (2, 23), (2, 24), (2, 25), (2, 26), (2, 27), (2, 28), (2, 29), (2, 30), (1, 31), (2, 32), (2, 33), (2, 34), (3, 35)] (by kernel_rfl) (by kernel_rfl) (fun _ _ _ _ _ h => h) (fun _ _ _ _ _ h => h) ?_
              refine gSeq_own HK.out fun wn hkn gn ein => ?_
              have HKN := Lib.hid hkn
              clear hkn HK
              have HK := HKN
              clear HKN
              clear gn ein
              have hr := HK.out.rdsl_from (.next _ (.here _)) (64 * k) R HRE.out HRD.out
              rw [← HB.out] at hr
              have c0 := rd_at hr (4 * i) (by omega)
              have c1 := rd_at hr (4 * i + 1) (by omega)
              have c2 := rd_at hr (4 * i + 2) (by omega)
              have c3 := rd_at hr (4 * i + 3) (by omega)
              have r0 := ok_getD (B := 256) (by decide) HBO.out (4 * i)
              have r1 := ok_getD (B := 256) (by decide) HBO.out (4 * i + 1)
              have r2 := ok_getD (B := 256) (by decide) HBO.out (4 * i + 2)
              have r3 := ok_getD (B := 256) (by decide) HBO.out (4 * i + 3)
              obtain ⟨b0, hb0⟩ : ∃ y, y = b.getD (4 * i) 0 := ⟨_, rfl⟩
              obtain ⟨b1, hb1⟩ : ∃ y, y = b.getD (4 * i + 1) 0 := ⟨_, rfl⟩
              obtain ⟨b2, hb2⟩ : ∃ y, y = b.getD (4 * i + 2) 0 := ⟨_, rfl⟩
              obtain ⟨b3, hb3⟩ : ∃ y, y = b.getD (4 * i + 3) 0 := ⟨_, rfl⟩
              rw [← hb0] at c0 r0
              rw [← hb1] at c1 r1
              rw [← hb2] at c2 r2
              rw [← hb3] at c3 r3
              have HX := Lib.hid (show wdA b (i + 1) = (wdA b i).set i (word32 b0 b1 b2 b3) by rw [wdA, hb0, hb1, hb2, hb3])
              clear hr hb0 hb1 hb2 hb3
              simp only [Addr.add_mid] at c0 c1 c2 c3
              have h0 : 0 ≤ 4 * (i : Int) := by omega
              have h1 : 4 * (i : Int) + 3 < R := by omega
              have h2 : 0 ≤ 4 * (i : Int) + 1 := by omega
              have h3 : 0 ≤ 4 * (i : Int) + 2 := by omega
              have h4 : 0 ≤ 4 * (i : Int) + 3 := by omega
              have h5 : 4 * (i : Int) < R := by omega
              have h6 : 4 * (i : Int) + 1 < R := by omega
              have h7 : 4 * (i : Int) + 2 < R := by omega
              have t0 : (4 * (i : Int)).toNat = 4 * i := by omega
              have t1 : (4 * (i : Int) + 1).toNat = 4 * i + 1 := by omega
              have t2 : (4 * (i : Int) + 2).toNat = 4 * i + 2 := by omega
              have t3 : (4 * (i : Int) + 3).toNat = 4 * i + 3 := by omega
              have z0 : IntKind.i64.wrap (4 * (i : Int)) = 4 * (i : Int) := IntWalk.i64_in _ (by omega)
              have z1 : IntKind.i64.wrap (4 * (i : Int) + 1) = 4 * (i : Int) + 1 := IntWalk.i64_in _ (by omega)
              have z2 : IntKind.i64.wrap (4 * (i : Int) + 2) = 4 * (i : Int) + 2 := IntWalk.i64_in _ (by omega)
              have z3 : IntKind.i64.wrap (4 * (i : Int) + 3) = 4 * (i : Int) + 3 := IntWalk.i64_in _ (by omega)
              have h8 : 0 ≤ (i : Int) := by omega
              have h9 : (i : Int) < 64 := by omega
              have y0 : IntKind.u32.wrap b0 = b0 := IntWalk.u32_in _ (by omega)
              have y1 : IntKind.u32.wrap b1 = b1 := IntWalk.u32_in _ (by omega)
              have y2 : IntKind.u32.wrap b2 = b2 := IntWalk.u32_in _ (by omega)
              have y3 : IntKind.u32.wrap b3 = b3 := IntWalk.u32_in _ (by omega)
              have y4 : IntKind.u32.wrap (b0 * 16777216) = b0 * 16777216 := IntWalk.u32_in _ (by omega)
              have y5 : IntKind.u32.wrap (b1 * 65536) = b1 * 65536 := IntWalk.u32_in _ (by omega)
              have y6 : IntKind.u32.wrap (b2 * 256) = b2 * 256 := IntWalk.u32_in _ (by omega)
              (repeat (first | (refine gSeq_skip rfl (by rfl) ?_; (try simp only [Act.put, Act.eval, List.setIfInBounds_toArray, List.set_cons_zero, List.set_cons_succ, Array.getD_eq_getD_getElem?, List.getElem?_toArray, List.getElem?_cons_succ, List.getElem?_cons_zero, Option.getD_some])) | (refine gSeq_move _ rfl rfl (by rfl) ?_; (try simp only [Act.put, Act.eval, List.setIfInBounds_toArray, List.set_cons_zero, List.set_cons_succ, Array.getD_eq_getD_getElem?, List.getElem?_toArray, List.getElem?_cons_succ, List.getElem?_cons_zero, Option.getD_some])) | (refine gSeq_assign _ rfl rfl (by rfl) ?_; (try simp only [Act.put, Act.eval, List.setIfInBounds_toArray, List.set_cons_zero, List.set_cons_succ, Array.getD_eq_getD_getElem?, List.getElem?_toArray, List.getElem?_cons_succ, List.getElem?_cons_zero, Option.getD_some])) | ((refine gSeq_put_int rfl (by rfl) HK.out _ _ _ rfl _ _ _ _ rfl rfl _ _ _ (by first | exact Upd.here _ | exact Upd.next _ (Upd.here _) | exact Upd.next _ (Upd.next _ (Upd.here _)) | exact Upd.next _ (Upd.next _ (Upd.next _ (Upd.here _))) | exact Upd.next _ (Upd.next _ (Upd.next _ (Upd.next _ (Upd.here _)))) | exact Upd.next _ (Upd.next _ (Upd.next _ (Upd.next _ (Upd.next _ (Upd.here _))))) | exact Upd.next _ (Upd.next _ (Upd.next _ (Upd.next _ (Upd.next _ (Upd.next _ (Upd.here _)))))) | exact Upd.next _ (Upd.next _ (Upd.next _ (Upd.next _ (Upd.next _ (Upd.next _ (Upd.next _ (Upd.here _))))))) | exact Upd.next _ (Upd.next _ (Upd.next _ (Upd.next _ (Upd.next _ (Upd.next _ (Upd.next _ (Upd.next _ (Upd.here _)))))))) | exact Upd.next _ (Upd.next _ (Upd.next _ (Upd.next _ (Upd.next _ (Upd.next _ (Upd.next _ (Upd.next _ (Upd.next _ (Upd.here _)))))))))) (by omega) (by kernel_rfl) ?_; (intro wn hkn; have HKN := Lib.hid hkn; clear hkn; clear HK; have HK := HKN; clear HKN); (try simp only [Act.put, Act.eval, List.setIfInBounds_toArray, List.set_cons_zero, List.set_cons_succ, Array.getD_eq_getD_getElem?, List.getElem?_toArray, List.getElem?_cons_succ, List.getElem?_cons_zero, Option.getD_some]))) | (refine gSeq_pure rfl (by rfl) ?_ ?_ ?_; (rotate_left; (intro w'; (try (have d0 := hG.cell c0 (by simp); have d1 := hG.cell c1 (by simp); have d2 := hG.cell c2 (by simp); have d3 := hG.cell c3 (by simp))); go_simp; (first | done | with_reducible rfl)); (try simp only [Act.put, Act.eval, List.setIfInBounds_toArray, List.set_cons_zero, List.set_cons_succ, Array.getD_eq_getD_getElem?, List.getElem?_toArray, List.getElem?_cons_succ, List.getElem?_cons_zero, Option.getD_some]))) | (refine gSeq_still rfl (by rfl) ?_ ?_ ?_; (rotate_left; (intro w' hG; (try (have d0 := hG.cell c0 (by simp); have d1 := hG.cell c1 (by simp); have d2 := hG.cell c2 (by simp); have d3 := hG.cell c3 (by simp))); go_simp; (first | done | with_reducible rfl)); (try simp only [Act.put, Act.eval, List.setIfInBounds_toArray, List.set_cons_zero, List.set_cons_succ, Array.getD_eq_getD_getElem?, List.getElem?_toArray, List.getElem?_cons_succ, List.getElem?_cons_zero, Option.getD_some])))))
              refine gSeq_nil ?_
              have HK' : Hid (Own w wn [.ints pw .u32 49 64 (wdA b (i + 1)), .sl 5 .u8 (some ⟨pm, 0, none⟩) N c M, .ints ph .u32 46 8 H, .ints ps .u64 43 8 SS, .sl 42 .u64 (some ⟨pk, 0, none⟩) 80 ck KK, .ints po .u8 26 32 zs]) := by rw [HX.out]; exact HK
              clear HK
              have HK := HK'
              clear HK' t0 t1 t2 t3 z0 z1 z2 z3 y0 y1 y2 y3 y4 y5 y6 c0 c1 c2 c3
              go_wp2_with fail
              exact ⟨⟨i + 1, by omega, by go_num, HK⟩, by simp [intOf]; omega⟩
            · have hi2 : i = 16 := by omega
              subst hi2
              rw [show ((16 : Nat) : Int) = 16 from rfl]
              clear hlt hi
              go_wp2_with fail
              go_loopw [10] (fun v wr => ∃ i : Nat, i ≤ 48 ∧ v = .int .i64 (16 + (i : Int)) ∧ Hid (Own w wr [.ints pw .u32 49 64 (wdB (wdA b 16) i), .sl 5 .u8 (some ⟨pm, 0, none⟩) N c M, .ints ph .u32 46 8 H, .ints ps .u64 43 8 SS, .sl 42 .u64 (some ⟨pk, 0, none⟩) 80 ck KK, .ints po .u8 26 32 zs])) (fun v _ => 64 - (intOf v).toNat)
              case atStart => exact ⟨0, by omega, rfl, HK⟩
              case round =>
                obtain ⟨i, hi, rfl, HK'⟩ := hrel
                clear HK
                have HK := HK'
                clear HK'
                by_cases hlt : i < 48
                · as_aux_lemma =>
                  obtain ⟨l, hl0⟩ : ∃ l, l = wdB (wdA b 16) i := ⟨_, rfl⟩
                  have HO := Lib.hid (show okB 4294967296 l by rw [hl0]; exact ok_wdB (ok_wdA b 16) i)
                  have HX := Lib.hid (show wdB (wdA b 16) (i + 1) = l.set (16 + i) (wdN l i) by rw [wdB, hl0])
                  rw [← hl0] at HK
                  clear hl0
                  have h0 : (16 : Int) + i < 64 := by omega
                  have h1 : (0 : Int) ≤ 16 + i := by omega
                  have hk0 : (0 : Int) ≤ i := by omega
                  go_wp2_with fail
                  refine wp_region_grow [(2, 0), (2, 1), (2, 2), (1, 3), (2, 4), (2, 5), (2, 6), (1, 7), (2, 8), (2, 9)] (by kernel_rfl) (by kernel_rfl) (fun _ _ _ _ _ h => h) (fun _ _ _ _ _ h => h) ?_
                  refine gSeq_own HK.out fun wn hkn gn ein => ?_
                  have HKN := Lib.hid hkn
                  clear hkn HK
                  have HK := HKN
                  clear HKN
                  clear gn ein
                  have z0 : IntKind.i64.wrap (16 + (i : Int) - 15) = (i : Int) + 1 := by rw [IntWalk.i64_in _ (by omega)]; omega
                  have z1 : IntKind.i64.wrap (16 + (i : Int) - 2) = (i : Int) + 14 := by rw [IntWalk.i64_in _ (by omega)]; omega
                  have z2 : IntKind.i64.wrap (16 + (i : Int) - 16) = (i : Int) := by rw [IntWalk.i64_in _ (by omega)]; omega
                  have z3 : IntKind.i64.wrap (16 + (i : Int) - 7) = (i : Int) + 9 := by rw [IntWalk.i64_in _ (by omega)]; omega
                  have t0 : ((i : Int) + 1).toNat = i + 1 := by omega
                  have t1 : ((i : Int) + 14).toNat = i + 14 := by omega
                  have t2 : ((i : Int) + 9).toNat = i + 9 := by omega
                  have t3 : (16 + (i : Int)).toNat = 16 + i := by omega
                  have h2 : (i : Int) + 1 < 64 := by omega
                  have h3 : (i : Int) + 14 < 64 := by omega
                  have h4 : (i : Int) + 9 < 64 := by omega
                  have h5 : (i : Int) < 64 := by omega
                  have h6 : (0 : Int) ≤ (i : Int) + 1 := by omega
                  have h7 : (0 : Int) ≤ (i : Int) + 14 := by omega
                  have h8 : (0 : Int) ≤ (i : Int) + 9 := by omega
                  (repeat (first | (refine gSeq_get_int rfl (by rfl) HK.out _ _ rfl _ _ rfl _ _ _ _ (by first | exact Has.here _ | exact Has.next _ (Has.here _) | exact Has.next _ (Has.next _ (Has.here _)) | exact Has.next _ (Has.next _ (Has.next _ (Has.here _))) | exact Has.next _ (Has.next _ (Has.next _ (Has.next _ (Has.here _)))) | exact Has.next _ (Has.next _ (Has.next _ (Has.next _ (Has.next _ (Has.here _))))) | exact Has.next _ (Has.next _ (Has.next _ (Has.next _ (Has.next _ (Has.next _ (Has.here _)))))) | exact Has.next _ (Has.next _ (Has.next _ (Has.next _ (Has.next _ (Has.next _ (Has.next _ (Has.here _))))))) | exact Has.next _ (Has.next _ (Has.next _ (Has.next _ (Has.next _ (Has.next _ (Has.next _ (Has.next _ (Has.here _)))))))) | exact Has.next _ (Has.next _ (Has.next _ (Has.next _ (Has.next _ (Has.next _ (Has.next _ (Has.next _ (Has.next _ (Has.here _)))))))))) rfl (by omega) ?_; (try simp only [Act.put, Act.eval, List.setIfInBounds_toArray, List.set_cons_zero, List.set_cons_succ, Array.getD_eq_getD_getElem?, List.getElem?_toArray, List.getElem?_cons_succ, List.getElem?_cons_zero, Option.getD_some])) | (refine gSeq_skip rfl (by rfl) ?_; (try simp only [Act.put, Act.eval, List.setIfInBounds_toArray, List.set_cons_zero, List.set_cons_succ, Array.getD_eq_getD_getElem?, List.getElem?_toArray, List.getElem?_cons_succ, List.getElem?_cons_zero, Option.getD_some])) | (refine gSeq_move _ rfl rfl (by rfl) ?_; (try simp only [Act.put, Act.eval, List.setIfInBounds_toArray, List.set_cons_zero, List.set_cons_succ, Array.getD_eq_getD_getElem?, List.getElem?_toArray, List.getElem?_cons_succ, List.getElem?_cons_zero, Option.getD_some])) | (refine gSeq_assign _ rfl rfl (by rfl) ?_; (try simp only [Act.put, Act.eval, List.setIfInBounds_toArray, List.set_cons_zero, List.set_cons_succ, Array.getD_eq_getD_getElem?, List.getElem?_toArray, List.getElem?_cons_succ, List.getElem?_cons_zero, Option.getD_some])) | (refine gSeq_pure rfl (by rfl) ?_ ?_ ?_; (rotate_left; (intro w'; (skip); go_simp; (first | done | with_reducible rfl)); (try simp only [Act.put, Act.eval, List.setIfInBounds_toArray, List.set_cons_zero, List.set_cons_succ, Array.getD_eq_getD_getElem?, List.getElem?_toArray, List.getElem?_cons_succ, List.getElem?_cons_zero, Option.getD_some]))) | (fail) | (refine gSeq_still rfl (by rfl) ?_ ?_ ?_; (rotate_left; (intro w' hG; (skip); go_simp; (first | done | with_reducible rfl)); (try simp only [Act.put, Act.eval, List.setIfInBounds_toArray, List.set_cons_zero, List.set_cons_succ, Array.getD_eq_getD_getElem?, List.getElem?_toArray, List.getElem?_cons_succ, List.getElem?_cons_zero, Option.getD_some])))))
                  refine gSeq_nil ?_
                  clear z0 z1 z2 z3 t0 t1 t2 t3
                  have e1 := ok_getD (by decide) HO.out (i + 1)
                  have e2 := ok_getD (by decide) HO.out (i + 14)
                  obtain ⟨x1, hx1⟩ : ∃ y, y = l.getD (i + 1) 0 := ⟨_, rfl⟩
                  obtain ⟨x14, hx14⟩ : ∃ y, y = l.getD (i + 14) 0 := ⟨_, rfl⟩
                  rw [← hx1] at e1 ⊢
                  rw [← hx14] at e2 ⊢
                  have HX1 := Lib.hid hx1
                  have HX14 := Lib.hid hx14
                  obtain ⟨e3, e4⟩ := e1
                  obtain ⟨e5, e6⟩ := e2
                  clear hx1 hx14
                  go_wp2_with fail
                  refine wp_region_grow [(2, 0), (2, 1), (2, 2), (2, 3), (1, 4), (2, 5), (2, 7), (2, 10), (2, 11), (2, 14), (2, 15), (2, 16), (1, 17), (2, 19), (2, 21), (2, 24), (2, 25), (0, 6), (0, 8), (2, 9), (2, 12), (2, 13), (2, 18), (0, 20), (0, 22), (2, 23), (2, 26), (2, 27), (2, 28), (3, 29)] (by kernel_rfl) (by kernel_rfl) (fun _ _ _ _ _ h => h) (fun _ _ _ _ _ h => h) ?_
                  refine gSeq_own HK.out fun wn hkn gn ein => ?_
                  have HKN := Lib.hid hkn
                  clear hkn HK
                  have HK := HKN
                  clear HKN
                  clear gn ein
                  have z2 : IntKind.i64.wrap (16 + (i : Int) - 16) = (i : Int) := by rw [IntWalk.i64_in _ (by omega)]; omega
                  have z3 : IntKind.i64.wrap (16 + (i : Int) - 7) = (i : Int) + 9 := by rw [IntWalk.i64_in _ (by omega)]; omega
                  have t2 : ((i : Int) + 9).toNat = i + 9 := by omega
                  have t3 : (16 + (i : Int)).toNat = 16 + i := by omega
                  (repeat (first | (refine gSeq_get_int rfl (by rfl) HK.out _ _ rfl _ _ rfl _ _ _ _ (by first | exact Has.here _ | exact Has.next _ (Has.here _) | exact Has.next _ (Has.next _ (Has.here _)) | exact Has.next _ (Has.next _ (Has.next _ (Has.here _))) | exact Has.next _ (Has.next _ (Has.next _ (Has.next _ (Has.here _)))) | exact Has.next _ (Has.next _ (Has.next _ (Has.next _ (Has.next _ (Has.here _))))) | exact Has.next _ (Has.next _ (Has.next _ (Has.next _ (Has.next _ (Has.next _ (Has.here _)))))) | exact Has.next _ (Has.next _ (Has.next _ (Has.next _ (Has.next _ (Has.next _ (Has.next _ (Has.here _))))))) | exact Has.next _ (Has.next _ (Has.next _ (Has.next _ (Has.next _ (Has.next _ (Has.next _ (Has.next _ (Has.here _)))))))) | exact Has.next _ (Has.next _ (Has.next _ (Has.next _ (Has.next _ (Has.next _ (Has.next _ (Has.next _ (Has.next _ (Has.here _)))))))))) rfl (by omega) ?_; (try simp only [Act.put, Act.eval, List.setIfInBounds_toArray, List.set_cons_zero, List.set_cons_succ, Array.getD_eq_getD_getElem?, List.getElem?_toArray, List.getElem?_cons_succ, List.getElem?_cons_zero, Option.getD_some])) | (refine gSeq_skip rfl (by rfl) ?_; (try simp only [Act.put, Act.eval, List.setIfInBounds_toArray, List.set_cons_zero, List.set_cons_succ, Array.getD_eq_getD_getElem?, List.getElem?_toArray, List.getElem?_cons_succ, List.getElem?_cons_zero, Option.getD_some])) | (refine gSeq_move _ rfl rfl (by rfl) ?_; (try simp only [Act.put, Act.eval, List.setIfInBounds_toArray, List.set_cons_zero, List.set_cons_succ, Array.getD_eq_getD_getElem?, List.getElem?_toArray, List.getElem?_cons_succ, List.getElem?_cons_zero, Option.getD_some])) | (refine gSeq_assign _ rfl rfl (by rfl) ?_; (try simp only [Act.put, Act.eval, List.setIfInBounds_toArray, List.set_cons_zero, List.set_cons_succ, Array.getD_eq_getD_getElem?, List.getElem?_toArray, List.getElem?_cons_succ, List.getElem?_cons_zero, Option.getD_some])) | (refine gSeq_pure rfl (by rfl) ?_ ?_ ?_; (rotate_left; (intro w'; (skip); go_simp; (first | done | with_reducible rfl)); (try simp only [Act.put, Act.eval, List.setIfInBounds_toArray, List.set_cons_zero, List.set_cons_succ, Array.getD_eq_getD_getElem?, List.getElem?_toArray, List.getElem?_cons_succ, List.getElem?_cons_zero, Option.getD_some]))) | (fail) | (refine gSeq_still rfl (by rfl) ?_ ?_ ?_; (rotate_left; (intro w' hG; (skip); go_simp; (first | done | with_reducible rfl)); (try simp only [Act.put, Act.eval, List.setIfInBounds_toArray, List.set_cons_zero, List.set_cons_succ, Array.getD_eq_getD_getElem?, List.getElem?_toArray, List.getElem?_cons_succ, List.getElem?_cons_zero, Option.getD_some])))))
                  (refine gSeq_do rfl (by rfl) (fun K hK => ?_)); go_simp
                  refine (rot32_7 _ e3 e4 _).mono ?_
                  rintro e wn ⟨rfl, hd⟩
                  refine hK _ _ (grown_drawn hd) ?_
                  have HKN := Lib.hid (HK.out.grow (grown_drawn hd))
                  clear hK K hd HK
                  have HK := HKN
                  clear HKN
                  (try simp only [Act.put, Act.eval, List.setIfInBounds_toArray, List.set_cons_zero, List.set_cons_succ, Array.getD_eq_getD_getElem?, List.getElem?_toArray, List.getElem?_cons_succ, List.getElem?_cons_zero, Option.getD_some])
                  (repeat (first | (refine gSeq_get_int rfl (by rfl) HK.out _ _ rfl _ _ rfl _ _ _ _ (by first | exact Has.here _ | exact Has.next _ (Has.here _) | exact Has.next _ (Has.next _ (Has.here _)) | exact Has.next _ (Has.next _ (Has.next _ (Has.here _))) | exact Has.next _ (Has.next _ (Has.next _ (Has.next _ (Has.here _)))) | exact Has.next _ (Has.next _ (Has.next _ (Has.next _ (Has.next _ (Has.here _))))) | exact Has.next _ (Has.next _ (Has.next _ (Has.next _ (Has.next _ (Has.next _ (Has.here _)))))) | exact Has.next _ (Has.next _ (Has.next _ (Has.next _ (Has.next _ (Has.next _ (Has.next _ (Has.here _))))))) | exact Has.next _ (Has.next _ (Has.next _ (Has.next _ (Has.next _ (Has.next _ (Has.next _ (Has.next _ (Has.here _)))))))) | exact Has.next _ (Has.next _ (Has.next _ (Has.next _ (Has.next _ (Has.next _ (Has.next _ (Has.next _ (Has.next _ (Has.here _)))))))))) rfl (by omega) ?_; (try simp only [Act.put, Act.eval, List.setIfInBounds_toArray, List.set_cons_zero, List.set_cons_succ, Array.getD_eq_getD_getElem?, List.getElem?_toArray, List.getElem?_cons_succ, List.getElem?_cons_zero, Option.getD_some])) | (refine gSeq_skip rfl (by rfl) ?_; (try simp only [Act.put, Act.eval, List.setIfInBounds_toArray, List.set_cons_zero, List.set_cons_succ, Array.getD_eq_getD_getElem?, List.getElem?_toArray, List.getElem?_cons_succ, List.getElem?_cons_zero, Option.getD_some])) | (refine gSeq_move _ rfl rfl (by rfl) ?_; (try simp only [Act.put, Act.eval, List.setIfInBounds_toArray, List.set_cons_zero, List.set_cons_succ, Array.getD_eq_getD_getElem?, List.getElem?_toArray, List.getElem?_cons_succ, List.getElem?_cons_zero, Option.getD_some])) | (refine gSeq_assign _ rfl rfl (by rfl) ?_; (try simp only [Act.put, Act.eval, List.setIfInBounds_toArray, List.set_cons_zero, List.set_cons_succ, Array.getD_eq_getD_getElem?, List.getElem?_toArray, List.getElem?_cons_succ, List.getElem?_cons_zero, Option.getD_some])) | (refine gSeq_pure rfl (by rfl) ?_ ?_ ?_; (rotate_left; (intro w'; (skip); go_simp; (first | done | with_reducible rfl)); (try simp only [Act.put, Act.eval, List.setIfInBounds_toArray, List.set_cons_zero, List.set_cons_succ, Array.getD_eq_getD_getElem?, List.getElem?_toArray, List.getElem?_cons_succ, List.getElem?_cons_zero, Option.getD_some]))) | (fail) | (refine gSeq_still rfl (by rfl) ?_ ?_ ?_; (rotate_left; (intro w' hG; (skip); go_simp; (first | done | with_reducible rfl)); (try simp only [Act.put, Act.eval, List.setIfInBounds_toArray, List.set_cons_zero, List.set_cons_succ, Array.getD_eq_getD_getElem?, List.getElem?_toArray, List.getElem?_cons_succ, List.getElem?_cons_zero, Option.getD_some])))))
                  (refine gSeq_do rfl (by rfl) (fun K hK => ?_)); go_simp
                  refine (rot32_18 _ e3 e4 _).mono ?_
                  rintro e wn ⟨rfl, hd⟩
                  refine hK _ _ (grown_drawn hd) ?_
                  have HKN := Lib.hid (HK.out.grow (grown_drawn hd))
                  clear hK K hd HK
                  have HK := HKN
                  clear HKN
                  (try simp only [Act.put, Act.eval, List.setIfInBounds_toArray, List.set_cons_zero, List.set_cons_succ, Array.getD_eq_getD_getElem?, List.getElem?_toArray, List.getElem?_cons_succ, List.getElem?_cons_zero, Option.getD_some])
                  (repeat (first | (refine gSeq_get_int rfl (by rfl) HK.out _ _ rfl _ _ rfl _ _ _ _ (by first | exact Has.here _ | exact Has.next _ (Has.here _) | exact Has.next _ (Has.next _ (Has.here _)) | exact Has.next _ (Has.next _ (Has.next _ (Has.here _))) | exact Has.next _ (Has.next _ (Has.next _ (Has.next _ (Has.here _)))) | exact Has.next _ (Has.next _ (Has.next _ (Has.next _ (Has.next _ (Has.here _))))) | exact Has.next _ (Has.next _ (Has.next _ (Has.next _ (Has.next _ (Has.next _ (Has.here _)))))) | exact Has.next _ (Has.next _ (Has.next _ (Has.next _ (Has.next _ (Has.next _ (Has.next _ (Has.here _))))))) | exact Has.next _ (Has.next _ (Has.next _ (Has.next _ (Has.next _ (Has.next _ (Has.next _ (Has.next _ (Has.here _)))))))) | exact Has.next _ (Has.next _ (Has.next _ (Has.next _ (Has.next _ (Has.next _ (Has.next _ (Has.next _ (Has.next _ (Has.here _)))))))))) rfl (by omega) ?_; (try simp only [Act.put, Act.eval, List.setIfInBounds_toArray, List.set_cons_zero, List.set_cons_succ, Array.getD_eq_getD_getElem?, List.getElem?_toArray, List.getElem?_cons_succ, List.getElem?_cons_zero, Option.getD_some])) | (refine gSeq_skip rfl (by rfl) ?_; (try simp only [Act.put, Act.eval, List.setIfInBounds_toArray, List.set_cons_zero, List.set_cons_succ, Array.getD_eq_getD_getElem?, List.getElem?_toArray, List.getElem?_cons_succ, List.getElem?_cons_zero, Option.getD_some])) | (refine gSeq_move _ rfl rfl (by rfl) ?_; (try simp only [Act.put, Act.eval, List.setIfInBounds_toArray, List.set_cons_zero, List.set_cons_succ, Array.getD_eq_getD_getElem?, List.getElem?_toArray, List.getElem?_cons_succ, List.getElem?_cons_zero, Option.getD_some])) | (refine gSeq_assign _ rfl rfl (by rfl) ?_; (try simp only [Act.put, Act.eval, List.setIfInBounds_toArray, List.set_cons_zero, List.set_cons_succ, Array.getD_eq_getD_getElem?, List.getElem?_toArray, List.getElem?_cons_succ, List.getElem?_cons_zero, Option.getD_some])) | (refine gSeq_pure rfl (by rfl) ?_ ?_ ?_; (rotate_left; (intro w'; (skip); go_simp; (first | done | with_reducible rfl)); (try simp only [Act.put, Act.eval, List.setIfInBounds_toArray, List.set_cons_zero, List.set_cons_succ, Array.getD_eq_getD_getElem?, List.getElem?_toArray, List.getElem?_cons_succ, List.getElem?_cons_zero, Option.getD_some]))) | (fail) | (refine gSeq_still rfl (by rfl) ?_ ?_ ?_; (rotate_left; (intro w' hG; (skip); go_simp; (first | done | with_reducible rfl)); (try simp only [Act.put, Act.eval, List.setIfInBounds_toArray, List.set_cons_zero, List.set_cons_succ, Array.getD_eq_getD_getElem?, List.getElem?_toArray, List.getElem?_cons_succ, List.getElem?_cons_zero, Option.getD_some])))))
                  (refine gSeq_do rfl (by rfl) (fun K hK => ?_)); go_simp
                  refine (rot32_17 _ e5 e6 _).mono ?_
                  rintro e wn ⟨rfl, hd⟩
                  refine hK _ _ (grown_drawn hd) ?_
                  have HKN := Lib.hid (HK.out.grow (grown_drawn hd))
                  clear hK K hd HK
                  have HK := HKN
                  clear HKN
                  (try simp only [Act.put, Act.eval, List.setIfInBounds_toArray, List.set_cons_zero, List.set_cons_succ, Array.getD_eq_getD_getElem?, List.getElem?_toArray, List.getElem?_cons_succ, List.getElem?_cons_zero, Option.getD_some])
                  (repeat (first | (refine gSeq_get_int rfl (by rfl) HK.out _ _ rfl _ _ rfl _ _ _ _ (by first | exact Has.here _ | exact Has.next _ (Has.here _) | exact Has.next _ (Has.next _ (Has.here _)) | exact Has.next _ (Has.next _ (Has.next _ (Has.here _))) | exact Has.next _ (Has.next _ (Has.next _ (Has.next _ (Has.here _)))) | exact Has.next _ (Has.next _ (Has.next _ (Has.next _ (Has.next _ (Has.here _))))) | exact Has.next _ (Has.next _ (Has.next _ (Has.next _ (Has.next _ (Has.next _ (Has.here _)))))) | exact Has.next _ (Has.next _ (Has.next _ (Has.next _ (Has.next _ (Has.next _ (Has.next _ (Has.here _))))))) | exact Has.next _ (Has.next _ (Has.next _ (Has.next _ (Has.next _ (Has.next _ (Has.next _ (Has.next _ (Has.here _)))))))) | exact Has.next _ (Has.next _ (Has.next _ (Has.next _ (Has.next _ (Has.next _ (Has.next _ (Has.next _ (Has.next _ (Has.here _)))))))))) rfl (by omega) ?_; (try simp only [Act.put, Act.eval, List.setIfInBounds_toArray, List.set_cons_zero, List.set_cons_succ, Array.getD_eq_getD_getElem?, List.getElem?_toArray, List.getElem?_cons_succ, List.getElem?_cons_zero, Option.getD_some])) | (refine gSeq_skip rfl (by rfl) ?_; (try simp only [Act.put, Act.eval, List.setIfInBounds_toArray, List.set_cons_zero, List.set_cons_succ, Array.getD_eq_getD_getElem?, List.getElem?_toArray, List.getElem?_cons_succ, List.getElem?_cons_zero, Option.getD_some])) | (refine gSeq_move _ rfl rfl (by rfl) ?_; (try simp only [Act.put, Act.eval, List.setIfInBounds_toArray, List.set_cons_zero, List.set_cons_succ, Array.getD_eq_getD_getElem?, List.getElem?_toArray, List.getElem?_cons_succ, List.getElem?_cons_zero, Option.getD_some])) | (refine gSeq_assign _ rfl rfl (by rfl) ?_; (try simp only [Act.put, Act.eval, List.setIfInBounds_toArray, List.set_cons_zero, List.set_cons_succ, Array.getD_eq_getD_getElem?, List.getElem?_toArray, List.getElem?_cons_succ, List.getElem?_cons_zero, Option.getD_some])) | (refine gSeq_pure rfl (by rfl) ?_ ?_ ?_; (rotate_left; (intro w'; (skip); go_simp; (first | done | with_reducible rfl)); (try simp only [Act.put, Act.eval, List.setIfInBounds_toArray, List.set_cons_zero, List.set_cons_succ, Array.getD_eq_getD_getElem?, List.getElem?_toArray, List.getElem?_cons_succ, List.getElem?_cons_zero, Option.getD_some]))) | (fail) | (refine gSeq_still rfl (by rfl) ?_ ?_ ?_; (rotate_left; (intro w' hG; (skip); go_simp; (first | done | with_reducible rfl)); (try simp only [Act.put, Act.eval, List.setIfInBounds_toArray, List.set_cons_zero, List.set_cons_succ, Array.getD_eq_getD_getElem?, List.getElem?_toArray, List.getElem?_cons_succ, List.getElem?_cons_zero, Option.getD_some])))))
                  (refine gSeq_do rfl (by rfl) (fun K hK => ?_)); go_simp
                  refine (rot32_19 _ e5 e6 _).mono ?_
                  rintro e wn ⟨rfl, hd⟩
                  refine hK _ _ (grown_drawn hd) ?_
                  have HKN := Lib.hid (HK.out.grow (grown_drawn hd))
                  clear hK K hd HK
                  have HK := HKN
                  clear HKN
                  (try simp only [Act.put, Act.eval, List.setIfInBounds_toArray, List.set_cons_zero, List.set_cons_succ, Array.getD_eq_getD_getElem?, List.getElem?_toArray, List.getElem?_cons_succ, List.getElem?_cons_zero, Option.getD_some])
                  (repeat (first | (refine gSeq_get_int rfl (by rfl) HK.out _ _ rfl _ _ rfl _ _ _ _ (by first | exact Has.here _ | exact Has.next _ (Has.here _) | exact Has.next _ (Has.next _ (Has.here _)) | exact Has.next _ (Has.next _ (Has.next _ (Has.here _))) | exact Has.next _ (Has.next _ (Has.next _ (Has.next _ (Has.here _)))) | exact Has.next _ (Has.next _ (Has.next _ (Has.next _ (Has.next _ (Has.here _))))) | exact Has.next _ (Has.next _ (Has.next _ (Has.next _ (Has.next _ (Has.next _ (Has.here _)))))) | exact Has.next _ (Has.next _ (Has.next _ (Has.next _ (Has.next _ (Has.next _ (Has.next _ (Has.here _))))))) | exact Has.next _ (Has.next _ (Has.next _ (Has.next _ (Has.next _ (Has.next _ (Has.next _ (Has.next _ (Has.here _)))))))) | exact Has.next _ (Has.next _ (Has.next _ (Has.next _ (Has.next _ (Has.next _ (Has.next _ (Has.next _ (Has.next _ (Has.here _)))))))))) rfl (by omega) ?_; (try simp only [Act.put, Act.eval, List.setIfInBounds_toArray, List.set_cons_zero, List.set_cons_succ, Array.getD_eq_getD_getElem?, List.getElem?_toArray, List.getElem?_cons_succ, List.getElem?_cons_zero, Option.getD_some])) | (refine gSeq_skip rfl (by rfl) ?_; (try simp only [Act.put, Act.eval, List.setIfInBounds_toArray, List.set_cons_zero, List.set_cons_succ, Array.getD_eq_getD_getElem?, List.getElem?_toArray, List.getElem?_cons_succ, List.getElem?_cons_zero, Option.getD_some])) | (refine gSeq_move _ rfl rfl (by rfl) ?_; (try simp only [Act.put, Act.eval, List.setIfInBounds_toArray, List.set_cons_zero, List.set_cons_succ, Array.getD_eq_getD_getElem?, List.getElem?_toArray, List.getElem?_cons_succ, List.getElem?_cons_zero, Option.getD_some])) | (refine gSeq_assign _ rfl rfl (by rfl) ?_; (try simp only [Act.put, Act.eval, List.setIfInBounds_toArray, List.set_cons_zero, List.set_cons_succ, Array.getD_eq_getD_getElem?, List.getElem?_toArray, List.getElem?_cons_succ, List.getElem?_cons_zero, Option.getD_some])) | (refine gSeq_pure rfl (by rfl) ?_ ?_ ?_; (rotate_left; (intro w'; (skip); go_simp; (first | done | with_reducible rfl)); (try simp only [Act.put, Act.eval, List.setIfInBounds_toArray, List.set_cons_zero, List.set_cons_succ, Array.getD_eq_getD_getElem?, List.getElem?_toArray, List.getElem?_cons_succ, List.getElem?_cons_zero, Option.getD_some]))) | ((refine gSeq_put_int rfl (by rfl) HK.out _ _ _ rfl _ _ _ _ rfl rfl _ _ _ (by first | exact Upd.here _ | exact Upd.next _ (Upd.here _) | exact Upd.next _ (Upd.next _ (Upd.here _)) | exact Upd.next _ (Upd.next _ (Upd.next _ (Upd.here _))) | exact Upd.next _ (Upd.next _ (Upd.next _ (Upd.next _ (Upd.here _)))) | exact Upd.next _ (Upd.next _ (Upd.next _ (Upd.next _ (Upd.next _ (Upd.here _))))) | exact Upd.next _ (Upd.next _ (Upd.next _ (Upd.next _ (Upd.next _ (Upd.next _ (Upd.here _)))))) | exact Upd.next _ (Upd.next _ (Upd.next _ (Upd.next _ (Upd.next _ (Upd.next _ (Upd.next _ (Upd.here _))))))) | exact Upd.next _ (Upd.next _ (Upd.next _ (Upd.next _ (Upd.next _ (Upd.next _ (Upd.next _ (Upd.next _ (Upd.here _)))))))) | exact Upd.next _ (Upd.next _ (Upd.next _ (Upd.next _ (Upd.next _ (Upd.next _ (Upd.next _ (Upd.next _ (Upd.next _ (Upd.here _)))))))))) (by omega) (by kernel_rfl) ?_; (intro wn hkn; have HKN := Lib.hid hkn; clear hkn; clear HK; have HK := HKN; clear HKN); (try simp only [Act.put, Act.eval, List.setIfInBounds_toArray, List.set_cons_zero, List.set_cons_succ, Array.getD_eq_getD_getElem?, List.getElem?_toArray, List.getElem?_cons_succ, List.getElem?_cons_zero, Option.getD_some]))) | (refine gSeq_still rfl (by rfl) ?_ ?_ ?_; (rotate_left; (intro w' hG; (skip); go_simp; (first | done | with_reducible rfl)); (try simp only [Act.put, Act.eval, List.setIfInBounds_toArray, List.set_cons_zero, List.set_cons_succ, Array.getD_eq_getD_getElem?, List.getElem?_toArray, List.getElem?_cons_succ, List.getElem?_cons_zero, Option.getD_some])))))
                  refine gSeq_nil ?_
                  clear z2 z3 t2 t3
                  have HK' : Hid (Own w wn [.ints pw .u32 49 64 (wdB (wdA b 16) (i + 1)), .sl 5 .u8 (some ⟨pm, 0, none⟩) N c M, .ints ph .u32 46 8 H, .ints ps .u64 43 8 SS, .sl 42 .u64 (some ⟨pk, 0, none⟩) 80 ck KK, .ints po .u8 26 32 zs]) := by rw [HX.out, wdN, ← HX1.out, ← HX14.out]; exact HK
                  clear HK
                  have HK := HK'
                  clear HK'
                  go_wp2_with fail
                  exact ⟨⟨i + 1, by omega, by go_num, HK⟩, by simp [intOf]; omega⟩
                · have hi2 : i = 48 := by omega
                  subst hi2
                  clear hlt hi
                  rw [show (16 : Int) + ((48 : Nat) : Int) = 64 from rfl]
                  obtain ⟨ws, hws⟩ : ∃ ws, ws = wdB (wdA b 16) 48 := ⟨_, rfl⟩
                  have HWL := Lib.hid (show ws.length = 64 by rw [hws, length_wdB, length_wdA])
                  have HNX' := Lib.hid (show hs32 M (k + 1) = addH H (rn H ws 64) 8 by rw [HNX.out, hws])
                  rw [← hws] at HK
                  clear hws HNX
                  go_wp2_with (first | (refine wpList_get_row rfl HK.out 46 _ rfl _ rfl _ _ _ _ (by first | exact Has.here _ | exact Has.next _ (Has.here _) | exact Has.next _ (Has.next _ (Has.here _)) | exact Has.next _ (Has.next _ (Has.next _ (Has.here _))) | exact Has.next _ (Has.next _ (Has.next _ (Has.next _ (Has.here _)))) | exact Has.next _ (Has.next _ (Has.next _ (Has.next _ (Has.next _ (Has.here _))))) | exact Has.next _ (Has.next _ (Has.next _ (Has.next _ (Has.next _ (Has.next _ (Has.here _)))))) | exact Has.next _ (Has.next _ (Has.next _ (Has.next _ (Has.next _ (Has.next _ (Has.next _ (Has.here _))))))) | exact Has.next _ (Has.next _ (Has.next _ (Has.next _ (Has.next _ (Has.next _ (Has.next _ (Has.next _ (Has.here _)))))))) | exact Has.next _ (Has.next _ (Has.next _ (Has.next _ (Has.next _ (Has.next _ (Has.next _ (Has.next _ (Has.next _ (Has.here _)))))))))) _ Try.underlying46 rfl (by kernel_rfl) ?_) | (refine wpList_new_ints rfl HK.out _ rfl .u32 46 8 (zer 8) (length_zer _) (fun w => by go_simp; first | exact ⟨rfl, rfl⟩ | kernel_rfl) ?_))
                  intro wn pv hkn
                  have HKN := Lib.hid hkn
                  clear hkn HK
                  have HK := HKN
                  clear HKN
                  go_wp2_with (refine wpList_put_row rfl HK.out 46 _ _ rfl _ _ H rfl rfl _ _ _ (by first | exact Upd.here _ | exact Upd.next _ (Upd.here _) | exact Upd.next _ (Upd.next _ (Upd.here _)) | exact Upd.next _ (Upd.next _ (Upd.next _ (Upd.here _))) | exact Upd.next _ (Upd.next _ (Upd.next _ (Upd.next _ (Upd.here _)))) | exact Upd.next _ (Upd.next _ (Upd.next _ (Upd.next _ (Upd.next _ (Upd.here _))))) | exact Upd.next _ (Upd.next _ (Upd.next _ (Upd.next _ (Upd.next _ (Upd.next _ (Upd.here _)))))) | exact Upd.next _ (Upd.next _ (Upd.next _ (Upd.next _ (Upd.next _ (Upd.next _ (Upd.next _ (Upd.here _))))))) | exact Upd.next _ (Upd.next _ (Upd.next _ (Upd.next _ (Upd.next _ (Upd.next _ (Upd.next _ (Upd.next _ (Upd.here _)))))))) | exact Upd.next _ (Upd.next _ (Upd.next _ (Upd.next _ (Upd.next _ (Upd.next _ (Upd.next _ (Upd.next _ (Upd.next _ (Upd.here _)))))))))) (by exact HH8.out) (by kernel_rfl) ?_; (intro wn hkn; have HKN := Lib.hid hkn; clear hkn; clear HK; have HK := HKN; clear HKN))
                  go_loopw [14] (fun v wr => ∃ (j : Nat), j ≤ 64 ∧ v = .int .i64 j ∧ Hid (Own w wr [.ints pv .u32 46 8 (rn H ws j), .ints pw .u32 49 64 ws, .sl 5 .u8 (some ⟨pm, 0, none⟩) N c M, .ints ph .u32 46 8 H, .ints ps .u64 43 8 SS, .sl 42 .u64 (some ⟨pk, 0, none⟩) 80 ck KK, .ints po .u8 26 32 zs])) (fun v _ => 64 - (intOf v).toNat)
                  case atStart => exact ⟨0, by omega, rfl, HK⟩
                  case round =>
                    obtain ⟨j, hj, rfl, HK'⟩ := hrel
                    clear HK
                    have HK := HK'
                    clear HK'
                    by_cases hlj : j < 64
                    · obtain ⟨v, hv⟩ : ∃ v, v = rn H ws j := ⟨_, rfl⟩
                      rw [← hv] at HK
                      have HV := Lib.hid (show okB 4294967296 v by rw [hv]; exact ok_rn HHO.out ws j)
                      obtain ⟨q, hq⟩ : ∃ q, q = K32.getD j 0 := ⟨_, rfl⟩
                      have HNV := Lib.hid (show rn H ws (j + 1) = step32 v q (ws.getD j 0) by rw [rn, hv, hq])
                      have hkx := ok_getD (by decide) ok_K64 j
                      have hkq := k64_k32 j hlj
                      rw [← HKK.out] at hkx hkq
                      rw [← hq] at hkq
                      have HKW := Lib.hid (show IntKind.u32.wrap (KK[j]?.getD 0 / 4294967296) = q by
                        rw [List.getD_eq_getElem?_getD] at hkx hkq
                        rw [hkq, IntWalk.u32_in _ (by omega)])
                      have hj0 : (0 : Int) ≤ j := by omega
                      have hj64 : (j : Int) < 64 := by omega
                      have hj80 : (j : Int) < 80 := by omega
                      clear hv hq hkx hkq
                      have e4 := ok_getD (by decide) HV.out 4
                      have e0 := ok_getD (by decide) HV.out 0
                      go_wp2_with fail
                      refine wp_region_grow [(2, 0), (1, 1), (2, 2), (1, 3), (2, 4), (2, 5)] (by kernel_rfl) (by kernel_rfl) (fun _ _ _ _ _ h => h) (fun _ _ _ _ _ h => h) ?_
                      refine gSeq_own HK.out fun wn hkn gn ein => ?_
                      have HKN := Lib.hid hkn
                      clear hkn HK
                      have HK := HKN
                      clear HKN
                      clear gn ein
                      (repeat (first | (refine gSeq_get_int rfl (by rfl) HK.out _ _ rfl _ _ rfl _ _ _ _ (by first | exact Has.here _ | exact Has.next _ (Has.here _) | exact Has.next _ (Has.next _ (Has.here _)) | exact Has.next _ (Has.next _ (Has.next _ (Has.here _))) | exact Has.next _ (Has.next _ (Has.next _ (Has.next _ (Has.here _)))) | exact Has.next _ (Has.next _ (Has.next _ (Has.next _ (Has.next _ (Has.here _))))) | exact Has.next _ (Has.next _ (Has.next _ (Has.next _ (Has.next _ (Has.next _ (Has.here _)))))) | exact Has.next _ (Has.next _ (Has.next _ (Has.next _ (Has.next _ (Has.next _ (Has.next _ (Has.here _))))))) | exact Has.next _ (Has.next _ (Has.next _ (Has.next _ (Has.next _ (Has.next _ (Has.next _ (Has.next _ (Has.here _)))))))) | exact Has.next _ (Has.next _ (Has.next _ (Has.next _ (Has.next _ (Has.next _ (Has.next _ (Has.next _ (Has.next _ (Has.here _)))))))))) rfl (by omega) ?_; (try simp only [Act.put, Act.eval, List.setIfInBounds_toArray, List.set_cons_zero, List.set_cons_succ, Array.getD_eq_getD_getElem?, List.getElem?_toArray, List.getElem?_cons_succ, List.getElem?_cons_zero, Option.getD_some])) | (refine gSeq_skip rfl (by rfl) ?_; (try simp only [Act.put, Act.eval, List.setIfInBounds_toArray, List.set_cons_zero, List.set_cons_succ, Array.getD_eq_getD_getElem?, List.getElem?_toArray, List.getElem?_cons_succ, List.getElem?_cons_zero, Option.getD_some])) | (refine gSeq_move _ rfl rfl (by rfl) ?_; (try simp only [Act.put, Act.eval, List.setIfInBounds_toArray, List.set_cons_zero, List.set_cons_succ, Array.getD_eq_getD_getElem?, List.getElem?_toArray, List.getElem?_cons_succ, List.getElem?_cons_zero, Option.getD_some])) | (refine gSeq_assign _ rfl rfl (by rfl) ?_; (try simp only [Act.put, Act.eval, List.setIfInBounds_toArray, List.set_cons_zero, List.set_cons_succ, Array.getD_eq_getD_getElem?, List.getElem?_toArray, List.getElem?_cons_succ, List.getElem?_cons_zero, Option.getD_some])) | (refine gSeq_pure rfl (by rfl) ?_ ?_ ?_; (rotate_left; (intro w'; (skip); go_simp; (first | done | with_reducible rfl)); (try simp only [Act.put, Act.eval, List.setIfInBounds_toArray, List.set_cons_zero, List.set_cons_succ, Array.getD_eq_getD_getElem?, List.getElem?_toArray, List.getElem?_cons_succ, List.getElem?_cons_zero, Option.getD_some]))) | (fail) | (refine gSeq_still rfl (by rfl) ?_ ?_ ?_; (rotate_left; (intro w' hG; (skip); go_simp; (first | done | with_reducible rfl)); (try simp only [Act.put, Act.eval, List.setIfInBounds_toArray, List.set_cons_zero, List.set_cons_succ, Array.getD_eq_getD_getElem?, List.getElem?_toArray, List.getElem?_cons_succ, List.getElem?_cons_zero, Option.getD_some])))))
                      refine gSeq_nil ?_
                      obtain ⟨x4, hx4⟩ : ∃ y, y = v.getD 4 0 := ⟨_, rfl⟩
                      obtain ⟨x0, hx0⟩ : ∃ y, y = v.getD 0 0 := ⟨_, rfl⟩
                      rw [← hx4] at e4 ⊢
                      rw [← hx0] at e0 ⊢
                      have HX4 := Lib.hid hx4
                      have HX0 := Lib.hid hx0
                      clear hx4 hx0
                      obtain ⟨a4, b4⟩ := e4
                      obtain ⟨a0, b0⟩ := e0
                      go_wp2_with fail
                      refine wp_region_grow [(2, 0), (1, 1), (2, 2), (2, 4), (2, 7), (2, 11), (2, 12), (1, 13), (2, 14), (2, 15), (2, 16), (2, 17), (1, 18), (2, 19), (2, 20), (2, 22), (2, 23), (2, 24), (1, 25), (2, 26), (2, 27), (2, 29), (2, 30), (1, 31), (0, 3), (0, 5), (2, 6), (0, 8), (2, 9), (2, 10), (2, 21), (2, 28), (2, 32), (2, 33)] (by kernel_rfl) (by kernel_rfl) (fun _ _ _ _ _ h => h) (fun _ _ _ _ _ h => h) ?_
                      refine gSeq_own HK.out fun wn hkn gn ein => ?_
                      have HKN := Lib.hid hkn
                      clear hkn HK
                      have HK := HKN
                      clear HKN
                      clear gn ein
                      have hkw := HKW.out
                      (repeat (first | (refine gSeq_get_int rfl (by rfl) HK.out _ _ rfl _ _ rfl _ _ _ _ (by first | exact Has.here _ | exact Has.next _ (Has.here _) | exact Has.next _ (Has.next _ (Has.here _)) | exact Has.next _ (Has.next _ (Has.next _ (Has.here _))) | exact Has.next _ (Has.next _ (Has.next _ (Has.next _ (Has.here _)))) | exact Has.next _ (Has.next _ (Has.next _ (Has.next _ (Has.next _ (Has.here _))))) | exact Has.next _ (Has.next _ (Has.next _ (Has.next _ (Has.next _ (Has.next _ (Has.here _)))))) | exact Has.next _ (Has.next _ (Has.next _ (Has.next _ (Has.next _ (Has.next _ (Has.next _ (Has.here _))))))) | exact Has.next _ (Has.next _ (Has.next _ (Has.next _ (Has.next _ (Has.next _ (Has.next _ (Has.next _ (Has.here _)))))))) | exact Has.next _ (Has.next _ (Has.next _ (Has.next _ (Has.next _ (Has.next _ (Has.next _ (Has.next _ (Has.next _ (Has.here _)))))))))) rfl (by omega) ?_; (try simp only [Act.put, Act.eval, List.setIfInBounds_toArray, List.set_cons_zero, List.set_cons_succ, Array.getD_eq_getD_getElem?, List.getElem?_toArray, List.getElem?_cons_succ, List.getElem?_cons_zero, Option.getD_some])) | (refine gSeq_skip rfl (by rfl) ?_; (try simp only [Act.put, Act.eval, List.setIfInBounds_toArray, List.set_cons_zero, List.set_cons_succ, Array.getD_eq_getD_getElem?, List.getElem?_toArray, List.getElem?_cons_succ, List.getElem?_cons_zero, Option.getD_some])) | (refine gSeq_move _ rfl rfl (by rfl) ?_; (try simp only [Act.put, Act.eval, List.setIfInBounds_toArray, List.set_cons_zero, List.set_cons_succ, Array.getD_eq_getD_getElem?, List.getElem?_toArray, List.getElem?_cons_succ, List.getElem?_cons_zero, Option.getD_some])) | (refine gSeq_assign _ rfl rfl (by rfl) ?_; (try simp only [Act.put, Act.eval, List.setIfInBounds_toArray, List.set_cons_zero, List.set_cons_succ, Array.getD_eq_getD_getElem?, List.getElem?_toArray, List.getElem?_cons_succ, List.getElem?_cons_zero, Option.getD_some])) | (refine gSeq_pure rfl (by rfl) ?_ ?_ ?_; (rotate_left; (intro w'; (skip); go_simp; (first | done | with_reducible rfl)); (try simp only [Act.put, Act.eval, List.setIfInBounds_toArray, List.set_cons_zero, List.set_cons_succ, Array.getD_eq_getD_getElem?, List.getElem?_toArray, List.getElem?_cons_succ, List.getElem?_cons_zero, Option.getD_some]))) | ((refine gSeq_get_sl rfl (by rfl) HK.out _ _ rfl _ _ rfl _ _ _ _ _ (by first | exact Has.here _ | exact Has.next _ (Has.here _) | exact Has.next _ (Has.next _ (Has.here _)) | exact Has.next _ (Has.next _ (Has.next _ (Has.here _))) | exact Has.next _ (Has.next _ (Has.next _ (Has.next _ (Has.here _)))) | exact Has.next _ (Has.next _ (Has.next _ (Has.next _ (Has.next _ (Has.here _))))) | exact Has.next _ (Has.next _ (Has.next _ (Has.next _ (Has.next _ (Has.next _ (Has.here _)))))) | exact Has.next _ (Has.next _ (Has.next _ (Has.next _ (Has.next _ (Has.next _ (Has.next _ (Has.here _))))))) | exact Has.next _ (Has.next _ (Has.next _ (Has.next _ (Has.next _ (Has.next _ (Has.next _ (Has.next _ (Has.here _)))))))) | exact Has.next _ (Has.next _ (Has.next _ (Has.next _ (Has.next _ (Has.next _ (Has.next _ (Has.next _ (Has.next _ (Has.here _)))))))))) rfl (by omega) ?_; (try simp only [Act.put, Act.eval, List.setIfInBounds_toArray, List.set_cons_zero, List.set_cons_succ, Array.getD_eq_getD_getElem?, List.getElem?_toArray, List.getElem?_cons_succ, List.getElem?_cons_zero, Option.getD_some]))) | (refine gSeq_still rfl (by rfl) ?_ ?_ ?_; (rotate_left; (intro w' hG; (skip); go_simp; (first | done | with_reducible rfl)); (try simp only [Act.put, Act.eval, List.setIfInBounds_toArray, List.set_cons_zero, List.set_cons_succ, Array.getD_eq_getD_getElem?, List.getElem?_toArray, List.getElem?_cons_succ, List.getElem?_cons_zero, Option.getD_some])))))
                      (refine gSeq_do rfl (by rfl) (fun K hK => ?_)); go_simp
                      refine (rot32_6 _ a4 b4 _).mono ?_
                      rintro e wn ⟨rfl, hd⟩
                      refine hK _ _ (grown_drawn hd) ?_
                      have HKN := Lib.hid (HK.out.grow (grown_drawn hd))
                      clear hK K hd HK
                      have HK := HKN
                      clear HKN
                      (try simp only [Act.put, Act.eval, List.setIfInBounds_toArray, List.set_cons_zero, List.set_cons_succ, Array.getD_eq_getD_getElem?, List.getElem?_toArray, List.getElem?_cons_succ, List.getElem?_cons_zero, Option.getD_some])
                      (repeat (first | (refine gSeq_get_int rfl (by rfl) HK.out _ _ rfl _ _ rfl _ _ _ _ (by first | exact Has.here _ | exact Has.next _ (Has.here _) | exact Has.next _ (Has.next _ (Has.here _)) | exact Has.next _ (Has.next _ (Has.next _ (Has.here _))) | exact Has.next _ (Has.next _ (Has.next _ (Has.next _ (Has.here _)))) | exact Has.next _ (Has.next _ (Has.next _ (Has.next _ (Has.next _ (Has.here _))))) | exact Has.next _ (Has.next _ (Has.next _ (Has.next _ (Has.next _ (Has.next _ (Has.here _)))))) | exact Has.next _ (Has.next _ (Has.next _ (Has.next _ (Has.next _ (Has.next _ (Has.next _ (Has.here _))))))) | exact Has.next _ (Has.next _ (Has.next _ (Has.next _ (Has.next _ (Has.next _ (Has.next _ (Has.next _ (Has.here _)))))))) | exact Has.next _ (Has.next _ (Has.next _ (Has.next _ (Has.next _ (Has.next _ (Has.next _ (Has.next _ (Has.next _ (Has.here _)))))))))) rfl (by omega) ?_; (try simp only [Act.put, Act.eval, List.setIfInBounds_toArray, List.set_cons_zero, List.set_cons_succ, Array.getD_eq_getD_getElem?, List.getElem?_toArray, List.getElem?_cons_succ, List.getElem?_cons_zero, Option.getD_some])) | (refine gSeq_skip rfl (by rfl) ?_; (try simp only [Act.put, Act.eval, List.setIfInBounds_toArray, List.set_cons_zero, List.set_cons_succ, Array.getD_eq_getD_getElem?, List.getElem?_toArray, List.getElem?_cons_succ, List.getElem?_cons_zero, Option.getD_some])) | (refine gSeq_move _ rfl rfl (by rfl) ?_; (try simp only [Act.put, Act.eval, List.setIfInBounds_toArray, List.set_cons_zero, List.set_cons_succ, Array.getD_eq_getD_getElem?, List.getElem?_toArray, List.getElem?_cons_succ, List.getElem?_cons_zero, Option.getD_some])) | (refine gSeq_assign _ rfl rfl (by rfl) ?_; (try simp only [Act.put, Act.eval, List.setIfInBounds_toArray, List.set_cons_zero, List.set_cons_succ, Array.getD_eq_getD_getElem?, List.getElem?_toArray, List.getElem?_cons_succ, List.getElem?_cons_zero, Option.getD_some])) | (refine gSeq_pure rfl (by rfl) ?_ ?_ ?_; (rotate_left; (intro w'; (skip); go_simp; (first | done | with_reducible rfl)); (try simp only [Act.put, Act.eval, List.setIfInBounds_toArray, List.set_cons_zero, List.set_cons_succ, Array.getD_eq_getD_getElem?, List.getElem?_toArray, List.getElem?_cons_succ, List.getElem?_cons_zero, Option.getD_some]))) | ((refine gSeq_get_sl rfl (by rfl) HK.out _ _ rfl _ _ rfl _ _ _ _ _ (by first | exact Has.here _ | exact Has.next _ (Has.here _) | exact Has.next _ (Has.next _ (Has.here _)) | exact Has.next _ (Has.next _ (Has.next _ (Has.here _))) | exact Has.next _ (Has.next _ (Has.next _ (Has.next _ (Has.here _)))) | exact Has.next _ (Has.next _ (Has.next _ (Has.next _ (Has.next _ (Has.here _))))) | exact Has.next _ (Has.next _ (Has.next _ (Has.next _ (Has.next _ (Has.next _ (Has.here _)))))) | exact Has.next _ (Has.next _ (Has.next _ (Has.next _ (Has.next _ (Has.next _ (Has.next _ (Has.here _))))))) | exact Has.next _ (Has.next _ (Has.next _ (Has.next _ (Has.next _ (Has.next _ (Has.next _ (Has.next _ (Has.here _)))))))) | exact Has.next _ (Has.next _ (Has.next _ (Has.next _ (Has.next _ (Has.next _ (Has.next _ (Has.next _ (Has.next _ (Has.here _)))))))))) rfl (by omega) ?_; (try simp only [Act.put, Act.eval, List.setIfInBounds_toArray, List.set_cons_zero, List.set_cons_succ, Array.getD_eq_getD_getElem?, List.getElem?_toArray, List.getElem?_cons_succ, List.getElem?_cons_zero, Option.getD_some]))) | (refine gSeq_still rfl (by rfl) ?_ ?_ ?_; (rotate_left; (intro w' hG; (skip); go_simp; (first | done | with_reducible rfl)); (try simp only [Act.put, Act.eval, List.setIfInBounds_toArray, List.set_cons_zero, List.set_cons_succ, Array.getD_eq_getD_getElem?, List.getElem?_toArray, List.getElem?_cons_succ, List.getElem?_cons_zero, Option.getD_some])))))
                      (refine gSeq_do rfl (by rfl) (fun K hK => ?_)); go_simp
                      refine (rot32_11 _ a4 b4 _).mono ?_
                      rintro e wn ⟨rfl, hd⟩
                      refine hK _ _ (grown_drawn hd) ?_
                      have HKN := Lib.hid (HK.out.grow (grown_drawn hd))
                      clear hK K hd HK
                      have HK := HKN
                      clear HKN
                      (try simp only [Act.put, Act.eval, List.setIfInBounds_toArray, List.set_cons_zero, List.set_cons_succ, Array.getD_eq_getD_getElem?, List.getElem?_toArray, List.getElem?_cons_succ, List.getElem?_cons_zero, Option.getD_some])
                      (repeat (first | (refine gSeq_get_int rfl (by rfl) HK.out _ _ rfl _ _ rfl _ _ _ _ (by first | exact Has.here _ | exact Has.next _ (Has.here _) | exact Has.next _ (Has.next _ (Has.here _)) | exact Has.next _ (Has.next _ (Has.next _ (Has.here _))) | exact Has.next _ (Has.next _ (Has.next _ (Has.next _ (Has.here _)))) | exact Has.next _ (Has.next _ (Has.next _ (Has.next _ (Has.next _ (Has.here _))))) | exact Has.next _ (Has.next _ (Has.next _ (Has.next _ (Has.next _ (Has.next _ (Has.here _)))))) | exact Has.next _ (Has.next _ (Has.next _ (Has.next _ (Has.next _ (Has.next _ (Has.next _ (Has.here _))))))) | exact Has.next _ (Has.next _ (Has.next _ (Has.next _ (Has.next _ (Has.next _ (Has.next _ (Has.next _ (Has.here _)))))))) | exact Has.next _ (Has.next _ (Has.next _ (Has.next _ (Has.next _ (Has.next _ (Has.next _ (Has.next _ (Has.next _ (Has.here _)))))))))) rfl (by omega) ?_; (try simp only [Act.put, Act.eval, List.setIfInBounds_toArray, List.set_cons_zero, List.set_cons_succ, Array.getD_eq_getD_getElem?, List.getElem?_toArray, List.getElem?_cons_succ, List.getElem?_cons_zero, Option.getD_some])) | (refine gSeq_skip rfl (by rfl) ?_; (try simp only [Act.put, Act.eval, List.setIfInBounds_toArray, List.set_cons_zero, List.set_cons_succ, Array.getD_eq_getD_getElem?, List.getElem?_toArray, List.getElem?_cons_succ, List.getElem?_cons_zero, Option.getD_some])) | (refine gSeq_move _ rfl rfl (by rfl) ?_; (try simp only [Act.put, Act.eval, List.setIfInBounds_toArray, List.set_cons_zero, List.set_cons_succ, Array.getD_eq_getD_getElem?, List.getElem?_toArray, List.getElem?_cons_succ, List.getElem?_cons_zero, Option.getD_some])) | (refine gSeq_assign _ rfl rfl (by rfl) ?_; (try simp only [Act.put, Act.eval, List.setIfInBounds_toArray, List.set_cons_zero, List.set_cons_succ, Array.getD_eq_getD_getElem?, List.getElem?_toArray, List.getElem?_cons_succ, List.getElem?_cons_zero, Option.getD_some])) | (refine gSeq_pure rfl (by rfl) ?_ ?_ ?_; (rotate_left; (intro w'; (skip); go_simp; (first | done | with_reducible rfl)); (try simp only [Act.put, Act.eval, List.setIfInBounds_toArray, List.set_cons_zero, List.set_cons_succ, Array.getD_eq_getD_getElem?, List.getElem?_toArray, List.getElem?_cons_succ, List.getElem?_cons_zero, Option.getD_some]))) | ((refine gSeq_get_sl rfl (by rfl) HK.out _ _ rfl _ _ rfl _ _ _ _ _ (by first | exact Has.here _ | exact Has.next _ (Has.here _) | exact Has.next _ (Has.next _ (Has.here _)) | exact Has.next _ (Has.next _ (Has.next _ (Has.here _))) | exact Has.next _ (Has.next _ (Has.next _ (Has.next _ (Has.here _)))) | exact Has.next _ (Has.next _ (Has.next _ (Has.next _ (Has.next _ (Has.here _))))) | exact Has.next _ (Has.next _ (Has.next _ (Has.next _ (Has.next _ (Has.next _ (Has.here _)))))) | exact Has.next _ (Has.next _ (Has.next _ (Has.next _ (Has.next _ (Has.next _ (Has.next _ (Has.here _))))))) | exact Has.next _ (Has.next _ (Has.next _ (Has.next _ (Has.next _ (Has.next _ (Has.next _ (Has.next _ (Has.here _)))))))) | exact Has.next _ (Has.next _ (Has.next _ (Has.next _ (Has.next _ (Has.next _ (Has.next _ (Has.next _ (Has.next _ (Has.here _)))))))))) rfl (by omega) ?_; (try simp only [Act.put, Act.eval, List.setIfInBounds_toArray, List.set_cons_zero, List.set_cons_succ, Array.getD_eq_getD_getElem?, List.getElem?_toArray, List.getElem?_cons_succ, List.getElem?_cons_zero, Option.getD_some]))) | (refine gSeq_still rfl (by rfl) ?_ ?_ ?_; (rotate_left; (intro w' hG; (skip); go_simp; (first | done | with_reducible rfl)); (try simp only [Act.put, Act.eval, List.setIfInBounds_toArray, List.set_cons_zero, List.set_cons_succ, Array.getD_eq_getD_getElem?, List.getElem?_toArray, List.getElem?_cons_succ, List.getElem?_cons_zero, Option.getD_some])))))
                      (refine gSeq_do rfl (by rfl) (fun K hK => ?_)); go_simp
                      refine (rot32_25 _ a4 b4 _).mono ?_
                      rintro e wn ⟨rfl, hd⟩
                      refine hK _ _ (grown_drawn hd) ?_
                      have HKN := Lib.hid (HK.out.grow (grown_drawn hd))
                      clear hK K hd HK
                      have HK := HKN
                      clear HKN
                      (try simp only [Act.put, Act.eval, List.setIfInBounds_toArray, List.set_cons_zero, List.set_cons_succ, Array.getD_eq_getD_getElem?, List.getElem?_toArray, List.getElem?_cons_succ, List.getElem?_cons_zero, Option.getD_some])
                      (repeat (first | (refine gSeq_get_int rfl (by rfl) HK.out _ _ rfl _ _ rfl _ _ _ _ (by first | exact Has.here _ | exact Has.next _ (Has.here _) | exact Has.next _ (Has.next _ (Has.here _)) | exact Has.next _ (Has.next _ (Has.next _ (Has.here _))) | exact Has.next _ (Has.next _ (Has.next _ (Has.next _ (Has.here _)))) | exact Has.next _ (Has.next _ (Has.next _ (Has.next _ (Has.next _ (Has.here _))))) | exact Has.next _ (Has.next _ (Has.next _ (Has.next _ (Has.next _ (Has.next _ (Has.here _)))))) | exact Has.next _ (Has.next _ (Has.next _ (Has.next _ (Has.next _ (Has.next _ (Has.next _ (Has.here _))))))) | exact Has.next _ (Has.next _ (Has.next _ (Has.next _ (Has.next _ (Has.next _ (Has.next _ (Has.next _ (Has.here _)))))))) | exact Has.next _ (Has.next _ (Has.next _ (Has.next _ (Has.next _ (Has.next _ (Has.next _ (Has.next _ (Has.next _ (Has.here _)))))))))) rfl (by omega) ?_; (try simp only [Act.put, Act.eval, List.setIfInBounds_toArray, List.set_cons_zero, List.set_cons_succ, Array.getD_eq_getD_getElem?, List.getElem?_toArray, List.getElem?_cons_succ, List.getElem?_cons_zero, Option.getD_some])) | (refine gSeq_skip rfl (by rfl) ?_; (try simp only [Act.put, Act.eval, List.setIfInBounds_toArray, List.set_cons_zero, List.set_cons_succ, Array.getD_eq_getD_getElem?, List.getElem?_toArray, List.getElem?_cons_succ, List.getElem?_cons_zero, Option.getD_some])) | (refine gSeq_move _ rfl rfl (by rfl) ?_; (try simp only [Act.put, Act.eval, List.setIfInBounds_toArray, List.set_cons_zero, List.set_cons_succ, Array.getD_eq_getD_getElem?, List.getElem?_toArray, List.getElem?_cons_succ, List.getElem?_cons_zero, Option.getD_some])) | (refine gSeq_assign _ rfl rfl (by rfl) ?_; (try simp only [Act.put, Act.eval, List.setIfInBounds_toArray, List.set_cons_zero, List.set_cons_succ, Array.getD_eq_getD_getElem?, List.getElem?_toArray, List.getElem?_cons_succ, List.getElem?_cons_zero, Option.getD_some])) | (refine gSeq_pure rfl (by rfl) ?_ ?_ ?_; (rotate_left; (intro w'; (skip); go_simp; (first | done | with_reducible rfl)); (try simp only [Act.put, Act.eval, List.setIfInBounds_toArray, List.set_cons_zero, List.set_cons_succ, Array.getD_eq_getD_getElem?, List.getElem?_toArray, List.getElem?_cons_succ, List.getElem?_cons_zero, Option.getD_some]))) | ((refine gSeq_get_sl rfl (by rfl) HK.out _ _ rfl _ _ rfl _ _ _ _ _ (by first | exact Has.here _ | exact Has.next _ (Has.here _) | exact Has.next _ (Has.next _ (Has.here _)) | exact Has.next _ (Has.next _ (Has.next _ (Has.here _))) | exact Has.next _ (Has.next _ (Has.next _ (Has.next _ (Has.here _)))) | exact Has.next _ (Has.next _ (Has.next _ (Has.next _ (Has.next _ (Has.here _))))) | exact Has.next _ (Has.next _ (Has.next _ (Has.next _ (Has.next _ (Has.next _ (Has.here _)))))) | exact Has.next _ (Has.next _ (Has.next _ (Has.next _ (Has.next _ (Has.next _ (Has.next _ (Has.here _))))))) | exact Has.next _ (Has.next _ (Has.next _ (Has.next _ (Has.next _ (Has.next _ (Has.next _ (Has.next _ (Has.here _)))))))) | exact Has.next _ (Has.next _ (Has.next _ (Has.next _ (Has.next _ (Has.next _ (Has.next _ (Has.next _ (Has.next _ (Has.here _)))))))))) rfl (by omega) ?_; (try simp only [Act.put, Act.eval, List.setIfInBounds_toArray, List.set_cons_zero, List.set_cons_succ, Array.getD_eq_getD_getElem?, List.getElem?_toArray, List.getElem?_cons_succ, List.getElem?_cons_zero, Option.getD_some]))) | (refine gSeq_still rfl (by rfl) ?_ ?_ ?_; (rotate_left; (intro w' hG; (skip); go_simp; (first | done | with_reducible rfl)); (try simp only [Act.put, Act.eval, List.setIfInBounds_toArray, List.set_cons_zero, List.set_cons_succ, Array.getD_eq_getD_getElem?, List.getElem?_toArray, List.getElem?_cons_succ, List.getElem?_cons_zero, Option.getD_some])))))
                      refine gSeq_nil ?_
                      clear hkw
                      generalize hT : IntKind.u32.wrap _ = t1
                      generalize IntKind.u32.wrap _ = j1
                      generalize IntKind.u32.wrap _ = j2
                      generalize IntKind.u32.wrap _ = j3
                      generalize bits BinOp.xor IntKind.u32 (bits BinOp.and IntKind.u32 x4 _) _ = j4
                      generalize bits BinOp.and IntKind.u32 (bits BinOp.xor IntKind.u32 _ x4) _ = j5
                      generalize bits BinOp.xor IntKind.u32 (if IntKind.u32.signed = true then -1 else IntKind.u32.max) x4 = j6
                      have ht1 : tmp1 v x4 q (ws.getD j 0) = t1 := hT
                      have HT := Lib.hid ht1
                      clear hT ht1
                      go_wp2_with fail
                      refine wp_region_grow [(2, 0), (2, 2), (2, 5), (2, 8), (2, 9), (1, 10), (2, 11), (2, 12), (2, 13), (1, 14), (2, 15), (2, 16), (2, 17), (1, 18), (2, 19), (1, 20), (2, 21), (2, 22), (0, 1), (0, 3), (2, 4), (0, 6), (2, 7), (2, 23), (2, 24)] (by kernel_rfl) (by kernel_rfl) (fun _ _ _ _ _ h => h) (fun _ _ _ _ _ h => h) ?_
                      refine gSeq_own HK.out fun wn hkn gn ein => ?_
                      have HKN := Lib.hid hkn
                      clear hkn HK
                      have HK := HKN
                      clear HKN
                      clear gn ein
                      (repeat (first | (refine gSeq_get_int rfl (by rfl) HK.out _ _ rfl _ _ rfl _ _ _ _ (by first | exact Has.here _ | exact Has.next _ (Has.here _) | exact Has.next _ (Has.next _ (Has.here _)) | exact Has.next _ (Has.next _ (Has.next _ (Has.here _))) | exact Has.next _ (Has.next _ (Has.next _ (Has.next _ (Has.here _)))) | exact Has.next _ (Has.next _ (Has.next _ (Has.next _ (Has.next _ (Has.here _))))) | exact Has.next _ (Has.next _ (Has.next _ (Has.next _ (Has.next _ (Has.next _ (Has.here _)))))) | exact Has.next _ (Has.next _ (Has.next _ (Has.next _ (Has.next _ (Has.next _ (Has.next _ (Has.here _))))))) | exact Has.next _ (Has.next _ (Has.next _ (Has.next _ (Has.next _ (Has.next _ (Has.next _ (Has.next _ (Has.here _)))))))) | exact Has.next _ (Has.next _ (Has.next _ (Has.next _ (Has.next _ (Has.next _ (Has.next _ (Has.next _ (Has.next _ (Has.here _)))))))))) rfl (by omega) ?_; (try simp only [Act.put, Act.eval, List.setIfInBounds_toArray, List.set_cons_zero, List.set_cons_succ, Array.getD_eq_getD_getElem?, List.getElem?_toArray, List.getElem?_cons_succ, List.getElem?_cons_zero, Option.getD_some])) | (refine gSeq_skip rfl (by rfl) ?_; (try simp only [Act.put, Act.eval, List.setIfInBounds_toArray, List.set_cons_zero, List.set_cons_succ, Array.getD_eq_getD_getElem?, List.getElem?_toArray, List.getElem?_cons_succ, List.getElem?_cons_zero, Option.getD_some])) | (refine gSeq_move _ rfl rfl (by rfl) ?_; (try simp only [Act.put, Act.eval, List.setIfInBounds_toArray, List.set_cons_zero, List.set_cons_succ, Array.getD_eq_getD_getElem?, List.getElem?_toArray, List.getElem?_cons_succ, List.getElem?_cons_zero, Option.getD_some])) | (refine gSeq_assign _ rfl rfl (by rfl) ?_; (try simp only [Act.put, Act.eval, List.setIfInBounds_toArray, List.set_cons_zero, List.set_cons_succ, Array.getD_eq_getD_getElem?, List.getElem?_toArray, List.getElem?_cons_succ, List.getElem?_cons_zero, Option.getD_some])) | (refine gSeq_pure rfl (by rfl) ?_ ?_ ?_; (rotate_left; (intro w'; (skip); go_simp; (first | done | with_reducible rfl)); (try simp only [Act.put, Act.eval, List.setIfInBounds_toArray, List.set_cons_zero, List.set_cons_succ, Array.getD_eq_getD_getElem?, List.getElem?_toArray, List.getElem?_cons_succ, List.getElem?_cons_zero, Option.getD_some]))) | (fail) | (refine gSeq_still rfl (by rfl) ?_ ?_ ?_; (rotate_left; (intro w' hG; (skip); go_simp; (first | done | with_reducible rfl)); (try simp only [Act.put, Act.eval, List.setIfInBounds_toArray, List.set_cons_zero, List.set_cons_succ, Array.getD_eq_getD_getElem?, List.getElem?_toArray, List.getElem?_cons_succ, List.getElem?_cons_zero, Option.getD_some])))))
                      (refine gSeq_do rfl (by rfl) (fun K hK => ?_)); go_simp
                      refine (rot32_2 _ a0 b0 _).mono ?_
                      rintro e wn ⟨rfl, hd⟩
                      refine hK _ _ (grown_drawn hd) ?_
                      have HKN := Lib.hid (HK.out.grow (grown_drawn hd))
                      clear hK K hd HK
                      have HK := HKN
                      clear HKN
                      (try simp only [Act.put, Act.eval, List.setIfInBounds_toArray, List.set_cons_zero, List.set_cons_succ, Array.getD_eq_getD_getElem?, List.getElem?_toArray, List.getElem?_cons_succ, List.getElem?_cons_zero, Option.getD_some])
                      (repeat (first | (refine gSeq_get_int rfl (by rfl) HK.out _ _ rfl _ _ rfl _ _ _ _ (by first | exact Has.here _ | exact Has.next _ (Has.here _) | exact Has.next _ (Has.next _ (Has.here _)) | exact Has.next _ (Has.next _ (Has.next _ (Has.here _))) | exact Has.next _ (Has.next _ (Has.next _ (Has.next _ (Has.here _)))) | exact Has.next _ (Has.next _ (Has.next _ (Has.next _ (Has.next _ (Has.here _))))) | exact Has.next _ (Has.next _ (Has.next _ (Has.next _ (Has.next _ (Has.next _ (Has.here _)))))) | exact Has.next _ (Has.next _ (Has.next _ (Has.next _ (Has.next _ (Has.next _ (Has.next _ (Has.here _))))))) | exact Has.next _ (Has.next _ (Has.next _ (Has.next _ (Has.next _ (Has.next _ (Has.next _ (Has.next _ (Has.here _)))))))) | exact Has.next _ (Has.next _ (Has.next _ (Has.next _ (Has.next _ (Has.next _ (Has.next _ (Has.next _ (Has.next _ (Has.here _)))))))))) rfl (by omega) ?_; (try simp only [Act.put, Act.eval, List.setIfInBounds_toArray, List.set_cons_zero, List.set_cons_succ, Array.getD_eq_getD_getElem?, List.getElem?_toArray, List.getElem?_cons_succ, List.getElem?_cons_zero, Option.getD_some])) | (refine gSeq_skip rfl (by rfl) ?_; (try simp only [Act.put, Act.eval, List.setIfInBounds_toArray, List.set_cons_zero, List.set_cons_succ, Array.getD_eq_getD_getElem?, List.getElem?_toArray, List.getElem?_cons_succ, List.getElem?_cons_zero, Option.getD_some])) | (refine gSeq_move _ rfl rfl (by rfl) ?_; (try simp only [Act.put, Act.eval, List.setIfInBounds_toArray, List.set_cons_zero, List.set_cons_succ, Array.getD_eq_getD_getElem?, List.getElem?_toArray, List.getElem?_cons_succ, List.getElem?_cons_zero, Option.getD_some])) | (refine gSeq_assign _ rfl rfl (by rfl) ?_; (try simp only [Act.put, Act.eval, List.setIfInBounds_toArray, List.set_cons_zero, List.set_cons_succ, Array.getD_eq_getD_getElem?, List.getElem?_toArray, List.getElem?_cons_succ, List.getElem?_cons_zero, Option.getD_some])) | (refine gSeq_pure rfl (by rfl) ?_ ?_ ?_; (rotate_left; (intro w'; (skip); go_simp; (first | done | with_reducible rfl)); (try simp only [Act.put, Act.eval, List.setIfInBounds_toArray, List.set_cons_zero, List.set_cons_succ, Array.getD_eq_getD_getElem?, List.getElem?_toArray, List.getElem?_cons_succ, List.getElem?_cons_zero, Option.getD_some]))) | (fail) | (refine gSeq_still rfl (by rfl) ?_ ?_ ?_; (rotate_left; (intro w' hG; (skip); go_simp; (first | done | with_reducible rfl)); (try simp only [Act.put, Act.eval, List.setIfInBounds_toArray, List.set_cons_zero, List.set_cons_succ, Array.getD_eq_getD_getElem?, List.getElem?_toArray, List.getElem?_cons_succ, List.getElem?_cons_zero, Option.getD_some])))))
                      (refine gSeq_do rfl (by rfl) (fun K hK => ?_)); go_simp
                      refine (rot32_13 _ a0 b0 _).mono ?_
                      rintro e wn ⟨rfl, hd⟩
                      refine hK _ _ (grown_drawn hd) ?_
                      have HKN := Lib.hid (HK.out.grow (grown_drawn hd))
                      clear hK K hd HK
                      have HK := HKN
                      clear HKN
                      (try simp only [Act.put, Act.eval, List.setIfInBounds_toArray, List.set_cons_zero, List.set_cons_succ, Array.getD_eq_getD_getElem?, List.getElem?_toArray, List.getElem?_cons_succ, List.getElem?_cons_zero, Option.getD_some])
                      (repeat (first | (refine gSeq_get_int rfl (by rfl) HK.out _ _ rfl _ _ rfl _ _ _ _ (by first | exact Has.here _ | exact Has.next _ (Has.here _) | exact Has.next _ (Has.next _ (Has.here _)) | exact Has.next _ (Has.next _ (Has.next _ (Has.here _))) | exact Has.next _ (Has.next _ (Has.next _ (Has.next _ (Has.here _)))) | exact Has.next _ (Has.next _ (Has.next _ (Has.next _ (Has.next _ (Has.here _))))) | exact Has.next _ (Has.next _ (Has.next _ (Has.next _ (Has.next _ (Has.next _ (Has.here _)))))) | exact Has.next _ (Has.next _ (Has.next _ (Has.next _ (Has.next _ (Has.next _ (Has.next _ (Has.here _))))))) | exact Has.next _ (Has.next _ (Has.next _ (Has.next _ (Has.next _ (Has.next _ (Has.next _ (Has.next _ (Has.here _)))))))) | exact Has.next _ (Has.next _ (Has.next _ (Has.next _ (Has.next _ (Has.next _ (Has.next _ (Has.next _ (Has.next _ (Has.here _)))))))))) rfl (by omega) ?_; (try simp only [Act.put, Act.eval, List.setIfInBounds_toArray, List.set_cons_zero, List.set_cons_succ, Array.getD_eq_getD_getElem?, List.getElem?_toArray, List.getElem?_cons_succ, List.getElem?_cons_zero, Option.getD_some])) | (refine gSeq_skip rfl (by rfl) ?_; (try simp only [Act.put, Act.eval, List.setIfInBounds_toArray, List.set_cons_zero, List.set_cons_succ, Array.getD_eq_getD_getElem?, List.getElem?_toArray, List.getElem?_cons_succ, List.getElem?_cons_zero, Option.getD_some])) | (refine gSeq_move _ rfl rfl (by rfl) ?_; (try simp only [Act.put, Act.eval, List.setIfInBounds_toArray, List.set_cons_zero, List.set_cons_succ, Array.getD_eq_getD_getElem?, List.getElem?_toArray, List.getElem?_cons_succ, List.getElem?_cons_zero, Option.getD_some])) | (refine gSeq_assign _ rfl rfl (by rfl) ?_; (try simp only [Act.put, Act.eval, List.setIfInBounds_toArray, List.set_cons_zero, List.set_cons_succ, Array.getD_eq_getD_getElem?, List.getElem?_toArray, List.getElem?_cons_succ, List.getElem?_cons_zero, Option.getD_some])) | (refine gSeq_pure rfl (by rfl) ?_ ?_ ?_; (rotate_left; (intro w'; (skip); go_simp; (first | done | with_reducible rfl)); (try simp only [Act.put, Act.eval, List.setIfInBounds_toArray, List.set_cons_zero, List.set_cons_succ, Array.getD_eq_getD_getElem?, List.getElem?_toArray, List.getElem?_cons_succ, List.getElem?_cons_zero, Option.getD_some]))) | (fail) | (refine gSeq_still rfl (by rfl) ?_ ?_ ?_; (rotate_left; (intro w' hG; (skip); go_simp; (first | done | with_reducible rfl)); (try simp only [Act.put, Act.eval, List.setIfInBounds_toArray, List.set_cons_zero, List.set_cons_succ, Array.getD_eq_getD_getElem?, List.getElem?_toArray, List.getElem?_cons_succ, List.getElem?_cons_zero, Option.getD_some])))))
                      (refine gSeq_do rfl (by rfl) (fun K hK => ?_)); go_simp
                      refine (rot32_22 _ a0 b0 _).mono ?_
                      rintro e wn ⟨rfl, hd⟩
                      refine hK _ _ (grown_drawn hd) ?_
                      have HKN := Lib.hid (HK.out.grow (grown_drawn hd))
                      clear hK K hd HK
                      have HK := HKN
                      clear HKN
                      (try simp only [Act.put, Act.eval, List.setIfInBounds_toArray, List.set_cons_zero, List.set_cons_succ, Array.getD_eq_getD_getElem?, List.getElem?_toArray, List.getElem?_cons_succ, List.getElem?_cons_zero, Option.getD_some])
                      (repeat (first | (refine gSeq_get_int rfl (by rfl) HK.out _ _ rfl _ _ rfl _ _ _ _ (by first | exact Has.here _ | exact Has.next _ (Has.here _) | exact Has.next _ (Has.next _ (Has.here _)) | exact Has.next _ (Has.next _ (Has.next _ (Has.here _))) | exact Has.next _ (Has.next _ (Has.next _ (Has.next _ (Has.here _)))) | exact Has.next _ (Has.next _ (Has.next _ (Has.next _ (Has.next _ (Has.here _))))) | exact Has.next _ (Has.next _ (Has.next _ (Has.next _ (Has.next _ (Has.next _ (Has.here _)))))) | exact Has.next _ (Has.next _ (Has.next _ (Has.next _ (Has.next _ (Has.next _ (Has.next _ (Has.here _))))))) | exact Has.next _ (Has.next _ (Has.next _ (Has.next _ (Has.next _ (Has.next _ (Has.next _ (Has.next _ (Has.here _)))))))) | exact Has.next _ (Has.next _ (Has.next _ (Has.next _ (Has.next _ (Has.next _ (Has.next _ (Has.next _ (Has.next _ (Has.here _)))))))))) rfl (by omega) ?_; (try simp only [Act.put, Act.eval, List.setIfInBounds_toArray, List.set_cons_zero, List.set_cons_succ, Array.getD_eq_getD_getElem?, List.getElem?_toArray, List.getElem?_cons_succ, List.getElem?_cons_zero, Option.getD_some])) | (refine gSeq_skip rfl (by rfl) ?_; (try simp only [Act.put, Act.eval, List.setIfInBounds_toArray, List.set_cons_zero, List.set_cons_succ, Array.getD_eq_getD_getElem?, List.getElem?_toArray, List.getElem?_cons_succ, List.getElem?_cons_zero, Option.getD_some])) | (refine gSeq_move _ rfl rfl (by rfl) ?_; (try simp only [Act.put, Act.eval, List.setIfInBounds_toArray, List.set_cons_zero, List.set_cons_succ, Array.getD_eq_getD_getElem?, List.getElem?_toArray, List.getElem?_cons_succ, List.getElem?_cons_zero, Option.getD_some])) | (refine gSeq_assign _ rfl rfl (by rfl) ?_; (try simp only [Act.put, Act.eval, List.setIfInBounds_toArray, List.set_cons_zero, List.set_cons_succ, Array.getD_eq_getD_getElem?, List.getElem?_toArray, List.getElem?_cons_succ, List.getElem?_cons_zero, Option.getD_some])) | (refine gSeq_pure rfl (by rfl) ?_ ?_ ?_; (rotate_left; (intro w'; (skip); go_simp; (first | done | with_reducible rfl)); (try simp only [Act.put, Act.eval, List.setIfInBounds_toArray, List.set_cons_zero, List.set_cons_succ, Array.getD_eq_getD_getElem?, List.getElem?_toArray, List.getElem?_cons_succ, List.getElem?_cons_zero, Option.getD_some]))) | (fail) | (refine gSeq_still rfl (by rfl) ?_ ?_ ?_; (rotate_left; (intro w' hG; (skip); go_simp; (first | done | with_reducible rfl)); (try simp only [Act.put, Act.eval, List.setIfInBounds_toArray, List.set_cons_zero, List.set_cons_succ, Array.getD_eq_getD_getElem?, List.getElem?_toArray, List.getElem?_cons_succ, List.getElem?_cons_zero, Option.getD_some])))))
                      refine gSeq_nil ?_
                      generalize hT2 : IntKind.u32.wrap _ = t2
                      have ht2 : w32 (tmp2 v x0) = t2 := hT2
                      have hst : step32 v q (ws.getD j 0) = [(t1 + t2) % 4294967296, v.getD 0 0, v.getD 1 0, v.getD 2 0, (v.getD 3 0 + t1) % 4294967296, v.getD 4 0, v.getD 5 0, v.getD 6 0] := by
                        rw [step32, stepX, ← HX4.out, ← HX0.out, HT.out, ← ht2, w32, IntKind.wrap_u32]
                        rw [show (t1 + tmp2 v x0 % 4294967296) % 4294967296 = (t1 + tmp2 v x0) % 4294967296 by omega]
                      have HST := Lib.hid hst
                      clear hT2 ht2 hst
                      go_wp2_with (first | (refine wpList_get_int rfl HK.out _ _ rfl _ _ rfl _ _ _ _ (by first | exact Has.here _ | exact Has.next _ (Has.here _) | exact Has.next _ (Has.next _ (Has.here _)) | exact Has.next _ (Has.next _ (Has.next _ (Has.here _))) | exact Has.next _ (Has.next _ (Has.next _ (Has.next _ (Has.here _)))) | exact Has.next _ (Has.next _ (Has.next _ (Has.next _ (Has.next _ (Has.here _))))) | exact Has.next _ (Has.next _ (Has.next _ (Has.next _ (Has.next _ (Has.next _ (Has.here _)))))) | exact Has.next _ (Has.next _ (Has.next _ (Has.next _ (Has.next _ (Has.next _ (Has.next _ (Has.here _))))))) | exact Has.next _ (Has.next _ (Has.next _ (Has.next _ (Has.next _ (Has.next _ (Has.next _ (Has.next _ (Has.here _)))))))) | exact Has.next _ (Has.next _ (Has.next _ (Has.next _ (Has.next _ (Has.next _ (Has.next _ (Has.next _ (Has.next _ (Has.here _)))))))))) rfl (by omega) ?_) | (refine wpList_put_row rfl HK.out 46 _ _ rfl _ _ [(t1 + t2) % 4294967296, v.getD 0 0, v.getD 1 0, v.getD 2 0, (v.getD 3 0 + t1) % 4294967296, v.getD 4 0, v.getD 5 0, v.getD 6 0] rfl rfl _ _ _ (by first | exact Upd.here _ | exact Upd.next _ (Upd.here _) | exact Upd.next _ (Upd.next _ (Upd.here _)) | exact Upd.next _ (Upd.next _ (Upd.next _ (Upd.here _))) | exact Upd.next _ (Upd.next _ (Upd.next _ (Upd.next _ (Upd.here _)))) | exact Upd.next _ (Upd.next _ (Upd.next _ (Upd.next _ (Upd.next _ (Upd.here _))))) | exact Upd.next _ (Upd.next _ (Upd.next _ (Upd.next _ (Upd.next _ (Upd.next _ (Upd.here _)))))) | exact Upd.next _ (Upd.next _ (Upd.next _ (Upd.next _ (Upd.next _ (Upd.next _ (Upd.next _ (Upd.here _))))))) | exact Upd.next _ (Upd.next _ (Upd.next _ (Upd.next _ (Upd.next _ (Upd.next _ (Upd.next _ (Upd.next _ (Upd.here _)))))))) | exact Upd.next _ (Upd.next _ (Upd.next _ (Upd.next _ (Upd.next _ (Upd.next _ (Upd.next _ (Upd.next _ (Upd.next _ (Upd.here _)))))))))) (by rfl) (by kernel_rfl) ?_; (intro wn hkn; have HKN := Lib.hid hkn; clear hkn; clear HK; have HK := HKN; clear HKN)))
                      have HK' : Hid (Own w wn [.ints pv .u32 46 8 (rn H ws (j + 1)), .ints pw .u32 49 64 ws, .sl 5 .u8 (some ⟨pm, 0, none⟩) N c M, .ints ph .u32 46 8 H, .ints ps .u64 43 8 SS, .sl 42 .u64 (some ⟨pk, 0, none⟩) 80 ck KK, .ints po .u8 26 32 zs]) := by rw [HNV.out, HST.out]; exact HK
                      clear HK
                      have HK := HK'
                      clear HK'
                      go_wp2_with fail
                      exact ⟨⟨j + 1, by omega, by go_num, HK⟩, by simp [intOf]; omega⟩
                    · have hj2 : j = 64 := by omega
                      subst hj2
                      clear hlj hj
                      rw [show ((64 : Nat) : Int) = 64 from rfl]
                      obtain ⟨V, hV⟩ : ∃ V, V = rn H ws 64 := ⟨_, rfl⟩
                      rw [← hV] at HK
                      have HNX := Lib.hid (show hs32 M (k + 1) = addH H V 8 by rw [hV]; exact HNX'.out)
                      clear hV HNX'
                      go_wp2_with fail
                      go_loopw [19] (fun v wr => ∃ (j : Nat), j ≤ 8 ∧ v = .int .i64 j ∧ Hid (Own w wr [.ints pv .u32 46 8 V, .ints pw .u32 49 64 ws, .sl 5 .u8 (some ⟨pm, 0, none⟩) N c M, .ints ph .u32 46 8 (addH H V j), .ints ps .u64 43 8 SS, .sl 42 .u64 (some ⟨pk, 0, none⟩) 80 ck KK, .ints po .u8 26 32 zs])) (fun v _ => 8 - (intOf v).toNat)
                      case atStart => exact ⟨0, by omega, rfl, HK⟩
                      case round =>
                        obtain ⟨j, hj, rfl, HK'⟩ := hrel
                        clear HK
                        have HK := HK'
                        clear HK'
                        by_cases hlj : j < 8
                        · as_aux_lemma =>
                          obtain ⟨A, hA⟩ : ∃ A, A = addH H V j := ⟨_, rfl⟩
                          rw [← hA] at HK
                          have HNA := Lib.hid (show addH H V (j + 1) = A.set j (w32 (A.getD j 0 + V.getD j 0)) by rw [addH, hA])
                          clear hA
                          have hj0 : (0 : Int) ≤ j := by omega
                          have hj8 : (j : Int) < 8 := by omega
                          go_wp2_with fail
                          refine wp_region_grow [(2, 0), (2, 1), (1, 2), (2, 3), (2, 4), (1, 5), (2, 6), (2, 7), (3, 8)] (by kernel_rfl) (by kernel_rfl) (fun _ _ _ _ _ h => h) (fun _ _ _ _ _ h => h) ?_
                          refine gSeq_own HK.out fun wn hkn gn ein => ?_
                          have HKN := Lib.hid hkn
                          clear hkn HK
                          have HK := HKN
                          clear HKN
                          clear gn ein
                          (repeat (first | (refine gSeq_get_int rfl (by rfl) HK.out _ _ rfl _ _ rfl _ _ _ _ (by first | exact Has.here _ | exact Has.next _ (Has.here _) | exact Has.next _ (Has.next _ (Has.here _)) | exact Has.next _ (Has.next _ (Has.next _ (Has.here _))) | exact Has.next _ (Has.next _ (Has.next _ (Has.next _ (Has.here _)))) | exact Has.next _ (Has.next _ (Has.next _ (Has.next _ (Has.next _ (Has.here _))))) | exact Has.next _ (Has.next _ (Has.next _ (Has.next _ (Has.next _ (Has.next _ (Has.here _)))))) | exact Has.next _ (Has.next _ (Has.next _ (Has.next _ (Has.next _ (Has.next _ (Has.next _ (Has.here _))))))) | exact Has.next _ (Has.next _ (Has.next _ (Has.next _ (Has.next _ (Has.next _ (Has.next _ (Has.next _ (Has.here _)))))))) | exact Has.next _ (Has.next _ (Has.next _ (Has.next _ (Has.next _ (Has.next _ (Has.next _ (Has.next _ (Has.next _ (Has.here _)))))))))) rfl (by omega) ?_; (try simp only [Act.put, Act.eval, List.setIfInBounds_toArray, List.set_cons_zero, List.set_cons_succ, Array.getD_eq_getD_getElem?, List.getElem?_toArray, List.getElem?_cons_succ, List.getElem?_cons_zero, Option.getD_some])) | (refine gSeq_skip rfl (by rfl) ?_; (try simp only [Act.put, Act.eval, List.setIfInBounds_toArray, List.set_cons_zero, List.set_cons_succ, Array.getD_eq_getD_getElem?, List.getElem?_toArray, List.getElem?_cons_succ, List.getElem?_cons_zero, Option.getD_some])) | (refine gSeq_move _ rfl rfl (by rfl) ?_; (try simp only [Act.put, Act.eval, List.setIfInBounds_toArray, List.set_cons_zero, List.set_cons_succ, Array.getD_eq_getD_getElem?, List.getElem?_toArray, List.getElem?_cons_succ, List.getElem?_cons_zero, Option.getD_some])) | (refine gSeq_assign _ rfl rfl (by rfl) ?_; (try simp only [Act.put, Act.eval, List.setIfInBounds_toArray, List.set_cons_zero, List.set_cons_succ, Array.getD_eq_getD_getElem?, List.getElem?_toArray, List.getElem?_cons_succ, List.getElem?_cons_zero, Option.getD_some])) | (refine gSeq_pure rfl (by rfl) ?_ ?_ ?_; (rotate_left; (intro w'; (skip); go_simp; (first | done | with_reducible rfl)); (try simp only [Act.put, Act.eval, List.setIfInBounds_toArray, List.set_cons_zero, List.set_cons_succ, Array.getD_eq_getD_getElem?, List.getElem?_toArray, List.getElem?_cons_succ, List.getElem?_cons_zero, Option.getD_some]))) | ((refine gSeq_put_int rfl (by rfl) HK.out _ _ _ rfl _ _ _ _ rfl rfl _ _ _ (by first | exact Upd.here _ | exact Upd.next _ (Upd.here _) | exact Upd.next _ (Upd.next _ (Upd.here _)) | exact Upd.next _ (Upd.next _ (Upd.next _ (Upd.here _))) | exact Upd.next _ (Upd.next _ (Upd.next _ (Upd.next _ (Upd.here _)))) | exact Upd.next _ (Upd.next _ (Upd.next _ (Upd.next _ (Upd.next _ (Upd.here _))))) | exact Upd.next _ (Upd.next _ (Upd.next _ (Upd.next _ (Upd.next _ (Upd.next _ (Upd.here _)))))) | exact Upd.next _ (Upd.next _ (Upd.next _ (Upd.next _ (Upd.next _ (Upd.next _ (Upd.next _ (Upd.here _))))))) | exact Upd.next _ (Upd.next _ (Upd.next _ (Upd.next _ (Upd.next _ (Upd.next _ (Upd.next _ (Upd.next _ (Upd.here _)))))))) | exact Upd.next _ (Upd.next _ (Upd.next _ (Upd.next _ (Upd.next _ (Upd.next _ (Upd.next _ (Upd.next _ (Upd.next _ (Upd.here _)))))))))) (by omega) (by kernel_rfl) ?_; (intro wn hkn; have HKN := Lib.hid hkn; clear hkn; clear HK; have HK := HKN; clear HKN); (try simp only [Act.put, Act.eval, List.setIfInBounds_toArray, List.set_cons_zero, List.set_cons_succ, Array.getD_eq_getD_getElem?, List.getElem?_toArray, List.getElem?_cons_succ, List.getElem?_cons_zero, Option.getD_some]))) | (refine gSeq_still rfl (by rfl) ?_ ?_ ?_; (rotate_left; (intro w' hG; (skip); go_simp; (first | done | with_reducible rfl)); (try simp only [Act.put, Act.eval, List.setIfInBounds_toArray, List.set_cons_zero, List.set_cons_succ, Array.getD_eq_getD_getElem?, List.getElem?_toArray, List.getElem?_cons_succ, List.getElem?_cons_zero, Option.getD_some])))))
                          refine gSeq_nil ?_
                          have HK' : Hid (Own w wn [.ints pv .u32 46 8 V, .ints pw .u32 49 64 ws, .sl 5 .u8 (some ⟨pm, 0, none⟩) N c M, .ints ph .u32 46 8 (addH H V (j + 1)), .ints ps .u64 43 8 SS, .sl 42 .u64 (some ⟨pk, 0, none⟩) 80 ck KK, .ints po .u8 26 32 zs]) := by rw [HNA.out]; exact HK
                          clear HK
                          have HK := HK'
                          clear HK'
                          go_wp2_with fail
                          exact ⟨⟨j + 1, by omega, by go_num, HK⟩, by simp [intOf]; omega⟩
                        · have hj2 : j = 8 := by omega
                          subst hj2
                          clear hlj hj
                          rw [show ((8 : Nat) : Int) = 8 from rfl]
                          rw [← HNX.out] at HK
                          have hsub := (HK.out.sub (List.Sublist.cons _ (List.Sublist.cons _ (List.Sublist.refl _))))
                          clear HK
                          have HK := Lib.hid hsub
                          clear hsub
                          go_wp2_with (refine wpList_slice rfl 22 _ _ _ rfl _ rfl _ _ rfl rfl _ (run_sub_l Try.underlying22 (by kernel_rfl) 64 64 rfl hR2) ?_)
                          have hR := HR.out
                          exact ⟨⟨k + 1, R - 64, C - 64, _, by omega, Lib.hid (by rw [hR]; omega), Lib.hid (fun hp => ⟨by rw [subAt, if_neg (by omega)]; simp [Addr.add_mid], by omega, by omega⟩), rfl, HK⟩, by simp [lenOf]; omega⟩
        · as_aux_lemma =>
          have hkn : k = nb := by omega
          have hR0 : R = 0 := by rw [HR.out, hkn, Nat.sub_self, Nat.mul_zero]
          subst hR0
          rw [hkn] at HK
          obtain ⟨H, hH⟩ : ∃ H, H = hs32 M nb := ⟨_, rfl⟩
          rw [← hH] at HK
          have HH8 := Lib.hid (show H.length = 8 by rw [hH]; exact length_hs32 M nb)
          have HHO := Lib.hid (show okB 4294967296 H by rw [hH]; exact ok_hs32 M nb)
          have HS' := Lib.hid (show sum32 B.xs = outA H 32 by rw [hH]; exact HS.out)
          clear hH hkn hlt hk HA HR HS
          go_wp2_with ((refine wpList_new_ints rfl HK.out _ rfl .u8 26 32 (zer 32) (length_zer _) (fun w => by go_simp; first | exact ⟨rfl, rfl⟩ | kernel_rfl) ?_))
          intro wn pr hkn
          have HKN := Lib.hid hkn
          clear hkn HK
          have HK := HKN
          clear HKN
          go_wp2_with fail
          go_loopw [21] (fun v wr => ∃ (j : Nat), j ≤ 32 ∧ v = .int .i64 j ∧ Hid (Own w wr [.ints pr .u8 26 32 (outA H j), .sl 5 .u8 (some ⟨pm, 0, none⟩) N c M, .ints ph .u32 46 8 H, .ints ps .u64 43 8 SS, .sl 42 .u64 (some ⟨pk, 0, none⟩) 80 ck KK, .ints po .u8 26 32 zs])) (fun v _ => 32 - (intOf v).toNat)
          case atStart => exact ⟨0, by omega, rfl, HK⟩
          case round =>
            obtain ⟨j, hj, rfl, HK'⟩ := hrel
            clear HK
            have HK := HK'
            clear HK'
            by_cases hlj : j < 32
            · have hj0 : (0 : Int) ≤ j := by omega
              have hj32 : (j : Int) < 32 := by omega
              have hq0 : (0 : Int) ≤ (j : Int) / 4 := by omega
              have hq8 : (j : Int) / 4 < 8 := by omega
              have hq : ((j : Int) / 4).toNat = j / 4 := by omega
              have hs0 : 0 ≤ 24 - 8 * ((j : Int) % 4) := by omega
              have hq8' : j / 4 < 8 := by omega
              obtain ⟨A, hA⟩ : ∃ A, A = outA H j := ⟨_, rfl⟩
              rw [← hA] at HK
              have HNA := Lib.hid (show outA H (j + 1) = A.set j (H.getD (j / 4) 0 / 2 ^ (24 - 8 * (j % 4)) % 256) by rw [outA, hA])
              have hx := ok_getD (by decide) HHO.out (j / 4)
              clear hA
              go_wp2_with (first | (refine wpList_get_int rfl HK.out _ _ rfl _ _ rfl _ _ _ _ (by first | exact Has.here _ | exact Has.next _ (Has.here _) | exact Has.next _ (Has.next _ (Has.here _)) | exact Has.next _ (Has.next _ (Has.next _ (Has.here _))) | exact Has.next _ (Has.next _ (Has.next _ (Has.next _ (Has.here _)))) | exact Has.next _ (Has.next _ (Has.next _ (Has.next _ (Has.next _ (Has.here _))))) | exact Has.next _ (Has.next _ (Has.next _ (Has.next _ (Has.next _ (Has.next _ (Has.here _)))))) | exact Has.next _ (Has.next _ (Has.next _ (Has.next _ (Has.next _ (Has.next _ (Has.next _ (Has.here _))))))) | exact Has.next _ (Has.next _ (Has.next _ (Has.next _ (Has.next _ (Has.next _ (Has.next _ (Has.next _ (Has.here _)))))))) | exact Has.next _ (Has.next _ (Has.next _ (Has.next _ (Has.next _ (Has.next _ (Has.next _ (Has.next _ (Has.next _ (Has.here _)))))))))) rfl (by omega) ?_) | (refine wpList_put_int rfl HK.out _ _ _ rfl _ _ _ _ rfl rfl _ _ _ (by first | exact Upd.here _ | exact Upd.next _ (Upd.here _) | exact Upd.next _ (Upd.next _ (Upd.here _)) | exact Upd.next _ (Upd.next _ (Upd.next _ (Upd.here _))) | exact Upd.next _ (Upd.next _ (Upd.next _ (Upd.next _ (Upd.here _)))) | exact Upd.next _ (Upd.next _ (Upd.next _ (Upd.next _ (Upd.next _ (Upd.here _))))) | exact Upd.next _ (Upd.next _ (Upd.next _ (Upd.next _ (Upd.next _ (Upd.next _ (Upd.here _)))))) | exact Upd.next _ (Upd.next _ (Upd.next _ (Upd.next _ (Upd.next _ (Upd.next _ (Upd.next _ (Upd.here _))))))) | exact Upd.next _ (Upd.next _ (Upd.next _ (Upd.next _ (Upd.next _ (Upd.next _ (Upd.next _ (Upd.next _ (Upd.here _)))))))) | exact Upd.next _ (Upd.next _ (Upd.next _ (Upd.next _ (Upd.next _ (Upd.next _ (Upd.next _ (Upd.next _ (Upd.next _ (Upd.here _)))))))))) (by omega) (by kernel_rfl) ?_; (intro wn hkn; have HKN := Lib.hid hkn; clear hkn; clear HK; have HK := HKN; clear HKN)))
              have HK' : Hid (Own w wn [.ints pr .u8 26 32 (outA H (j + 1)), .sl 5 .u8 (some ⟨pm, 0, none⟩) N c M, .ints ph .u32 46 8 H, .ints ps .u64 43 8 SS, .sl 42 .u64 (some ⟨pk, 0, none⟩) 80 ck KK, .ints po .u8 26 32 zs]) := by rw [HNA.out]; exact HK
              exact ⟨⟨j + 1, by omega, by go_num, HK'⟩, by simp [intOf]; omega⟩
            · have hj2 : j = 32 := by omega
              subst hj2
              clear hlj hj
              rw [show ((32 : Nat) : Int) = 32 from rfl]
              rw [← HS'.out] at HK
              have HL := Lib.hid (length_sum32 B.xs)
              go_wp2_with (first | (refine wpList_get_row rfl HK.out 26 _ rfl _ rfl _ _ _ _ (by first | exact Has.here _ | exact Has.next _ (Has.here _) | exact Has.next _ (Has.next _ (Has.here _)) | exact Has.next _ (Has.next _ (Has.next _ (Has.here _))) | exact Has.next _ (Has.next _ (Has.next _ (Has.next _ (Has.here _)))) | exact Has.next _ (Has.next _ (Has.next _ (Has.next _ (Has.next _ (Has.here _))))) | exact Has.next _ (Has.next _ (Has.next _ (Has.next _ (Has.next _ (Has.next _ (Has.here _)))))) | exact Has.next _ (Has.next _ (Has.next _ (Has.next _ (Has.next _ (Has.next _ (Has.next _ (Has.here _))))))) | exact Has.next _ (Has.next _ (Has.next _ (Has.next _ (Has.next _ (Has.next _ (Has.next _ (Has.next _ (Has.here _)))))))) | exact Has.next _ (Has.next _ (Has.next _ (Has.next _ (Has.next _ (Has.next _ (Has.next _ (Has.next _ (Has.next _ (Has.here _)))))))))) _ Try.underlying26 rfl (by kernel_rfl) ?_) | (refine wpList_put_row rfl HK.out 26 _ _ rfl _ _ (sum32 B.xs) rfl rfl _ _ _ (by first | exact Upd.here _ | exact Upd.next _ (Upd.here _) | exact Upd.next _ (Upd.next _ (Upd.here _)) | exact Upd.next _ (Upd.next _ (Upd.next _ (Upd.here _))) | exact Upd.next _ (Upd.next _ (Upd.next _ (Upd.next _ (Upd.here _)))) | exact Upd.next _ (Upd.next _ (Upd.next _ (Upd.next _ (Upd.next _ (Upd.here _))))) | exact Upd.next _ (Upd.next _ (Upd.next _ (Upd.next _ (Upd.next _ (Upd.next _ (Upd.here _)))))) | exact Upd.next _ (Upd.next _ (Upd.next _ (Upd.next _ (Upd.next _ (Upd.next _ (Upd.next _ (Upd.here _))))))) | exact Upd.next _ (Upd.next _ (Upd.next _ (Upd.next _ (Upd.next _ (Upd.next _ (Upd.next _ (Upd.next _ (Upd.here _)))))))) | exact Upd.next _ (Upd.next _ (Upd.next _ (Upd.next _ (Upd.next _ (Upd.next _ (Upd.next _ (Upd.next _ (Upd.next _ (Upd.here _)))))))))) (by exact HL.out) (by kernel_rfl) ?_; (intro wn hkn; have HKN := Lib.hid hkn; clear hkn; clear HK; have HK := HKN; clear HKN)))
              exact bodyPost_ret (results_own rfl _ HK.out _ rfl (by first | exact Has.here _ | exact Has.next _ (Has.here _) | exact Has.next _ (Has.next _ (Has.here _)) | exact Has.next _ (Has.next _ (Has.next _ (Has.here _))) | exact Has.next _ (Has.next _ (Has.next _ (Has.next _ (Has.here _)))) | exact Has.next _ (Has.next _ (Has.next _ (Has.next _ (Has.next _ (Has.here _))))) | exact Has.next _ (Has.next _ (Has.next _ (Has.next _ (Has.next _ (Has.next _ (Has.here _)))))) | exact Has.next _ (Has.next _ (Has.next _ (Has.next _ (Has.next _ (Has.next _ (Has.next _ (Has.here _))))))) | exact Has.next _ (Has.next _ (Has.next _ (Has.next _ (Has.next _ (Has.next _ (Has.next _ (Has.next _ (Has.here _)))))))) | exact Has.next _ (Has.next _ (Has.next _ (Has.next _ (Has.next _ (Has.next _ (Has.next _ (Has.next _ (Has.next _ (Has.here _)))))))))) _ Try.underlying26 rfl (by kernel_rfl)) rfl ⟨rfl, HK.out.grown⟩
end Go.Proofs.Ytjogdbiaiflmpaa
