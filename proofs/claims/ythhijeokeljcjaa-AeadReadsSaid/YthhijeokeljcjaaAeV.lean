/- AeadReads, walked. -/
import Derived.Test.YthhijeokeljcjaaAeU
namespace Go.Proofs.Ythhijeokeljcjaa
set_option linter.unusedVariables false
set_option linter.unusedSimpArgs false
open Go.RowKit Go.Proofs.YthhijeokeljcjaaL

theorem isRow_cap {w : World} {a : Option Addr} {len cap : Nat} {zs : List Int} (h : IsRow .u8 w a len cap zs) : len ≤ cap := by
  rcases h with ⟨rfl, rfl, rfl, rfl⟩ | ⟨x, rfl, hl, hm, hz, hc, hw⟩
  · exact Nat.le_refl _
  · exact hl
theorem u64_bits (op : BinOp) (x y : Int) : 0 ≤ bits op .u64 x y ∧ bits op .u64 x y < 18446744073709551616 := by
  have h := wf_bits op .u64 x y
  simp [Lit.wf, IntKind.min, IntKind.max, IntKind.bits, IntKind.signed] at h
  omega
theorem u8_bits (op : BinOp) (x y : Int) : 0 ≤ bits op .u8 x y ∧ bits op .u8 x y < 256 := wf_u8_range (wf_bits op .u8 x y)

set_option maxHeartbeats 16000000 in
set_option maxRecDepth 100000 in
theorem reads_walk (key : List Int) (n : Int) (ad : Option Addr) (len cap : Nat) (zs : List Int) (bd : Option Addr) (blen bcap : Nat) (us : List Int) (rd : Option Addr) (rlen rcap : Nat) (vs : List Int) (at_ x how : Int) (w : World) (hk : key.length = 32) (hko : okB 256 key) (hn0 : 0 ≤ n) (hn1 : n < 18446744073709551616) (hr : IsRow .u8 w ad len cap zs) (hq : IsRow .u8 w bd blen bcap us) (hs : IsRow .u8 w rd rlen rcap vs) (ha0 : 0 ≤ at_) (ha1 : at_ < 65536) (hx0 : 0 ≤ x) (hx1 : x < 256) (hh0 : 0 ≤ how) (hh1 : how < 256) :
    Calls Try.prog 4 #[.agg (encK .u8 key), .int .u64 n, .slice ad len cap, .slice bd blen bcap, .slice rd rlen rcap, .int .u16 at_, .int .u8 x, .int .u8 how] w fun e w' => e = .returned (.bool true) ∧ w.grownBy w' none := by
  obtain ⟨h1, h2, h3, h4⟩ := isRow_rd hr
  obtain ⟨h5, h6⟩ := row_none hr
  obtain ⟨g1, g2, g3, g4⟩ := isRow_rd hq
  obtain ⟨g5, g6⟩ := row_none hq
  obtain ⟨f1, f2, f3, f4⟩ := isRow_rd hs
  obtain ⟨f5, f6⟩ := row_none hs
  obtain ⟨xs, hxs⟩ : ∃ xs, xs = zs.take len := ⟨_, rfl⟩
  obtain ⟨ys, hys⟩ : ∃ ys, ys = us.take blen := ⟨_, rfl⟩
  obtain ⟨ts, hts⟩ : ∃ ts, ts = vs.take rlen := ⟨_, rfl⟩
  rw [← hxs] at h1 h2
  rw [← hys] at g1 g2
  rw [← hts] at f1 f2
  have HR := Lib.hid h1
  have HOX := Lib.hid h2
  have HN := Lib.hid h5
  have HQ := Lib.hid g1
  have HOY := Lib.hid g2
  have HQN := Lib.hid g5
  have HS := Lib.hid f1
  have HOT := Lib.hid f2
  have HSN := Lib.hid f5
  have HSC := Lib.hid (isRow_cap hs)
  have HKL := Lib.hid hk
  have HKO := Lib.hid hko
  have HN0 := Lib.hid hn0
  have HN1 := Lib.hid hn1
  have h63 : (len : Int) ≤ 9223372036854775807 := by omega
  have h64 : (blen : Int) ≤ 9223372036854775807 := by omega
  have h65 : (rlen : Int) ≤ 9223372036854775807 := by omega
  clear hr hq hs h1 h2 h3 h4 h5 h6 g1 g2 g3 g4 g5 g6 f1 f2 f3 f4 f5 f6 hxs hys hts hk hko hn1
  obtain ⟨p, hp⟩ : ∃ p, w.heap.size = p := ⟨_, rfl⟩
  have hk0 := (own_start w).ints .u8 22 32 key HKL.out hp
  have HK := Lib.hid hk0
  have HP := Lib.hid hp
  clear hk0 hp
  go_enter Try.func4, Try.ntmps4
  go_wp2_with fail
  rw [HP.out]
  refine (known_any _).mono ?_
  rintro e wn ⟨rfl, hg⟩
  have hkb := HK.out.grow hg
  clear hg
  clear HK
  have HK := Lib.hid hkb
  clear hkb
  by_cases hbig : (len : Int) > 100
  · go_wp2_with fail
    exact bodyPost_ret (results_tmp rfl _ _ _) rfl ⟨rfl, HK.out.grown⟩
  by_cases hbig2 : (blen : Int) > 100
  · go_wp2_with fail
    exact bodyPost_ret (results_tmp rfl _ _ _) rfl ⟨rfl, HK.out.grown⟩
  by_cases hbig3 : (rlen : Int) > 100
  · go_wp2_with fail
    exact bodyPost_ret (results_tmp rfl _ _ _) rfl ⟨rfl, HK.out.grown⟩
  have hlen : len ≤ 100 := by omega
  have hblen : blen ≤ 100 := by omega
  have hrlen : rlen ≤ 100 := by omega
  have HB := Lib.hid (fun (w' : World) (g : w.grownBy w' none) => (show (⟨ad, len, cap, xs⟩ : Bs).ok w' from ⟨HR.out.kept g, HOX.out, HN.out, (show len ≤ 3000 by omega)⟩))
  have HBB := Lib.hid (fun (w' : World) (g : w.grownBy w' none) => (show (⟨bd, blen, bcap, ys⟩ : Bs).ok w' from ⟨HQ.out.kept g, HOY.out, HQN.out, (show blen ≤ 3000 by omega)⟩))
  have HBR := Lib.hid (fun (w' : World) (g : w.grownBy w' none) => (show (⟨rd, rlen, rcap, ts⟩ : Bs).ok w' from ⟨HS.out.kept g, HOT.out, HSN.out, (show rlen ≤ 3000 by omega)⟩))
  have HXL := Lib.hid HR.out.1
  obtain ⟨S1, hS1⟩ : ∃ S1, S1 = sealL key n xs ys := ⟨_, rfl⟩
  have HS1 := Lib.hid hS1
  have HSO := Lib.hid (show okB 256 S1 by rw [hS1]; exact ok_sealL _ _ _ _)
  have HSL := Lib.hid (show S1.length = blen + 16 by rw [hS1, length_sealL, HQ.out.1])
  clear hS1
  go_wp2_with (refine wpList_get_row rfl HK.out 22 _ rfl _ rfl _ _ _ _ (by first | exact Has.here _ | exact Has.next _ (Has.here _) | exact Has.next _ (Has.next _ (Has.here _)) | exact Has.next _ (Has.next _ (Has.next _ (Has.here _))) | exact Has.next _ (Has.next _ (Has.next _ (Has.next _ (Has.here _)))) | exact Has.next _ (Has.next _ (Has.next _ (Has.next _ (Has.next _ (Has.here _))))) | exact Has.next _ (Has.next _ (Has.next _ (Has.next _ (Has.next _ (Has.next _ (Has.here _)))))) | exact Has.next _ (Has.next _ (Has.next _ (Has.next _ (Has.next _ (Has.next _ (Has.next _ (Has.here _))))))) | exact Has.next _ (Has.next _ (Has.next _ (Has.next _ (Has.next _ (Has.next _ (Has.next _ (Has.next _ (Has.here _)))))))) | exact Has.next _ (Has.next _ (Has.next _ (Has.next _ (Has.next _ (Has.next _ (Has.next _ (Has.next _ (Has.next _ (Has.here _)))))))))) _ Try.underlying22 rfl (by kernel_rfl) ?_)
  have q4 := rseal_any key n ⟨ad, len, cap, xs⟩ ⟨bd, blen, bcap, ys⟩ _ HKL.out HKO.out HN0.out HN1.out (HB.out _ HK.out.grown) (HBB.out _ HK.out.grown)
  rw [show sealL key n (⟨ad, len, cap, xs⟩ : Bs).xs (⟨bd, blen, bcap, ys⟩ : Bs).xs = S1 from HS1.out.symm] at q4
  refine q4.mono ?_
  clear q4
  rintro e w2 ⟨a1, c1, rfl, ho, hg⟩
  have hkb := (own_back HK.out hg ho).nil 5 .u8
  clear ho hg
  clear HK
  have HK := Lib.hid hkb
  clear hkb
  obtain ⟨L0, hL0⟩ : ∃ L0, L0 = blen + 16 := ⟨_, rfl⟩
  rw [show (⟨bd, blen, bcap, ys⟩ : Bs).len + 16 = L0 from hL0.symm] at HK ⊢
  rw [← hL0] at HSL
  have hL1 : 16 ≤ L0 := by omega
  have hL2 : L0 ≤ 116 := by omega
  clear hL0
  go_wp2_with (at_builtin; refine wpList_app_own rfl HK.out _ _ 24 rfl 5 (.int .u8 0) 1 Try.underlying24 (by kernel_rfl) rfl .u8 _ _ _ _ rfl (by first | exact Del.here _ | exact Del.next _ (Del.here _) | exact Del.next _ (Del.next _ (Del.here _)) | exact Del.next _ (Del.next _ (Del.next _ (Del.here _))) | exact Del.next _ (Del.next _ (Del.next _ (Del.next _ (Del.here _)))) | exact Del.next _ (Del.next _ (Del.next _ (Del.next _ (Del.next _ (Del.here _))))) | exact Del.next _ (Del.next _ (Del.next _ (Del.next _ (Del.next _ (Del.next _ (Del.here _)))))) | exact Del.next _ (Del.next _ (Del.next _ (Del.next _ (Del.next _ (Del.next _ (Del.next _ (Del.here _))))))) | exact Del.next _ (Del.next _ (Del.next _ (Del.next _ (Del.next _ (Del.next _ (Del.next _ (Del.next _ (Del.here _)))))))) | exact Del.next _ (Del.next _ (Del.next _ (Del.next _ (Del.next _ (Del.next _ (Del.next _ (Del.next _ (Del.next _ (Del.here _)))))))))) _ len xs rfl HXL.out (Bs.src (HB.out _ HK.out.grown)) (by unfold maxLen; omega) (by omega) ?_)
  intro a2 c2 w3 hk
  clear HK
  have HK := Lib.hid hk
  clear hk
  obtain ⟨i, hi, hil⟩ : ∃ i : Nat, at_ % (L0 : Int) = i ∧ i < L0 := by
    have h1 := Int.emod_nonneg at_ (show (L0 : Int) ≠ 0 by omega)
    have h2 := Int.emod_lt_of_pos at_ (show (0 : Int) < (L0 : Int) by omega)
    exact ⟨(at_ % (L0 : Int)).toNat, by omega, by omega⟩
  have HI := Lib.hid hi
  clear hi
  have hL0i : (0 : Int) < L0 := by omega
  go_upto_block 0 with fail
  rw [HI.out]
  have HMK := Lib.hid (own_bs HK.out (.here _) HOX.out (show len ≤ 3000 by omega))
  have HCK := Lib.hid (own_bs HK.out (.next _ (.here _)) HSO.out (show L0 ≤ 3000 by omega))
  have HCC := Lib.hid (HK.out.cap (.next _ (.here _))).1
  have hi0 : (0 : Int) ≤ i := by omega
  have hi1 : (i : Int) < L0 := by omega
  go_cut [1, 17, 18] from 24 (fun s1 s17 s18 wx => ∃ (n' : Int) (key' : List Int) (ma : Option Addr) (mn mc : Nat) (ms : List Int) (ca : Option Addr) (cn cc : Nat) (cs : List Int) (LL : List It), s1 = .int .u64 n' ∧ s17 = .slice ca cn cc ∧ s18 = .slice ma mn mc ∧ 0 ≤ n' ∧ n' < 18446744073709551616 ∧ cn ≤ cc ∧ Hid (okB 256 key') ∧ Hid (Own w wx (.ints p .u8 22 32 key' :: LL)) ∧ Hid ((⟨ma, mn, mc, ms⟩ : Bs).ok wx) ∧ Hid ((⟨ca, cn, cc, cs⟩ : Bs).ok wx))
  case first =>
    have hl3 : len ≤ 3000 := by omega
    have hL3 : L0 ≤ 3000 := by omega
    have hl4 : len + 1 ≤ 3000 := by omega
    have hi3 : i ≤ 3000 := by omega
    have h6 : how % 6 = 0 ∨ how % 6 = 1 ∨ how % 6 = 2 ∨ how % 6 = 3 ∨ how % 6 = 4 ∨ how % 6 = 5 := by omega
    rcases h6 with h6 | h6 | h6 | h6 | h6 | h6
    · rw [h6]
      clear h6
      obtain ⟨g, rfl, -⟩ := HK.out.addr (.next _ (.here _)) (by omega)
      clear HMK HCK
      go_wp2_with (first | (refine wpList_get_sl rfl HK.out _ _ rfl _ _ rfl _ _ _ _ _ (by first | exact Has.here _ | exact Has.next _ (Has.here _) | exact Has.next _ (Has.next _ (Has.here _)) | exact Has.next _ (Has.next _ (Has.next _ (Has.here _))) | exact Has.next _ (Has.next _ (Has.next _ (Has.next _ (Has.here _)))) | exact Has.next _ (Has.next _ (Has.next _ (Has.next _ (Has.next _ (Has.here _))))) | exact Has.next _ (Has.next _ (Has.next _ (Has.next _ (Has.next _ (Has.next _ (Has.here _)))))) | exact Has.next _ (Has.next _ (Has.next _ (Has.next _ (Has.next _ (Has.next _ (Has.next _ (Has.here _))))))) | exact Has.next _ (Has.next _ (Has.next _ (Has.next _ (Has.next _ (Has.next _ (Has.next _ (Has.next _ (Has.here _)))))))) | exact Has.next _ (Has.next _ (Has.next _ (Has.next _ (Has.next _ (Has.next _ (Has.next _ (Has.next _ (Has.next _ (Has.here _)))))))))) rfl (by omega) ?_) | (refine wpList_put_sl rfl HK.out _ _ _ rfl _ _ _ _ rfl rfl _ _ _ _ (by first | exact Upd.here _ | exact Upd.next _ (Upd.here _) | exact Upd.next _ (Upd.next _ (Upd.here _)) | exact Upd.next _ (Upd.next _ (Upd.next _ (Upd.here _))) | exact Upd.next _ (Upd.next _ (Upd.next _ (Upd.next _ (Upd.here _)))) | exact Upd.next _ (Upd.next _ (Upd.next _ (Upd.next _ (Upd.next _ (Upd.here _))))) | exact Upd.next _ (Upd.next _ (Upd.next _ (Upd.next _ (Upd.next _ (Upd.next _ (Upd.here _)))))) | exact Upd.next _ (Upd.next _ (Upd.next _ (Upd.next _ (Upd.next _ (Upd.next _ (Upd.next _ (Upd.here _))))))) | exact Upd.next _ (Upd.next _ (Upd.next _ (Upd.next _ (Upd.next _ (Upd.next _ (Upd.next _ (Upd.next _ (Upd.here _)))))))) | exact Upd.next _ (Upd.next _ (Upd.next _ (Upd.next _ (Upd.next _ (Upd.next _ (Upd.next _ (Upd.next _ (Upd.next _ (Upd.here _)))))))))) (by omega) (by kernel_rfl) ?_; (intro wn hkn; have HKN := Lib.hid hkn; clear hkn; clear HK; have HK := HKN; clear HKN)))
      go_meet
      case rel => exact ⟨n, key, a2, len, c2, xs, _, L0, c1, _, _, rfl, rfl, rfl, hn0, HN1.out, HCC.out, HKO, Lib.hid (HK.out.front (.next _ (.next _ (.here _)))), Lib.hid (own_bs HK.out (.here _) HOX.out hl3), Lib.hid (own_bs HK.out (.next _ (.here _)) (ok_set HSO.out _ _ (u8_bits _ _ _).1 (u8_bits _ _ _).2) hL3)⟩
    · rw [h6]
      clear h6
      have hic : i ≤ c1 := Nat.le_trans (Nat.le_of_lt hil) HCC.out
      have hici : (i : Int) ≤ c1 := by omega
      go_wp2_with fail
      go_meet
      case rel => exact ⟨n, key, a2, len, c2, xs, a1, i, c1, S1.take i, _, rfl, rfl, rfl, hn0, HN1.out, hic, HKO, Lib.hid (HK.out.front (.next _ (.next _ (.here _)))), HMK, Lib.hid ⟨rdfront HCK.out.1 i (Nat.le_of_lt hil), okB_take HSO.out i, HCK.out.2.2.1, hi3⟩⟩
    · rw [h6]
      clear h6
      have hq0 : 0 ≤ at_ % 32 := Int.emod_nonneg _ (by decide)
      have hq1 : at_ % 32 < 32 := Int.emod_lt_of_pos _ (by decide)
      clear HMK HCK
      go_wp2_with (first | (refine wpList_get_int rfl HK.out _ _ rfl _ _ rfl _ _ _ _ (by first | exact Has.here _ | exact Has.next _ (Has.here _) | exact Has.next _ (Has.next _ (Has.here _)) | exact Has.next _ (Has.next _ (Has.next _ (Has.here _))) | exact Has.next _ (Has.next _ (Has.next _ (Has.next _ (Has.here _)))) | exact Has.next _ (Has.next _ (Has.next _ (Has.next _ (Has.next _ (Has.here _))))) | exact Has.next _ (Has.next _ (Has.next _ (Has.next _ (Has.next _ (Has.next _ (Has.here _)))))) | exact Has.next _ (Has.next _ (Has.next _ (Has.next _ (Has.next _ (Has.next _ (Has.next _ (Has.here _))))))) | exact Has.next _ (Has.next _ (Has.next _ (Has.next _ (Has.next _ (Has.next _ (Has.next _ (Has.next _ (Has.here _)))))))) | exact Has.next _ (Has.next _ (Has.next _ (Has.next _ (Has.next _ (Has.next _ (Has.next _ (Has.next _ (Has.next _ (Has.here _)))))))))) rfl (by omega) ?_) | (refine wpList_put_int rfl HK.out _ _ _ rfl _ _ _ _ rfl rfl _ _ _ (by first | exact Upd.here _ | exact Upd.next _ (Upd.here _) | exact Upd.next _ (Upd.next _ (Upd.here _)) | exact Upd.next _ (Upd.next _ (Upd.next _ (Upd.here _))) | exact Upd.next _ (Upd.next _ (Upd.next _ (Upd.next _ (Upd.here _)))) | exact Upd.next _ (Upd.next _ (Upd.next _ (Upd.next _ (Upd.next _ (Upd.here _))))) | exact Upd.next _ (Upd.next _ (Upd.next _ (Upd.next _ (Upd.next _ (Upd.next _ (Upd.here _)))))) | exact Upd.next _ (Upd.next _ (Upd.next _ (Upd.next _ (Upd.next _ (Upd.next _ (Upd.next _ (Upd.here _))))))) | exact Upd.next _ (Upd.next _ (Upd.next _ (Upd.next _ (Upd.next _ (Upd.next _ (Upd.next _ (Upd.next _ (Upd.here _)))))))) | exact Upd.next _ (Upd.next _ (Upd.next _ (Upd.next _ (Upd.next _ (Upd.next _ (Upd.next _ (Upd.next _ (Upd.next _ (Upd.here _)))))))))) (by omega) (by kernel_rfl) ?_; (intro wn hkn; have HKN := Lib.hid hkn; clear hkn; clear HK; have HK := HKN; clear HKN)))
      go_meet
      case rel => exact ⟨n, _, a2, len, c2, xs, a1, L0, c1, S1, _, rfl, rfl, rfl, hn0, HN1.out, HCC.out, Lib.hid (ok_set HKO.out _ _ (u8_bits _ _ _).1 (u8_bits _ _ _).2), Lib.hid (HK.out.front (.next _ (.next _ (.here _)))), Lib.hid (own_bs HK.out (.here _) HOX.out hl3), Lib.hid (own_bs HK.out (.next _ (.here _)) HSO.out hL3)⟩
    · rw [h6]
      clear h6
      have hq0 : 0 ≤ at_ % 57 := Int.emod_nonneg _ (by decide)
      have hq1 : at_ % 57 < 57 := Int.emod_lt_of_pos _ (by decide)
      go_wp2_with fail
      go_meet
      case rel => exact ⟨_, key, a2, len, c2, xs, a1, L0, c1, S1, _, rfl, rfl, rfl, (u64_bits _ _ _).1, (u64_bits _ _ _).2, HCC.out, HKO, Lib.hid (HK.out.front (.next _ (.next _ (.here _)))), HMK, HCK⟩
    · rw [h6]
      clear h6
      clear HMK HCK
      go_wp2_with (at_builtin; refine wpList_push_own rfl HK.out _ _ 24 rfl 5 (.int .u8 0) 1 Try.underlying24 (by kernel_rfl) rfl .u8 _ _ _ _ rfl (by first | exact Del.here _ | exact Del.next _ (Del.here _) | exact Del.next _ (Del.next _ (Del.here _)) | exact Del.next _ (Del.next _ (Del.next _ (Del.here _))) | exact Del.next _ (Del.next _ (Del.next _ (Del.next _ (Del.here _)))) | exact Del.next _ (Del.next _ (Del.next _ (Del.next _ (Del.next _ (Del.here _))))) | exact Del.next _ (Del.next _ (Del.next _ (Del.next _ (Del.next _ (Del.next _ (Del.here _)))))) | exact Del.next _ (Del.next _ (Del.next _ (Del.next _ (Del.next _ (Del.next _ (Del.next _ (Del.here _))))))) | exact Del.next _ (Del.next _ (Del.next _ (Del.next _ (Del.next _ (Del.next _ (Del.next _ (Del.next _ (Del.here _)))))))) | exact Del.next _ (Del.next _ (Del.next _ (Del.next _ (Del.next _ (Del.next _ (Del.next _ (Del.next _ (Del.next _ (Del.here _)))))))))) _ _ _ rfl (by unfold maxLen; omega) (by omega) ?_)
      intro a3 c3 w4 hk
      clear HK
      have HK := Lib.hid hk
      clear hk
      go_wp2_with fail
      go_meet
      case rel => exact ⟨n, key, a3, len + 1, c3, xs ++ [x], a1, L0, c1, S1, _, rfl, rfl, rfl, hn0, HN1.out, HCC.out, HKO, Lib.hid (HK.out.front (.next _ (.next _ (.here _)))), Lib.hid (own_bs HK.out (.here _) (ok_app HOX.out (fun y hy => by rw [List.mem_singleton] at hy; rw [hy]; exact ⟨hx0, hx1⟩)) hl4), Lib.hid (own_bs HK.out (.next _ (.here _)) HSO.out hL3)⟩
    · rw [h6]
      clear h6
      go_wp2_with fail
      go_meet
      case rel => exact ⟨n, key, a2, len, c2, xs, rd, rlen, rcap, ts, _, rfl, rfl, rfl, hn0, HN1.out, HSC.out, HKO, Lib.hid (HK.out.front (.next _ (.next _ (.here _)))), HMK, Lib.hid (HBR.out _ HK.out.grown)⟩
  case rest =>
    obtain ⟨n', key', ma, mn, mc, ms, ca, cn, cc, cs, LL, rfl, rfl, rfl, hn0', hn1', hcc, HKO', HK', HMB, HCB⟩ := hcut
    clear HK HKO HMK HCK HCC HKL HSL HSO HS1
    have HK := HK'
    have HKL := Lib.hid (HK'.out.len (.here _))
    have HN0' := Lib.hid hn0'
    have HN1' := Lib.hid hn1'
    have HCC := Lib.hid hcc
    clear HK' hn0' hn1' hcc
    obtain ⟨b, hb⟩ : ∃ b, b = oB key' n' ms cs := ⟨_, rfl⟩
    obtain ⟨X, hX⟩ : ∃ X, X = oX key' n' ms cs := ⟨_, rfl⟩
    have HBX := Lib.hid hb
    have HX := Lib.hid hX
    clear hb hX
    go_wp2_with (refine wpList_get_row rfl HK.out 22 _ rfl _ rfl _ _ _ _ (by first | exact Has.here _ | exact Has.next _ (Has.here _) | exact Has.next _ (Has.next _ (Has.here _)) | exact Has.next _ (Has.next _ (Has.next _ (Has.here _))) | exact Has.next _ (Has.next _ (Has.next _ (Has.next _ (Has.here _)))) | exact Has.next _ (Has.next _ (Has.next _ (Has.next _ (Has.next _ (Has.here _))))) | exact Has.next _ (Has.next _ (Has.next _ (Has.next _ (Has.next _ (Has.next _ (Has.here _)))))) | exact Has.next _ (Has.next _ (Has.next _ (Has.next _ (Has.next _ (Has.next _ (Has.next _ (Has.here _))))))) | exact Has.next _ (Has.next _ (Has.next _ (Has.next _ (Has.next _ (Has.next _ (Has.next _ (Has.next _ (Has.here _)))))))) | exact Has.next _ (Has.next _ (Has.next _ (Has.next _ (Has.next _ (Has.next _ (Has.next _ (Has.next _ (Has.next _ (Has.here _)))))))))) _ Try.underlying22 rfl (by kernel_rfl) ?_)
    have q4 := open_all key' n' ⟨ma, mn, mc, ms⟩ ⟨ca, cn, cc, cs⟩ _ HKL.out HKO'.out HN0'.out HN1'.out HMB.out HCB.out HCC.out
    rw [show oB key' n' (⟨ma, mn, mc, ms⟩ : Bs).xs (⟨ca, cn, cc, cs⟩ : Bs).xs = b from HBX.out.symm, show oX key' n' (⟨ma, mn, mc, ms⟩ : Bs).xs (⟨ca, cn, cc, cs⟩ : Bs).xs = X from HX.out.symm] at q4
    refine q4.mono ?_
    clear q4
    rintro e w5 ⟨ra, rk, rc, rfl, hr1, hg⟩
    have hkb := HK.out.grow hg
    have HMB2 := Lib.hid (Bs.ok_keep HMB.out hg)
    have HCB2 := Lib.hid (Bs.ok_keep HCB.out hg)
    have HR1 := Lib.hid hr1
    clear hg hr1 HMB HCB
    clear HK
    have HK := Lib.hid hkb
    clear hkb
    go_wp2_with (refine wpList_get_row rfl HK.out 22 _ rfl _ rfl _ _ _ _ (by first | exact Has.here _ | exact Has.next _ (Has.here _) | exact Has.next _ (Has.next _ (Has.here _)) | exact Has.next _ (Has.next _ (Has.next _ (Has.here _))) | exact Has.next _ (Has.next _ (Has.next _ (Has.next _ (Has.here _)))) | exact Has.next _ (Has.next _ (Has.next _ (Has.next _ (Has.next _ (Has.here _))))) | exact Has.next _ (Has.next _ (Has.next _ (Has.next _ (Has.next _ (Has.next _ (Has.here _)))))) | exact Has.next _ (Has.next _ (Has.next _ (Has.next _ (Has.next _ (Has.next _ (Has.next _ (Has.here _))))))) | exact Has.next _ (Has.next _ (Has.next _ (Has.next _ (Has.next _ (Has.next _ (Has.next _ (Has.next _ (Has.here _)))))))) | exact Has.next _ (Has.next _ (Has.next _ (Has.next _ (Has.next _ (Has.next _ (Has.next _ (Has.next _ (Has.next _ (Has.here _)))))))))) _ Try.underlying22 rfl (by kernel_rfl) ?_)
    have q4 := ropen_all key' n' ⟨ma, mn, mc, ms⟩ ⟨ca, cn, cc, cs⟩ _ HKL.out HKO'.out HN0'.out HN1'.out HMB2.out HCB2.out HCC.out
    rw [show oB key' n' (⟨ma, mn, mc, ms⟩ : Bs).xs (⟨ca, cn, cc, cs⟩ : Bs).xs = b from HBX.out.symm, show oX key' n' (⟨ma, mn, mc, ms⟩ : Bs).xs (⟨ca, cn, cc, cs⟩ : Bs).xs = X from HX.out.symm] at q4
    refine q4.mono ?_
    clear q4
    rintro e w6 ⟨qa, qk, qc, rfl, hr2, hg⟩
    have hkb := HK.out.grow hg
    have HR2 := Lib.hid (HR1.out.kept hg)
    have HR3 := Lib.hid hr2
    clear hg hr2 HR1 HMB2 HCB2 HBX HX
    clear HK
    have HK := Lib.hid hkb
    clear hkb
    cases b with
    | true =>
      rw [show oE true = 0 from rfl]
      go_wp2_with (first | (refine wpList_run rfl (run_str rfl Try.underlying24 Try.underlying5 Try.underlying9 rfl HR2.out) ?_) | (refine wpList_run rfl (run_str rfl Try.underlying24 Try.underlying5 Try.underlying9 rfl HR3.out) ?_))
      exact bodyPost_ret (results_tmp rfl _ _ _) rfl ⟨rfl, HK.out.grown⟩
    | false =>
      rw [show oE false = 21 from rfl]
      go_wp2_with (first | (refine wpList_run rfl (run_str rfl Try.underlying24 Try.underlying5 Try.underlying9 rfl HR2.out) ?_) | (refine wpList_run rfl (run_str rfl Try.underlying24 Try.underlying5 Try.underlying9 rfl HR3.out) ?_))
      exact bodyPost_ret (results_tmp rfl _ _ _) rfl ⟨rfl, HK.out.grown⟩
end Go.Proofs.Ythhijeokeljcjaa
