/- ShaLengths, walked. -/
import Derived.Test.YtncdbgpmhkiedaaShaO
import Derived.Test.YtncdbgpmhkiedaaShaG
import Derived.Test.YtncdbgpmhkiedaaShaL
namespace Go.Proofs.Ytncdbgpmhkiedaa
set_option linter.unusedVariables false
set_option linter.unusedSimpArgs false
open Go.RowKit Go.Proofs.YtncdbgpmhkiedaaL

def lensL : List Int := [0, 54, 55, 56, 57, 63, 64, 65, 110, 111, 112, 113, 118, 119, 120, 121, 126, 127, 128, 129, 239, 240, 255, 256]
theorem lensL_le (i : Nat) : 0 ≤ lensL.getD i 0 ∧ lensL.getD i 0 < 257 := ok_getD (by decide) (by unfold okB lensL; decide) i

set_option maxHeartbeats 8000000 in
set_option maxRecDepth 100000 in
theorem lengths_walk (n c : Int) (w : World) (hn0 : 0 ≤ n) (hn1 : n < 256) (hc0 : 0 ≤ c) (hc1 : c < 256) :
    Calls Try.prog 4 #[.int .u8 n, .int .u8 c] w fun e w' => e = .returned (.bool true) ∧ w.grownBy w' none := by
  have HK := Lib.hid (own_start w)
  go_enter Try.func4, Try.ntmps4
  go_wp2_with fail
  refine (known_any _).mono ?_
  rintro e w1 ⟨rfl, hg⟩
  have hk := HK.out.grow hg
  clear hg
  clear HK
  have HK := Lib.hid hk
  clear hk
  have hi0 : 0 ≤ n % 24 := by omega
  have hi1 : n % 24 < 24 := by omega
  obtain ⟨p, hp⟩ : ∃ p, w1.heap.size = p := ⟨_, rfl⟩
  have hkb := HK.out.ints .i64 3 24 lensL rfl hp
  have HKB := Lib.hid hkb
  have HP := Lib.hid hp
  clear hkb hp
  go_wp2_with (refine wpList_stop 18 rfl ?_)
  rw [HP.out]
  rintro wn hwn
  have hkb : Own w wn [.ints p .i64 3 24 lensL] := by rw [hwn]; exact HKB.out
  clear HK
  have HK := Lib.hid hkb
  clear hkb
  clear hwn HKB HP
  obtain ⟨LL, hLL⟩ : ∃ LL, LL = lensL := ⟨_, rfl⟩
  have hv := lensL_le (n % 24).toNat
  rw [← hLL] at HK hv
  clear hLL
  obtain ⟨N, hN⟩ : ∃ N : Nat, LL.getD (n % 24).toNat 0 = N := ⟨(LL.getD (n % 24).toNat 0).toNat, by omega⟩
  have hN1 : N ≤ 256 := by omega
  have HN := Lib.hid hN
  clear hN hv
  go_wp2_with (first | (refine wpList_get_int rfl HK.out _ _ rfl _ _ rfl _ _ _ _ (by first | exact Has.here _ | exact Has.next _ (Has.here _) | exact Has.next _ (Has.next _ (Has.here _)) | exact Has.next _ (Has.next _ (Has.next _ (Has.here _))) | exact Has.next _ (Has.next _ (Has.next _ (Has.next _ (Has.here _)))) | exact Has.next _ (Has.next _ (Has.next _ (Has.next _ (Has.next _ (Has.here _))))) | exact Has.next _ (Has.next _ (Has.next _ (Has.next _ (Has.next _ (Has.next _ (Has.here _)))))) | exact Has.next _ (Has.next _ (Has.next _ (Has.next _ (Has.next _ (Has.next _ (Has.next _ (Has.here _))))))) | exact Has.next _ (Has.next _ (Has.next _ (Has.next _ (Has.next _ (Has.next _ (Has.next _ (Has.next _ (Has.here _)))))))) | exact Has.next _ (Has.next _ (Has.next _ (Has.next _ (Has.next _ (Has.next _ (Has.next _ (Has.next _ (Has.next _ (Has.here _)))))))))) rfl (by omega) ?_) | (refine wpList_stop 19 rfl ?_))
  rw [show LL[(n % 24).toNat]?.getD 0 = (N : Int) from HN.out]
  rintro w' rfl
  clear HN
  go_wp2_with (refine Go.Proofs.YtncdbgpmhkiedaaL.wpList_make_own rfl HK.out _ _ 22 rfl 5 .u8 1 Try.underlying22 (by kernel_rfl) N _ rfl rfl rfl (by omega) (by omega) ?_)
  intro wn q hk
  clear HK
  have HK := Lib.hid hk
  clear hk
  have hN2 : (N : Int) ≤ 256 := by omega
  go_wp2_with fail
  go_loopw [7] (fun v wr => ∃ (j : Nat) (xs : List Int), j ≤ N ∧ v = .int .i64 j ∧ Hid (okB 256 xs) ∧ Hid (Own w wr [.sl 5 .u8 (some ⟨q, 0, none⟩) N N xs, .ints p .i64 3 24 LL])) (fun v _ => N - (intOf v).toNat)
  case atStart => exact ⟨0, _, by omega, rfl, Lib.hid (ok_rep (by decide) N), HK⟩
  case round =>
    obtain ⟨j, xs, hj, rfl, HX, HK'⟩ := hrel
    clear HK
    have HK := HK'
    clear HK'
    by_cases hlt : j < N
    · have hlt' : (j : Int) < N := by omega
      have hj0 : (0 : Int) ≤ j := by omega
      go_wp2_with (refine wpList_put_sl rfl HK.out _ _ _ rfl _ _ _ _ rfl rfl _ _ _ _ (by first | exact Upd.here _ | exact Upd.next _ (Upd.here _) | exact Upd.next _ (Upd.next _ (Upd.here _)) | exact Upd.next _ (Upd.next _ (Upd.next _ (Upd.here _))) | exact Upd.next _ (Upd.next _ (Upd.next _ (Upd.next _ (Upd.here _)))) | exact Upd.next _ (Upd.next _ (Upd.next _ (Upd.next _ (Upd.next _ (Upd.here _))))) | exact Upd.next _ (Upd.next _ (Upd.next _ (Upd.next _ (Upd.next _ (Upd.next _ (Upd.here _)))))) | exact Upd.next _ (Upd.next _ (Upd.next _ (Upd.next _ (Upd.next _ (Upd.next _ (Upd.next _ (Upd.here _))))))) | exact Upd.next _ (Upd.next _ (Upd.next _ (Upd.next _ (Upd.next _ (Upd.next _ (Upd.next _ (Upd.next _ (Upd.here _)))))))) | exact Upd.next _ (Upd.next _ (Upd.next _ (Upd.next _ (Upd.next _ (Upd.next _ (Upd.next _ (Upd.next _ (Upd.next _ (Upd.here _)))))))))) (by omega) (by kernel_rfl) ?_; (intro wn hkn; have HKN := Lib.hid hkn; clear hkn; clear HK; have HK := HKN; clear HKN))
      refine ⟨⟨j + 1, _, by omega, by go_num, ?_, HK⟩, ?_⟩
      · exact Lib.hid (ok_set HX.out _ _ (by omega) (by omega))
      · simp [intOf]; omega
    · have hjN : j = N := by omega
      subst hjN
      clear hlt hj
      have HB := Lib.hid (fun (w' : World) (hk : Own w w' [.sl 5 .u8 (some ⟨q, 0, none⟩) j j xs, .ints p .i64 3 24 LL]) => (show (⟨some ⟨q, 0, none⟩, j, j, xs⟩ : Bs).ok w' from ⟨hk.rdsl (.here _), HX.out, (fun h => by cases h), (show j ≤ 3000 by omega)⟩))
      go_wp2_with fail
      obtain ⟨S, hS⟩ : ∃ S, S = sum32 xs := ⟨_, rfl⟩
      obtain ⟨T, hT⟩ : ∃ T, T = sum64 xs := ⟨_, rfl⟩
      have HSL := Lib.hid (show S.length = 32 by rw [hS, length_sum32])
      have HTL := Lib.hid (show T.length = 64 by rw [hT, length_sum64])
      have HS := Lib.hid hS
      have HT := Lib.hid hT
      clear hS hT
      obtain ⟨sb, hsb⟩ : ∃ sb, wr.heap.size = sb := ⟨_, rfl⟩
      have hkb := HK.out.blk (.cells #[Value.slice (some ⟨q, 0, none⟩) j j] 22 (0, 0)) hsb
      rw [hsb]
      clear hsb
      generalize wr.alloc (.cells #[Value.slice (some ⟨q, 0, none⟩) j j] 22 (0, 0)) = wn at hkb ⊢
      clear HK
      have HK := Lib.hid hkb
      clear hkb
      refine (sum256_row _ [⟨some ⟨q, 0, none⟩, j, j, xs⟩] 1 _ (HK.out.at (.here _)) (fun b hb => by rw [List.mem_singleton] at hb; subst hb; exact HB.out _ (HK.out.sub (List.Sublist.cons _ (List.Sublist.refl _)))) rfl (by decide)).mono ?_
      rintro e wn ⟨rfl, hg⟩
      rw [show catB [(⟨some ⟨q, 0, none⟩, j, j, xs⟩ : Bs)] = xs from List.append_nil _, ← HS.out]
      have hkb := (HK.out.sub (List.Sublist.cons _ (List.Sublist.refl _))).grow hg
      clear hg
      clear HK
      have HK := Lib.hid hkb
      clear hkb
      go_wp2_with fail
      refine (rsum256_any ⟨some ⟨q, 0, none⟩, j, j, xs⟩ _ (HB.out _ HK.out)).mono ?_
      rintro e wn ⟨rfl, hg⟩
      have hk := HK.out.grow hg
      clear hg
      clear HK
      have HK := Lib.hid hk
      clear hk
      rw [← HS.out]
      go_wp2_with (refine wpList_eql rfl 25 _ _ _ rfl 32 _ .u8 Try.underlying25 Try.underlying5 (by kernel_rfl) (by kernel_rfl) S S rfl rfl HSL.out HSL.out true (by simp) ?_)
      obtain ⟨sb, hsb⟩ : ∃ sb, wn.heap.size = sb := ⟨_, rfl⟩
      have hkb := HK.out.blk (.cells #[Value.slice (some ⟨q, 0, none⟩) j j] 22 (0, 0)) hsb
      rw [hsb]
      clear hsb
      generalize wn.alloc (.cells #[Value.slice (some ⟨q, 0, none⟩) j j] 22 (0, 0)) = wn at hkb ⊢
      clear HK
      have HK := Lib.hid hkb
      clear hkb
      refine (sum512_row _ [⟨some ⟨q, 0, none⟩, j, j, xs⟩] 1 _ (HK.out.at (.here _)) (fun b hb => by rw [List.mem_singleton] at hb; subst hb; exact HB.out _ (HK.out.sub (List.Sublist.cons _ (List.Sublist.refl _)))) rfl (by decide)).mono ?_
      rintro e wn ⟨rfl, hg⟩
      rw [show catB [(⟨some ⟨q, 0, none⟩, j, j, xs⟩ : Bs)] = xs from List.append_nil _, ← HT.out]
      have hkb := (HK.out.sub (List.Sublist.cons _ (List.Sublist.refl _))).grow hg
      clear hg
      clear HK
      have HK := Lib.hid hkb
      clear hkb
      go_wp2_with fail
      refine (rsum512_any ⟨some ⟨q, 0, none⟩, j, j, xs⟩ _ (HB.out _ HK.out)).mono ?_
      rintro e wn ⟨rfl, hg⟩
      have hk := HK.out.grow hg
      clear hg
      clear HK
      have HK := Lib.hid hk
      clear hk
      rw [← HT.out]
      go_wp2_with (refine wpList_eql rfl 27 _ _ _ rfl 64 _ .u8 Try.underlying27 Try.underlying5 (by kernel_rfl) (by kernel_rfl) T T rfl rfl HTL.out HTL.out true (by simp) ?_)
      exact bodyPost_ret (results_tmp rfl _ _ _) rfl ⟨rfl, HK.out.grown⟩
end Go.Proofs.Ytncdbgpmhkiedaa
