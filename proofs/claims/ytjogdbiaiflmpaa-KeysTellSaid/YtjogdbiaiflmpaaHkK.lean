/- The reference's HMAC, walked. -/
import Derived.Test.YtjogdbiaiflmpaaHkJ
namespace Go.Proofs.Ytjogdbiaiflmpaa
set_option linter.unusedVariables false
set_option linter.unusedSimpArgs false
open Go.RowKit Go.Proofs.YtjogdbiaiflmpaaL

/-- The first j of a list turned by b, then noughts. -/
def xorZ (b : Int) (l : List Int) (j : Nat) : List Int := xorL b (l.take j) ++ zer (l.length - j)
theorem xorZ_0 (b : Int) (l : List Int) : xorZ b l 0 = zer l.length := by simp [xorZ, xorL]
theorem xorZ_all (b : Int) (l : List Int) : xorZ b l l.length = xorL b l := by simp [xorZ, zer]
theorem xorZ_next (b : Int) (l : List Int) (j : Nat) (h : j < l.length) : xorZ b l (j + 1) = (xorZ b l j).set j (bits .xor .u8 (l.getD j 0) b) := by
  have hl : (xorL b (l.take j)).length = j := by rw [length_xorL, List.length_take]; omega
  have hz : zer (l.length - j) = 0 :: zer (l.length - (j + 1)) := by
    rw [zer, zer, show l.length - j = (l.length - (j + 1)) + 1 by omega, List.replicate_succ]
  unfold xorZ
  rw [List.set_append_right _ _ (by omega), hl, Nat.sub_self, hz, List.set_cons_zero, List.take_succ_eq_append_getElem h, xorL, xorL, List.map_append, List.append_assoc]
  simp [h]
theorem length_xorZ (b : Int) (l : List Int) (j : Nat) (h : j ≤ l.length) : (xorZ b l j).length = l.length := by
  rw [xorZ, List.length_append, length_xorL, List.length_take, length_zer]; omega

set_option maxHeartbeats 8000000 in
set_option maxRecDepth 100000 in
theorem rmac_any (B C : Bs) (w : World) (hb : B.ok w) (hc : C.ok w) (hcl : C.len ≤ 2000) :
    Calls Try.prog 13 #[B.val, C.val] w fun e w' => e = .returned (.agg (encK .u8 (hmac B.xs C.xs))) ∧ w.grownBy w' none := by
  obtain ⟨ad, n, cap, xs⟩ := B
  obtain ⟨bd, bn, bcap, ys⟩ := C
  have HB := Lib.hid (fun (w' : World) (g : w.grownBy w' none) => Bs.ok_keep hb g)
  have HC := Lib.hid (fun (w' : World) (g : w.grownBy w' none) => Bs.ok_keep hc g)
  have hn3 : n ≤ 3000 := hb.2.2.2
  have hbn : bn ≤ 2000 := hcl
  have hxl : xs.length = n := hb.1.1
  have HXL := Lib.hid hxl
  have HYL := Lib.hid (show ys.length = bn from hc.1.1)
  have HOY := Lib.hid hc.2.1
  clear hb hc hcl
  show Calls Try.prog _ #[.slice ad n cap, .slice bd bn bcap] w fun e w' => e = .returned (.agg (encK .u8 (hmac xs ys))) ∧ w.grownBy w' none
  have HC1 := Lib.hid (fun (h : n ≤ 64) => show kcore xs = xs by rw [kcore, if_pos (by omega)])
  have HC2 := Lib.hid (fun (h : ¬ n ≤ 64) => show kcore xs = sum32 xs by rw [kcore, if_neg (by omega)])
  have hm : hmac xs ys = sum32 (xorL 92 (padTo (kcore xs)) ++ sum32 (xorL 54 (padTo (kcore xs)) ++ ys)) := rfl
  obtain ⟨kc, hkc⟩ : ∃ kc, kc = kcore xs := ⟨_, rfl⟩
  have hk64 : kc.length ≤ 64 := by rw [hkc]; exact length_kcore _
  rw [← hkc] at HC1 HC2 hm
  obtain ⟨l, hl⟩ : ∃ l, l = padTo kc := ⟨_, rfl⟩
  have HPL := Lib.hid (show l.length = 64 by rw [hl]; exact length_padTo hk64)
  rw [← hl] at hm
  have HLL := Lib.hid hl
  obtain ⟨S1, hS1⟩ : ∃ S1, S1 = sum32 (xorL 54 l ++ ys) := ⟨_, rfl⟩
  rw [← hS1] at hm
  obtain ⟨R, hR⟩ : ∃ R, R = sum32 (xorL 92 l ++ S1) := ⟨_, rfl⟩
  rw [← hR] at hm
  rw [hm]
  have HS1 := Lib.hid hS1
  have HR := Lib.hid hR
  have HSL := Lib.hid (show S1.length = 32 by rw [hS1, length_sum32])
  have HSO := Lib.hid (show okB 256 S1 by rw [hS1]; exact ok_sum32 _)
  have HRL := Lib.hid (show R.length = 32 by rw [hR, length_sum32])
  have HO1 := Lib.hid (show okB 256 (xorL 54 l) from ok_xorL _ _)
  have HO2 := Lib.hid (show okB 256 (xorL 92 l) from ok_xorL _ _)
  have HL1 := Lib.hid (show (xorL 54 l).length = 64 by rw [length_xorL]; exact HPL.out)
  have HL2 := Lib.hid (show (xorL 92 l).length = 64 by rw [length_xorL]; exact HPL.out)
  clear hkc hl hS1 hR hm hxl hk64
  have hni : (n : Int) ≤ 3000 := by omega
  have HK := Lib.hid (own_start w)
  go_enter Try.func13, Try.ntmps13
  go_wp2_with ((refine wpList_new_ints rfl HK.out _ rfl .u8 26 32 (zer 32) (length_zer _) (fun w => by go_simp; first | exact ⟨rfl, rfl⟩ | kernel_rfl) ?_))
  intro wn p4 hkn
  have HKN := Lib.hid hkn
  clear hkn HK
  have HK := HKN
  clear HKN
  go_wp2_with ((refine wpList_new_ints rfl HK.out _ rfl .u8 54 64 (zer 64) (length_zer _) (fun w => by go_simp; first | exact ⟨rfl, rfl⟩ | kernel_rfl) ?_))
  intro wn p5 hkn
  have HKN := Lib.hid hkn
  clear hkn HK
  have HK := HKN
  clear HKN
  go_upto_if 13 with fail
  generalize hbb : decide (64 < (n : Int)) = bb
  have HBB := Lib.hid hbb
  clear hbb
  go_cut [] from 18 (fun wx => Hid (Own w wx [.ints p5 .u8 54 64 l, .ints p4 .u8 26 32 (zer 32)]))
  case first =>
    cases bb with
    | true =>
      have h64 : ¬ n ≤ 64 := by have := of_decide_eq_true HBB.out; omega
      have HKC := Lib.hid (HC2.out h64)
      clear HBB h64
      go_wp2_with fail
      refine (rsum256_any ⟨ad, n, cap, xs⟩ _ (HB.out _ HK.out.grown)).mono ?_
      rintro e w4 ⟨rfl, hg⟩
      have hkb := HK.out.grow hg
      clear hg
      clear HK
      have HK := Lib.hid hkb
      clear hkb
      rw [show sum32 (⟨ad, n, cap, xs⟩ : Bs).xs = kc from HKC.out.symm]
      have HSL' := Lib.hid (show kc.length = 32 by rw [HKC.out, length_sum32])
      go_wp2_with ((refine wpList_new_ints rfl HK.out _ rfl .u8 26 32 (zer 32) (length_zer _) (fun w => by go_simp; first | exact ⟨rfl, rfl⟩ | kernel_rfl) ?_))
      intro wn p6 hkn
      have HKN := Lib.hid hkn
      clear hkn HK
      have HK := HKN
      clear HKN
      go_upto_region 4 with (refine wpList_put_row rfl HK.out 26 _ _ rfl _ _ kc rfl rfl _ _ _ (by first | exact Upd.here _ | exact Upd.next _ (Upd.here _) | exact Upd.next _ (Upd.next _ (Upd.here _)) | exact Upd.next _ (Upd.next _ (Upd.next _ (Upd.here _))) | exact Upd.next _ (Upd.next _ (Upd.next _ (Upd.next _ (Upd.here _)))) | exact Upd.next _ (Upd.next _ (Upd.next _ (Upd.next _ (Upd.next _ (Upd.here _))))) | exact Upd.next _ (Upd.next _ (Upd.next _ (Upd.next _ (Upd.next _ (Upd.next _ (Upd.here _)))))) | exact Upd.next _ (Upd.next _ (Upd.next _ (Upd.next _ (Upd.next _ (Upd.next _ (Upd.next _ (Upd.here _))))))) | exact Upd.next _ (Upd.next _ (Upd.next _ (Upd.next _ (Upd.next _ (Upd.next _ (Upd.next _ (Upd.next _ (Upd.here _)))))))) | exact Upd.next _ (Upd.next _ (Upd.next _ (Upd.next _ (Upd.next _ (Upd.next _ (Upd.next _ (Upd.next _ (Upd.next _ (Upd.here _)))))))))) (by exact HSL'.out) (by kernel_rfl) ?_; (intro wn hkn; have HKN := Lib.hid hkn; clear hkn; clear HK; have HK := HKN; clear HKN))
      have hk1 := HK.out.front (.next _ (.here _))
      clear HK
      have HK := Lib.hid hk1
      clear hk1
      refine wp_region_sep [[.ints p5 .u8 54 64 (zer 64)]] [.ints p6 .u8 26 32 kc, .ints p4 .u8 26 32 (zer 32)] [(2, [], [3])] [2] 3 (by kernel_rfl) (by kernel_rfl) (w0 := w) HK.out ?_
      (try simp only [Act.put, Act.eval, List.setIfInBounds_toArray, List.set_cons_zero, List.set_cons_succ, Array.getD_eq_getD_getElem?, List.getElem?_toArray, List.getElem?_cons_succ, List.getElem?_cons_zero, Option.getD_some, Nat.reduceAdd, List.nil_append, List.cons_append, En.get])
      (repeat (first | (refine fs_skip rfl (fun f => rfl) ?_; (try simp only [Act.put, Act.eval, List.setIfInBounds_toArray, List.set_cons_zero, List.set_cons_succ, Array.getD_eq_getD_getElem?, List.getElem?_toArray, List.getElem?_cons_succ, List.getElem?_cons_zero, Option.getD_some, Nat.reduceAdd, List.nil_append, List.cons_append, En.get])) | (refine fs_move _ rfl rfl (fun f => rfl) rfl ?_ ?_; ((first | exact fun _ _ _ => rfl | exact fun f f' hcg => hcg _ (by kernel_rfl) | (intro f f' hcg; rw [hcg]; kernel_rfl) | (intro f f' hcg; rw [hcg, hcg]; (kernel_rfl; kernel_rfl)) | exact trivial)); (try simp only [Act.put, Act.eval, List.setIfInBounds_toArray, List.set_cons_zero, List.set_cons_succ, Array.getD_eq_getD_getElem?, List.getElem?_toArray, List.getElem?_cons_succ, List.getElem?_cons_zero, Option.getD_some, Nat.reduceAdd, List.nil_append, List.cons_append, En.get])) | (refine fs_assign _ rfl rfl (fun f => rfl) rfl ?_ ?_; ((first | exact fun _ _ _ => rfl | exact fun f f' hcg => hcg _ (by kernel_rfl) | (intro f f' hcg; rw [hcg]; kernel_rfl) | (intro f f' hcg; rw [hcg, hcg]; (kernel_rfl; kernel_rfl)) | exact trivial)); (try simp only [Act.put, Act.eval, List.setIfInBounds_toArray, List.set_cons_zero, List.set_cons_succ, Array.getD_eq_getD_getElem?, List.getElem?_toArray, List.getElem?_cons_succ, List.getElem?_cons_zero, Option.getD_some, Nat.reduceAdd, List.nil_append, List.cons_append, En.get])) | (fail) | (refine fs_pure rfl (fun f => rfl) rfl ?_ ?_ ?_ ?_; (rotate_left; (intro f w1; (skip); go_simp; (first | done | with_reducible rfl)); ((first | exact fun _ _ _ => rfl | exact fun f f' hcg => hcg _ (by kernel_rfl) | (intro f f' hcg; rw [hcg]; kernel_rfl) | (intro f f' hcg; rw [hcg, hcg]; (kernel_rfl; kernel_rfl)) | exact trivial)); (try simp only [Act.put, Act.eval, List.setIfInBounds_toArray, List.set_cons_zero, List.set_cons_succ, Array.getD_eq_getD_getElem?, List.getElem?_toArray, List.getElem?_cons_succ, List.getElem?_cons_zero, Option.getD_some, Nat.reduceAdd, List.nil_append, List.cons_append, En.get])))))
      refine fs_list rfl (fun f => rfl) (.res (fun _ v it => it = [.ints p5 .u8 54 64 l])) (fun f => ⟨_, rfl, Nat.le_of_ble_eq_true rfl⟩) ?_ (fun _ _ _ => rfl) ?_
      · intro f lof w1 Lf HF HK1 Q' hQ
        clear HF
        (try simp only [itms, itm, usesOf, readsOf, takesOf, List.find?, Nat.reduceBEq, List.flatMap_cons, List.flatMap_nil, Nat.reduceLT, if_true, if_false, Nat.reduceSub, List.getD_cons_zero, List.getD_cons_succ, List.append_nil, List.cons_append, List.nil_append, List.append_nil] at HK1)
        refine Go.Proofs.YtjogdbiaiflmpaaL.wpList_copy_own rfl HK1 _ _ 22 22 rfl 5 p5 0 64 64 (some ⟨p6, 0, none⟩) 32 32 .u8 54 64 (zer 64) kc Try.underlying22 (by kernel_rfl) rfl rfl (HK1.rd (.next _ (.here _))) 32 (by decide) (by decide) (.here _) ?_
        intro wn hk
        rw [pad_copied kc 32 HSL'.out (by decide), ← HLL.out] at hk
        exact hQ _ _ ⟨_, rfl, hk⟩
      (try simp only [Act.put, Act.eval, List.setIfInBounds_toArray, List.set_cons_zero, List.set_cons_succ, Array.getD_eq_getD_getElem?, List.getElem?_toArray, List.getElem?_cons_succ, List.getElem?_cons_zero, Option.getD_some, Nat.reduceAdd, List.nil_append, List.cons_append, En.get])
      refine fs_end ?_
      intro f lof wn HF hk
      obtain hl := HF 2 (by decide)
      (try simp only [itms, itm, usesOf, readsOf, takesOf, List.find?, Nat.reduceBEq, List.flatMap_cons, List.flatMap_nil, Nat.reduceLT, if_true, if_false, Nat.reduceSub, List.getD_cons_zero, List.getD_cons_succ, List.append_nil, List.cons_append, List.nil_append, show lof 2 = _ from hl] at hk)
      clear HF hl lof
      generalize f 2 = x2
      clear f
      have hk2 : Own w wn [.ints p5 .u8 54 64 l, .ints p4 .u8 26 32 (zer 32)] := hk.sub (.cons_cons _ (.cons _ (.refl _)))
      clear hk
      clear HK
      have HK := Lib.hid hk2
      clear hk2
      go_wp2_with fail
      go_meet
      case rel => exact HK
    | false =>
      have h64 : n ≤ 64 := by have := of_decide_eq_false HBB.out; omega
      have HKC := Lib.hid (HC1.out h64)
      clear HBB
      go_wp2_with (refine wpList_stop 21 rfl ?_)
      rintro w' rfl
      refine Go.Proofs.YtjogdbiaiflmpaaL.wpList_copy_own rfl HK.out _ _ 22 22 rfl 5 p5 0 64 64 ad n cap .u8 54 64 (zer 64) xs Try.underlying22 (by kernel_rfl) rfl rfl ((HB.out _ HK.out.grown).1) n (by omega) (by omega) (.here _) ?_
      intro wn hk
      rw [pad_copied xs n HXL.out h64, ← HKC.out, ← HLL.out] at hk
      clear HK
      have HK := Lib.hid hk
      clear hk
      go_wp2_with fail
      go_meet
      case rel => exact HK
  case rest =>
    have HK' := hcut
    clear HK hcut
    have HK := HK'
    clear HK' HC1 HC2 HB HXL hn3 hni HBB
    go_upto_region 6 with fail
    have hk1 := HK.out
    refine wp_region_sep [] [.ints p5 .u8 54 64 l, .ints p4 .u8 26 32 (zer 32)] [] [0, 1] 4 (by kernel_rfl) (by kernel_rfl) (w0 := w) HK.out ?_
    (try simp only [Act.put, Act.eval, List.setIfInBounds_toArray, List.set_cons_zero, List.set_cons_succ, Array.getD_eq_getD_getElem?, List.getElem?_toArray, List.getElem?_cons_succ, List.getElem?_cons_zero, Option.getD_some, Nat.reduceAdd, List.nil_append, List.cons_append, En.get])
    refine fs_list rfl (fun f => rfl) (.res (fun _ v it => ∃ p, v = .slice (some ⟨p, 0, none⟩) 64 64 ∧ it = [.ints p .u8 5 64 (zer 64)])) (fun f => ⟨_, rfl, Nat.le_of_ble_eq_true rfl⟩) ?_ (fun _ _ _ => rfl) ?_
    · intro f lof w1 Lf HF HK1 Q' hQ
      clear HF
      refine Go.Proofs.YtjogdbiaiflmpaaL.wpList_make_ints rfl HK1 _ _ 22 rfl 5 .u8 1 Try.underlying22 (by kernel_rfl) 64 _ rfl rfl rfl (by decide) (by decide) ?_
      intro wn p hk
      exact hQ _ _ ⟨_, ⟨p, rfl, rfl⟩, hk⟩
    (try simp only [Act.put, Act.eval, List.setIfInBounds_toArray, List.set_cons_zero, List.set_cons_succ, Array.getD_eq_getD_getElem?, List.getElem?_toArray, List.getElem?_cons_succ, List.getElem?_cons_zero, Option.getD_some, Nat.reduceAdd, List.nil_append, List.cons_append, En.get])
    refine fs_list rfl (fun f => rfl) (.res (fun _ v it => ∃ p, v = .slice (some ⟨p, 0, none⟩) 64 64 ∧ it = [.ints p .u8 5 64 (zer 64)])) (fun f => ⟨_, rfl, Nat.le_of_ble_eq_true rfl⟩) ?_ (fun _ _ _ => rfl) ?_
    · intro f lof w1 Lf HF HK1 Q' hQ
      clear HF
      refine Go.Proofs.YtjogdbiaiflmpaaL.wpList_make_ints rfl HK1 _ _ 22 rfl 5 .u8 1 Try.underlying22 (by kernel_rfl) 64 _ rfl rfl rfl (by decide) (by decide) ?_
      intro wn p hk
      exact hQ _ _ ⟨_, ⟨p, rfl, rfl⟩, hk⟩
    (try simp only [Act.put, Act.eval, List.setIfInBounds_toArray, List.set_cons_zero, List.set_cons_succ, Array.getD_eq_getD_getElem?, List.getElem?_toArray, List.getElem?_cons_succ, List.getElem?_cons_zero, Option.getD_some, Nat.reduceAdd, List.nil_append, List.cons_append, En.get])
    (repeat (first | (refine fs_skip rfl (fun f => rfl) ?_; (try simp only [Act.put, Act.eval, List.setIfInBounds_toArray, List.set_cons_zero, List.set_cons_succ, Array.getD_eq_getD_getElem?, List.getElem?_toArray, List.getElem?_cons_succ, List.getElem?_cons_zero, Option.getD_some, Nat.reduceAdd, List.nil_append, List.cons_append, En.get])) | (refine fs_move _ rfl rfl (fun f => rfl) rfl ?_ ?_; ((first | exact fun _ _ _ => rfl | exact fun f f' hcg => hcg _ (by kernel_rfl) | (intro f f' hcg; rw [hcg]; kernel_rfl) | (intro f f' hcg; rw [hcg, hcg]; (kernel_rfl; kernel_rfl)) | exact trivial)); (try simp only [Act.put, Act.eval, List.setIfInBounds_toArray, List.set_cons_zero, List.set_cons_succ, Array.getD_eq_getD_getElem?, List.getElem?_toArray, List.getElem?_cons_succ, List.getElem?_cons_zero, Option.getD_some, Nat.reduceAdd, List.nil_append, List.cons_append, En.get])) | (refine fs_assign _ rfl rfl (fun f => rfl) rfl ?_ ?_; ((first | exact fun _ _ _ => rfl | exact fun f f' hcg => hcg _ (by kernel_rfl) | (intro f f' hcg; rw [hcg]; kernel_rfl) | (intro f f' hcg; rw [hcg, hcg]; (kernel_rfl; kernel_rfl)) | exact trivial)); (try simp only [Act.put, Act.eval, List.setIfInBounds_toArray, List.set_cons_zero, List.set_cons_succ, Array.getD_eq_getD_getElem?, List.getElem?_toArray, List.getElem?_cons_succ, List.getElem?_cons_zero, Option.getD_some, Nat.reduceAdd, List.nil_append, List.cons_append, En.get])) | (fail) | (refine fs_pure rfl (fun f => rfl) rfl ?_ ?_ ?_ ?_; (rotate_left; (intro f w1; (skip); go_simp; (first | done | with_reducible rfl)); ((first | exact fun _ _ _ => rfl | exact fun f f' hcg => hcg _ (by kernel_rfl) | (intro f f' hcg; rw [hcg]; kernel_rfl) | (intro f f' hcg; rw [hcg, hcg]; (kernel_rfl; kernel_rfl)) | exact trivial)); (try simp only [Act.put, Act.eval, List.setIfInBounds_toArray, List.set_cons_zero, List.set_cons_succ, Array.getD_eq_getD_getElem?, List.getElem?_toArray, List.getElem?_cons_succ, List.getElem?_cons_zero, Option.getD_some, Nat.reduceAdd, List.nil_append, List.cons_append, En.get])))))
    refine fs_end ?_
    intro f lof wn HF hk
    obtain ⟨p7, hv7, hl7⟩ := HF 0 (by decide)
    obtain ⟨p8, hv8, hl8⟩ := HF 1 (by decide)
    (try simp only [itms, itm, usesOf, readsOf, takesOf, List.find?, Nat.reduceBEq, List.flatMap_cons, List.flatMap_nil, Nat.reduceLT, if_true, if_false, Nat.reduceSub, List.getD_cons_zero, List.getD_cons_succ, List.append_nil, List.cons_append, List.nil_append, hl7, hl8] at hk)
    rw [hv7, hv8]
    clear HF hv7 hv8 hl7 hl8 lof f hk1
    clear HK
    have HK := Lib.hid hk
    clear hk
    go_wp2_with fail
    go_loopw [9] (fun v wr => ∃ (j : Nat), j ≤ 64 ∧ v = .int .i64 j ∧ Hid (Own w wr [.ints p7 .u8 5 64 (xorZ 54 l j), .ints p8 .u8 5 64 (xorZ 92 l j), .ints p5 .u8 54 64 l, .ints p4 .u8 26 32 (zer 32)])) (fun v _ => 64 - (intOf v).toNat)
    case atStart => exact ⟨0, by omega, rfl, by rw [xorZ_0, xorZ_0, HPL.out]; exact HK⟩
    case round =>
      obtain ⟨j, hj, rfl, HK'⟩ := hrel
      clear HK
      have HK := HK'
      clear HK'
      by_cases hlt : j < 64
      · have hj0 : (0 : Int) ≤ j := by omega
        have hj1 : (j : Int) < 64 := by omega
        obtain ⟨A, hA⟩ : ∃ A, A = xorZ 54 l j := ⟨_, rfl⟩
        obtain ⟨B, hB⟩ : ∃ B, B = xorZ 92 l j := ⟨_, rfl⟩
        rw [← hA, ← hB] at HK
        have HNA := Lib.hid (show xorZ 54 l (j + 1) = A.set j (bits .xor .u8 (l.getD j 0) 54) by rw [xorZ_next _ _ _ (by rw [HPL.out]; exact hlt), hA])
        have HNB := Lib.hid (show xorZ 92 l (j + 1) = B.set j (bits .xor .u8 (l.getD j 0) 92) by rw [xorZ_next _ _ _ (by rw [HPL.out]; exact hlt), hB])
        clear hA hB
        go_wp2_with fail
        refine wp_region_grow [(2, 0), (2, 1), (2, 2), (2, 3), (2, 4), (2, 5), (1, 6), (2, 7), (2, 8), (2, 9), (1, 10), (2, 11), (2, 12), (3, 13), (2, 14), (3, 15)] (by kernel_rfl) (by kernel_rfl) (fun _ _ _ _ _ h => h) (fun _ _ _ _ _ h => h) ?_
        refine gSeq_own HK.out fun wn hkn gn ein => ?_
        have HKN := Lib.hid hkn
        clear hkn HK
        have HK := HKN
        clear HKN
        clear gn ein
        (repeat (first | (refine gSeq_get_int rfl (by rfl) HK.out _ _ rfl _ _ rfl _ _ _ _ (by first | exact Has.here _ | exact Has.next _ (Has.here _) | exact Has.next _ (Has.next _ (Has.here _)) | exact Has.next _ (Has.next _ (Has.next _ (Has.here _))) | exact Has.next _ (Has.next _ (Has.next _ (Has.next _ (Has.here _)))) | exact Has.next _ (Has.next _ (Has.next _ (Has.next _ (Has.next _ (Has.here _))))) | exact Has.next _ (Has.next _ (Has.next _ (Has.next _ (Has.next _ (Has.next _ (Has.here _)))))) | exact Has.next _ (Has.next _ (Has.next _ (Has.next _ (Has.next _ (Has.next _ (Has.next _ (Has.here _))))))) | exact Has.next _ (Has.next _ (Has.next _ (Has.next _ (Has.next _ (Has.next _ (Has.next _ (Has.next _ (Has.here _)))))))) | exact Has.next _ (Has.next _ (Has.next _ (Has.next _ (Has.next _ (Has.next _ (Has.next _ (Has.next _ (Has.next _ (Has.here _)))))))))) rfl (by omega) ?_; (try simp only [Act.put, Act.eval, List.setIfInBounds_toArray, List.set_cons_zero, List.set_cons_succ, Array.getD_eq_getD_getElem?, List.getElem?_toArray, List.getElem?_cons_succ, List.getElem?_cons_zero, Option.getD_some])) | (refine gSeq_skip rfl (by rfl) ?_; (try simp only [Act.put, Act.eval, List.setIfInBounds_toArray, List.set_cons_zero, List.set_cons_succ, Array.getD_eq_getD_getElem?, List.getElem?_toArray, List.getElem?_cons_succ, List.getElem?_cons_zero, Option.getD_some])) | (refine gSeq_move _ rfl rfl (by rfl) ?_; (try simp only [Act.put, Act.eval, List.setIfInBounds_toArray, List.set_cons_zero, List.set_cons_succ, Array.getD_eq_getD_getElem?, List.getElem?_toArray, List.getElem?_cons_succ, List.getElem?_cons_zero, Option.getD_some])) | (refine gSeq_assign _ rfl rfl (by rfl) ?_; (try simp only [Act.put, Act.eval, List.setIfInBounds_toArray, List.set_cons_zero, List.set_cons_succ, Array.getD_eq_getD_getElem?, List.getElem?_toArray, List.getElem?_cons_succ, List.getElem?_cons_zero, Option.getD_some])) | (refine gSeq_pure rfl (by rfl) ?_ ?_ ?_; (rotate_left; (intro w'; (skip); go_simp; (first | done | with_reducible rfl)); (try simp only [Act.put, Act.eval, List.setIfInBounds_toArray, List.set_cons_zero, List.set_cons_succ, Array.getD_eq_getD_getElem?, List.getElem?_toArray, List.getElem?_cons_succ, List.getElem?_cons_zero, Option.getD_some]))) | (fail) | (refine gSeq_still rfl (by rfl) ?_ ?_ ?_; (rotate_left; (intro w' hG; (skip); go_simp; (first | done | with_reducible rfl)); (try simp only [Act.put, Act.eval, List.setIfInBounds_toArray, List.set_cons_zero, List.set_cons_succ, Array.getD_eq_getD_getElem?, List.getElem?_toArray, List.getElem?_cons_succ, List.getElem?_cons_zero, Option.getD_some])))))
        (refine gSeq_put_int rfl (by rfl) HK.out _ _ _ rfl _ _ _ _ rfl rfl _ _ _ (by first | exact Upd.here _ | exact Upd.next _ (Upd.here _) | exact Upd.next _ (Upd.next _ (Upd.here _)) | exact Upd.next _ (Upd.next _ (Upd.next _ (Upd.here _))) | exact Upd.next _ (Upd.next _ (Upd.next _ (Upd.next _ (Upd.here _)))) | exact Upd.next _ (Upd.next _ (Upd.next _ (Upd.next _ (Upd.next _ (Upd.here _))))) | exact Upd.next _ (Upd.next _ (Upd.next _ (Upd.next _ (Upd.next _ (Upd.next _ (Upd.here _)))))) | exact Upd.next _ (Upd.next _ (Upd.next _ (Upd.next _ (Upd.next _ (Upd.next _ (Upd.next _ (Upd.here _))))))) | exact Upd.next _ (Upd.next _ (Upd.next _ (Upd.next _ (Upd.next _ (Upd.next _ (Upd.next _ (Upd.next _ (Upd.here _)))))))) | exact Upd.next _ (Upd.next _ (Upd.next _ (Upd.next _ (Upd.next _ (Upd.next _ (Upd.next _ (Upd.next _ (Upd.next _ (Upd.here _)))))))))) (by omega) (by kernel_rfl) ?_; (intro wn hkn; have HKN := Lib.hid hkn; clear hkn; clear HK; have HK := HKN; clear HKN); (try simp only [Act.put, Act.eval, List.setIfInBounds_toArray, List.set_cons_zero, List.set_cons_succ, Array.getD_eq_getD_getElem?, List.getElem?_toArray, List.getElem?_cons_succ, List.getElem?_cons_zero, Option.getD_some]))
        (repeat (first | (refine gSeq_get_int rfl (by rfl) HK.out _ _ rfl _ _ rfl _ _ _ _ (by first | exact Has.here _ | exact Has.next _ (Has.here _) | exact Has.next _ (Has.next _ (Has.here _)) | exact Has.next _ (Has.next _ (Has.next _ (Has.here _))) | exact Has.next _ (Has.next _ (Has.next _ (Has.next _ (Has.here _)))) | exact Has.next _ (Has.next _ (Has.next _ (Has.next _ (Has.next _ (Has.here _))))) | exact Has.next _ (Has.next _ (Has.next _ (Has.next _ (Has.next _ (Has.next _ (Has.here _)))))) | exact Has.next _ (Has.next _ (Has.next _ (Has.next _ (Has.next _ (Has.next _ (Has.next _ (Has.here _))))))) | exact Has.next _ (Has.next _ (Has.next _ (Has.next _ (Has.next _ (Has.next _ (Has.next _ (Has.next _ (Has.here _)))))))) | exact Has.next _ (Has.next _ (Has.next _ (Has.next _ (Has.next _ (Has.next _ (Has.next _ (Has.next _ (Has.next _ (Has.here _)))))))))) rfl (by omega) ?_; (try simp only [Act.put, Act.eval, List.setIfInBounds_toArray, List.set_cons_zero, List.set_cons_succ, Array.getD_eq_getD_getElem?, List.getElem?_toArray, List.getElem?_cons_succ, List.getElem?_cons_zero, Option.getD_some])) | (refine gSeq_skip rfl (by rfl) ?_; (try simp only [Act.put, Act.eval, List.setIfInBounds_toArray, List.set_cons_zero, List.set_cons_succ, Array.getD_eq_getD_getElem?, List.getElem?_toArray, List.getElem?_cons_succ, List.getElem?_cons_zero, Option.getD_some])) | (refine gSeq_move _ rfl rfl (by rfl) ?_; (try simp only [Act.put, Act.eval, List.setIfInBounds_toArray, List.set_cons_zero, List.set_cons_succ, Array.getD_eq_getD_getElem?, List.getElem?_toArray, List.getElem?_cons_succ, List.getElem?_cons_zero, Option.getD_some])) | (refine gSeq_assign _ rfl rfl (by rfl) ?_; (try simp only [Act.put, Act.eval, List.setIfInBounds_toArray, List.set_cons_zero, List.set_cons_succ, Array.getD_eq_getD_getElem?, List.getElem?_toArray, List.getElem?_cons_succ, List.getElem?_cons_zero, Option.getD_some])) | (refine gSeq_pure rfl (by rfl) ?_ ?_ ?_; (rotate_left; (intro w'; (skip); go_simp; (first | done | with_reducible rfl)); (try simp only [Act.put, Act.eval, List.setIfInBounds_toArray, List.set_cons_zero, List.set_cons_succ, Array.getD_eq_getD_getElem?, List.getElem?_toArray, List.getElem?_cons_succ, List.getElem?_cons_zero, Option.getD_some]))) | (fail) | (refine gSeq_still rfl (by rfl) ?_ ?_ ?_; (rotate_left; (intro w' hG; (skip); go_simp; (first | done | with_reducible rfl)); (try simp only [Act.put, Act.eval, List.setIfInBounds_toArray, List.set_cons_zero, List.set_cons_succ, Array.getD_eq_getD_getElem?, List.getElem?_toArray, List.getElem?_cons_succ, List.getElem?_cons_zero, Option.getD_some])))))
        (refine gSeq_put_int rfl (by rfl) HK.out _ _ _ rfl _ _ _ _ rfl rfl _ _ _ (by first | exact Upd.here _ | exact Upd.next _ (Upd.here _) | exact Upd.next _ (Upd.next _ (Upd.here _)) | exact Upd.next _ (Upd.next _ (Upd.next _ (Upd.here _))) | exact Upd.next _ (Upd.next _ (Upd.next _ (Upd.next _ (Upd.here _)))) | exact Upd.next _ (Upd.next _ (Upd.next _ (Upd.next _ (Upd.next _ (Upd.here _))))) | exact Upd.next _ (Upd.next _ (Upd.next _ (Upd.next _ (Upd.next _ (Upd.next _ (Upd.here _)))))) | exact Upd.next _ (Upd.next _ (Upd.next _ (Upd.next _ (Upd.next _ (Upd.next _ (Upd.next _ (Upd.here _))))))) | exact Upd.next _ (Upd.next _ (Upd.next _ (Upd.next _ (Upd.next _ (Upd.next _ (Upd.next _ (Upd.next _ (Upd.here _)))))))) | exact Upd.next _ (Upd.next _ (Upd.next _ (Upd.next _ (Upd.next _ (Upd.next _ (Upd.next _ (Upd.next _ (Upd.next _ (Upd.here _)))))))))) (by omega) (by kernel_rfl) ?_; (intro wn hkn; have HKN := Lib.hid hkn; clear hkn; clear HK; have HK := HKN; clear HKN); (try simp only [Act.put, Act.eval, List.setIfInBounds_toArray, List.set_cons_zero, List.set_cons_succ, Array.getD_eq_getD_getElem?, List.getElem?_toArray, List.getElem?_cons_succ, List.getElem?_cons_zero, Option.getD_some]))
        (repeat (first | (refine gSeq_get_int rfl (by rfl) HK.out _ _ rfl _ _ rfl _ _ _ _ (by first | exact Has.here _ | exact Has.next _ (Has.here _) | exact Has.next _ (Has.next _ (Has.here _)) | exact Has.next _ (Has.next _ (Has.next _ (Has.here _))) | exact Has.next _ (Has.next _ (Has.next _ (Has.next _ (Has.here _)))) | exact Has.next _ (Has.next _ (Has.next _ (Has.next _ (Has.next _ (Has.here _))))) | exact Has.next _ (Has.next _ (Has.next _ (Has.next _ (Has.next _ (Has.next _ (Has.here _)))))) | exact Has.next _ (Has.next _ (Has.next _ (Has.next _ (Has.next _ (Has.next _ (Has.next _ (Has.here _))))))) | exact Has.next _ (Has.next _ (Has.next _ (Has.next _ (Has.next _ (Has.next _ (Has.next _ (Has.next _ (Has.here _)))))))) | exact Has.next _ (Has.next _ (Has.next _ (Has.next _ (Has.next _ (Has.next _ (Has.next _ (Has.next _ (Has.next _ (Has.here _)))))))))) rfl (by omega) ?_; (try simp only [Act.put, Act.eval, List.setIfInBounds_toArray, List.set_cons_zero, List.set_cons_succ, Array.getD_eq_getD_getElem?, List.getElem?_toArray, List.getElem?_cons_succ, List.getElem?_cons_zero, Option.getD_some])) | (refine gSeq_skip rfl (by rfl) ?_; (try simp only [Act.put, Act.eval, List.setIfInBounds_toArray, List.set_cons_zero, List.set_cons_succ, Array.getD_eq_getD_getElem?, List.getElem?_toArray, List.getElem?_cons_succ, List.getElem?_cons_zero, Option.getD_some])) | (refine gSeq_move _ rfl rfl (by rfl) ?_; (try simp only [Act.put, Act.eval, List.setIfInBounds_toArray, List.set_cons_zero, List.set_cons_succ, Array.getD_eq_getD_getElem?, List.getElem?_toArray, List.getElem?_cons_succ, List.getElem?_cons_zero, Option.getD_some])) | (refine gSeq_assign _ rfl rfl (by rfl) ?_; (try simp only [Act.put, Act.eval, List.setIfInBounds_toArray, List.set_cons_zero, List.set_cons_succ, Array.getD_eq_getD_getElem?, List.getElem?_toArray, List.getElem?_cons_succ, List.getElem?_cons_zero, Option.getD_some])) | (refine gSeq_pure rfl (by rfl) ?_ ?_ ?_; (rotate_left; (intro w'; (skip); go_simp; (first | done | with_reducible rfl)); (try simp only [Act.put, Act.eval, List.setIfInBounds_toArray, List.set_cons_zero, List.set_cons_succ, Array.getD_eq_getD_getElem?, List.getElem?_toArray, List.getElem?_cons_succ, List.getElem?_cons_zero, Option.getD_some]))) | (fail) | (refine gSeq_still rfl (by rfl) ?_ ?_ ?_; (rotate_left; (intro w' hG; (skip); go_simp; (first | done | with_reducible rfl)); (try simp only [Act.put, Act.eval, List.setIfInBounds_toArray, List.set_cons_zero, List.set_cons_succ, Array.getD_eq_getD_getElem?, List.getElem?_toArray, List.getElem?_cons_succ, List.getElem?_cons_zero, Option.getD_some])))))
        refine gSeq_nil ?_
        go_wp2_with fail
        exact ⟨⟨j + 1, by omega, by go_num, by rw [HNA.out, HNB.out]; exact HK⟩, by simp [intOf]; omega⟩
      · have hj2 : j = 64 := by omega
        subst hj2
        clear hlt hj
        rw [show ((64 : Nat) : Int) = 64 from rfl]
        have hk := HK.out
        rw [show xorZ 54 l 64 = xorL 54 l by have := xorZ_all 54 l; rw [HPL.out] at this; exact this, show xorZ 92 l 64 = xorL 92 l by have := xorZ_all 92 l; rw [HPL.out] at this; exact this] at hk
        have hk1 := hk.ints_sl (.here _) (by unfold maxLen; decide)
        have hk2 := hk1.ints_sl (.next _ (.here _)) (by unfold maxLen; decide)
        clear hk hk1
        clear HK
        have HK := Lib.hid hk2
        clear hk2
        obtain ⟨X, hX⟩ : ∃ X, X = xorL 54 l := ⟨_, rfl⟩
        obtain ⟨Y, hY⟩ : ∃ Y, Y = xorL 92 l := ⟨_, rfl⟩
        rw [← hX] at HK HS1 HO1 HL1
        rw [← hY] at HK HR HO2 HL2
        clear hX hY
        go_wp2_with (at_builtin; refine wpList_app_own rfl HK.out _ _ 22 rfl 5 (.int .u8 0) 1 Try.underlying22 (by kernel_rfl) rfl .u8 _ _ _ _ rfl (by first | exact Del.here _ | exact Del.next _ (Del.here _) | exact Del.next _ (Del.next _ (Del.here _)) | exact Del.next _ (Del.next _ (Del.next _ (Del.here _))) | exact Del.next _ (Del.next _ (Del.next _ (Del.next _ (Del.here _)))) | exact Del.next _ (Del.next _ (Del.next _ (Del.next _ (Del.next _ (Del.here _))))) | exact Del.next _ (Del.next _ (Del.next _ (Del.next _ (Del.next _ (Del.next _ (Del.here _)))))) | exact Del.next _ (Del.next _ (Del.next _ (Del.next _ (Del.next _ (Del.next _ (Del.next _ (Del.here _))))))) | exact Del.next _ (Del.next _ (Del.next _ (Del.next _ (Del.next _ (Del.next _ (Del.next _ (Del.next _ (Del.here _)))))))) | exact Del.next _ (Del.next _ (Del.next _ (Del.next _ (Del.next _ (Del.next _ (Del.next _ (Del.next _ (Del.next _ (Del.here _)))))))))) _ bn ys rfl HYL.out (Bs.src (HC.out _ HK.out.grown)) (by unfold maxLen; omega) (by omega) ?_)
        intro a1 c1 w2 hk
        clear HK
        have HK := Lib.hid hk
        clear hk
        have HXO := Lib.hid (show okB 256 (X ++ ys) from ok_app HO1.out HOY.out)
        go_wp2_with fail
        refine (rsum256_any ⟨a1, 64 + bn, c1, X ++ ys⟩ _ (own_bs HK.out (.here _) HXO.out (by omega))).mono ?_
        rintro e w4 ⟨rfl, hg⟩
        have hkb := HK.out.grow hg
        clear hg
        clear HK
        have HK := Lib.hid hkb
        clear hkb
        rw [show sum32 (⟨a1, 64 + bn, c1, X ++ ys⟩ : Bs).xs = S1 from HS1.out.symm]
        go_wp2_with ((refine wpList_new_ints rfl HK.out _ rfl .u8 26 32 (zer 32) (length_zer _) (fun w => by go_simp; first | exact ⟨rfl, rfl⟩ | kernel_rfl) ?_))
        intro wn p10 hkn
        have HKN := Lib.hid hkn
        clear hkn HK
        have HK := HKN
        clear HKN
        go_wp2_with (first | (refine wpList_put_row rfl HK.out 26 _ _ rfl _ _ S1 rfl rfl _ _ _ (by first | exact Upd.here _ | exact Upd.next _ (Upd.here _) | exact Upd.next _ (Upd.next _ (Upd.here _)) | exact Upd.next _ (Upd.next _ (Upd.next _ (Upd.here _))) | exact Upd.next _ (Upd.next _ (Upd.next _ (Upd.next _ (Upd.here _)))) | exact Upd.next _ (Upd.next _ (Upd.next _ (Upd.next _ (Upd.next _ (Upd.here _))))) | exact Upd.next _ (Upd.next _ (Upd.next _ (Upd.next _ (Upd.next _ (Upd.next _ (Upd.here _)))))) | exact Upd.next _ (Upd.next _ (Upd.next _ (Upd.next _ (Upd.next _ (Upd.next _ (Upd.next _ (Upd.here _))))))) | exact Upd.next _ (Upd.next _ (Upd.next _ (Upd.next _ (Upd.next _ (Upd.next _ (Upd.next _ (Upd.next _ (Upd.here _)))))))) | exact Upd.next _ (Upd.next _ (Upd.next _ (Upd.next _ (Upd.next _ (Upd.next _ (Upd.next _ (Upd.next _ (Upd.next _ (Upd.here _)))))))))) (by exact HSL.out) (by kernel_rfl) ?_; (intro wn hkn; have HKN := Lib.hid hkn; clear hkn; clear HK; have HK := HKN; clear HKN)) | (refine wpList_stop 48 rfl ?_))
        rintro w' rfl
        have hsrc := rdsrc (cap := 32) (HK.out.rd (.here _))
        refine wpList_app_own rfl HK.out _ _ 22 rfl 5 (.int .u8 0) 1 Try.underlying22 (by kernel_rfl) rfl .u8 _ _ _ _ rfl (by first | exact Del.here _ | exact Del.next _ (Del.here _) | exact Del.next _ (Del.next _ (Del.here _)) | exact Del.next _ (Del.next _ (Del.next _ (Del.here _))) | exact Del.next _ (Del.next _ (Del.next _ (Del.next _ (Del.here _)))) | exact Del.next _ (Del.next _ (Del.next _ (Del.next _ (Del.next _ (Del.here _))))) | exact Del.next _ (Del.next _ (Del.next _ (Del.next _ (Del.next _ (Del.next _ (Del.here _)))))) | exact Del.next _ (Del.next _ (Del.next _ (Del.next _ (Del.next _ (Del.next _ (Del.next _ (Del.here _))))))) | exact Del.next _ (Del.next _ (Del.next _ (Del.next _ (Del.next _ (Del.next _ (Del.next _ (Del.next _ (Del.here _)))))))) | exact Del.next _ (Del.next _ (Del.next _ (Del.next _ (Del.next _ (Del.next _ (Del.next _ (Del.next _ (Del.next _ (Del.here _)))))))))) (.slice (some ⟨p10, 0, none⟩) 32 32) 32 S1 rfl HSL.out hsrc (by unfold maxLen; omega) (by omega) ?_
        intro a2 c2 w5 hk
        clear hsrc
        clear HK
        have HK := Lib.hid hk
        clear hk
        have HXO2 := Lib.hid (show okB 256 (Y ++ S1) from ok_app HO2.out HSO.out)
        go_wp2_with fail
        refine (rsum256_any ⟨a2, 64 + 32, c2, Y ++ S1⟩ _ (own_bs HK.out (.here _) HXO2.out (by omega))).mono ?_
        rintro e w6 ⟨rfl, hg⟩
        have hkb := HK.out.grow hg
        clear hg
        clear HK
        have HK := Lib.hid hkb
        clear hkb
        rw [show sum32 (⟨a2, 64 + 32, c2, Y ++ S1⟩ : Bs).xs = R from HR.out.symm]
        go_wp2_with (refine wpList_put_row rfl HK.out 26 _ _ rfl _ _ R rfl rfl _ _ _ (by first | exact Upd.here _ | exact Upd.next _ (Upd.here _) | exact Upd.next _ (Upd.next _ (Upd.here _)) | exact Upd.next _ (Upd.next _ (Upd.next _ (Upd.here _))) | exact Upd.next _ (Upd.next _ (Upd.next _ (Upd.next _ (Upd.here _)))) | exact Upd.next _ (Upd.next _ (Upd.next _ (Upd.next _ (Upd.next _ (Upd.here _))))) | exact Upd.next _ (Upd.next _ (Upd.next _ (Upd.next _ (Upd.next _ (Upd.next _ (Upd.here _)))))) | exact Upd.next _ (Upd.next _ (Upd.next _ (Upd.next _ (Upd.next _ (Upd.next _ (Upd.next _ (Upd.here _))))))) | exact Upd.next _ (Upd.next _ (Upd.next _ (Upd.next _ (Upd.next _ (Upd.next _ (Upd.next _ (Upd.next _ (Upd.here _)))))))) | exact Upd.next _ (Upd.next _ (Upd.next _ (Upd.next _ (Upd.next _ (Upd.next _ (Upd.next _ (Upd.next _ (Upd.next _ (Upd.here _)))))))))) (by exact HRL.out) (by kernel_rfl) ?_; (intro wn hkn; have HKN := Lib.hid hkn; clear hkn; clear HK; have HK := HKN; clear HKN))
        exact bodyPost_ret (results_own rfl _ HK.out _ rfl (by first | exact Has.here _ | exact Has.next _ (Has.here _) | exact Has.next _ (Has.next _ (Has.here _)) | exact Has.next _ (Has.next _ (Has.next _ (Has.here _))) | exact Has.next _ (Has.next _ (Has.next _ (Has.next _ (Has.here _)))) | exact Has.next _ (Has.next _ (Has.next _ (Has.next _ (Has.next _ (Has.here _))))) | exact Has.next _ (Has.next _ (Has.next _ (Has.next _ (Has.next _ (Has.next _ (Has.here _)))))) | exact Has.next _ (Has.next _ (Has.next _ (Has.next _ (Has.next _ (Has.next _ (Has.next _ (Has.here _))))))) | exact Has.next _ (Has.next _ (Has.next _ (Has.next _ (Has.next _ (Has.next _ (Has.next _ (Has.next _ (Has.here _)))))))) | exact Has.next _ (Has.next _ (Has.next _ (Has.next _ (Has.next _ (Has.next _ (Has.next _ (Has.next _ (Has.next _ (Has.here _)))))))))) _ Try.underlying26 rfl (by kernel_rfl)) rfl ⟨rfl, HK.out.grown⟩
end Go.Proofs.Ytjogdbiaiflmpaa
