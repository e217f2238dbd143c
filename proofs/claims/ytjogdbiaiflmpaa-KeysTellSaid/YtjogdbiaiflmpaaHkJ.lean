/- MacKeys, walked. -/
import Derived.Test.YtjogdbiaiflmpaaHkH
import Derived.Test.YtjogdbiaiflmpaaShaG
import Derived.Test.YtjogdbiaiflmpaaZer
import Derived.Test.YtjogdbiaiflmpaaBs
namespace Go.Proofs.Ytjogdbiaiflmpaa
set_option linter.unusedVariables false
set_option linter.unusedSimpArgs false
open Go.RowKit Go.Proofs.YtjogdbiaiflmpaaL

theorem okBtake {B : Int} {s : List Int} (h : okB B s) (n : Nat) : okB B (s.take n) := fun x hx => h x (List.mem_of_mem_take hx)
set_option maxHeartbeats 8000000 in
set_option maxRecDepth 100000 in
theorem mkeys_walk (ad : Option Addr) (len cap : Nat) (zs : List Int) (bd : Option Addr) (blen bcap : Nat) (us : List Int) (n : Int) (w : World) (hr : IsRow .u8 w ad len cap zs) (hq : IsRow .u8 w bd blen bcap us) (ha0 : 0 ≤ n) (ha1 : n < 256) :
    Calls Try.prog 5 #[.slice ad len cap, .slice bd blen bcap, .int .u8 n] w fun e w' => e = .returned (.bool true) ∧ w.grownBy w' none := by
  obtain ⟨h1, h2, h3, h4⟩ := isRow_rd hr
  obtain ⟨h5, h6⟩ := row_none hr
  obtain ⟨g1, g2, g3, g4⟩ := isRow_rd hq
  obtain ⟨g5, g6⟩ := row_none hq
  obtain ⟨xs, hxs⟩ : ∃ xs, xs = zs.take len := ⟨_, rfl⟩
  obtain ⟨ys, hys⟩ : ∃ ys, ys = us.take blen := ⟨_, rfl⟩
  rw [← hxs] at h1 h2
  rw [← hys] at g1 g2
  have HR := Lib.hid h1
  have HOX := Lib.hid h2
  have HLC := Lib.hid h3
  have HN := Lib.hid h5
  have HQ := Lib.hid g1
  have HOY := Lib.hid g2
  have HQN := Lib.hid g5
  have h63 : (len : Int) ≤ 9223372036854775807 := by omega
  have h64 : (blen : Int) ≤ 9223372036854775807 := by omega
  clear hr hq h1 h2 h3 h4 h5 h6 g1 g2 g3 g4 g5 g6 hxs hys
  have HK := Lib.hid (own_start w)
  go_enter Try.func5, Try.ntmps5
  go_wp2_with fail
  refine (known_any _).mono ?_
  rintro e wn ⟨rfl, hg⟩
  have hkb := HK.out.grow hg
  clear hg
  clear HK
  have HK := Lib.hid hkb
  clear hkb
  by_cases hbig : (len : Int) > 200
  · go_wp2_with fail
    exact bodyPost_ret (results_tmp rfl _ _ _) rfl ⟨rfl, HK.out.grown⟩
  by_cases hbig2 : (blen : Int) > 100
  · go_wp2_with fail
    exact bodyPost_ret (results_tmp rfl _ _ _) rfl ⟨rfl, HK.out.grown⟩
  have hlen : len ≤ 200 := by omega
  have hblen : blen ≤ 100 := by omega
  have HBK := Lib.hid (fun (w' : World) (g : w.grownBy w' none) => (show (⟨ad, len, cap, xs⟩ : Bs).ok w' from ⟨HR.out.kept g, HOX.out, HN.out, (show len ≤ 3000 by omega)⟩))
  have HBB := Lib.hid (fun (w' : World) (g : w.grownBy w' none) => (show (⟨bd, blen, bcap, ys⟩ : Bs).ok w' from ⟨HQ.out.kept g, HOY.out, HQN.out, (show blen ≤ 3000 by omega)⟩))
  have HXL := Lib.hid HR.out.1
  have hkb := HK.out.nil 5 .u8
  clear HK
  have HK := Lib.hid hkb
  clear hkb
  go_wp2_with (at_builtin; refine wpList_app_own rfl HK.out _ _ 22 rfl 5 (.int .u8 0) 1 Try.underlying22 (by kernel_rfl) rfl .u8 _ _ _ _ rfl (by first | exact Del.here _ | exact Del.next _ (Del.here _) | exact Del.next _ (Del.next _ (Del.here _)) | exact Del.next _ (Del.next _ (Del.next _ (Del.here _))) | exact Del.next _ (Del.next _ (Del.next _ (Del.next _ (Del.here _)))) | exact Del.next _ (Del.next _ (Del.next _ (Del.next _ (Del.next _ (Del.here _))))) | exact Del.next _ (Del.next _ (Del.next _ (Del.next _ (Del.next _ (Del.next _ (Del.here _)))))) | exact Del.next _ (Del.next _ (Del.next _ (Del.next _ (Del.next _ (Del.next _ (Del.next _ (Del.here _))))))) | exact Del.next _ (Del.next _ (Del.next _ (Del.next _ (Del.next _ (Del.next _ (Del.next _ (Del.next _ (Del.here _)))))))) | exact Del.next _ (Del.next _ (Del.next _ (Del.next _ (Del.next _ (Del.next _ (Del.next _ (Del.next _ (Del.next _ (Del.here _)))))))))) _ len xs rfl HXL.out (Bs.src (HBK.out _ HK.out.grown)) (by unfold maxLen; omega) (by omega) ?_)
  intro a1 c1 w2 hk
  clear HK
  have HK := Lib.hid hk
  clear hk
  go_wp2_with (at_builtin; refine wpList_app_zeros rfl HK.out _ _ 22 3 rfl 5 .u8 1 Try.underlying22 Try.underlying3 (by kernel_rfl) _ _ _ _ rfl (by first | exact Del.here _ | exact Del.next _ (Del.here _) | exact Del.next _ (Del.next _ (Del.here _)) | exact Del.next _ (Del.next _ (Del.next _ (Del.here _))) | exact Del.next _ (Del.next _ (Del.next _ (Del.next _ (Del.here _)))) | exact Del.next _ (Del.next _ (Del.next _ (Del.next _ (Del.next _ (Del.here _))))) | exact Del.next _ (Del.next _ (Del.next _ (Del.next _ (Del.next _ (Del.next _ (Del.here _)))))) | exact Del.next _ (Del.next _ (Del.next _ (Del.next _ (Del.next _ (Del.next _ (Del.next _ (Del.here _))))))) | exact Del.next _ (Del.next _ (Del.next _ (Del.next _ (Del.next _ (Del.next _ (Del.next _ (Del.next _ (Del.here _)))))))) | exact Del.next _ (Del.next _ (Del.next _ (Del.next _ (Del.next _ (Del.next _ (Del.next _ (Del.next _ (Del.next _ (Del.here _)))))))))) 65 _ rfl rfl (by decide) (by unfold maxLen; omega) (by omega) ?_)
  intro a2 c2 w3 hk
  clear HK
  have HK := Lib.hid hk
  clear hk
  obtain ⟨LX, hLX⟩ : ∃ LX, LX = xs ++ zer 65 := ⟨_, rfl⟩
  rw [← hLX] at HK
  have HLX := Lib.hid hLX
  clear hLX
  have HLL := Lib.hid (show LX.length = len + 65 by rw [HLX.out, List.length_append, length_zer, HXL.out])
  have HLO := Lib.hid (show okB 256 LX by rw [HLX.out]; exact ok_app HOX.out (ok_zer (by decide) _))
  go_wp2_with fail
  refine (rsum256_any ⟨a2, len + 65, c2, LX⟩ _ (own_bs HK.out (.here _) HLO.out (by omega))).mono ?_
  rintro e w4 ⟨rfl, hg⟩
  have hkb := HK.out.grow hg
  clear hg
  clear HK
  have HK := Lib.hid hkb
  clear hkb
  obtain ⟨S, hS⟩ : ∃ S, S = sum32 LX := ⟨_, rfl⟩
  rw [show sum32 (⟨a2, len + 65, c2, LX⟩ : Bs).xs = S from hS.symm]
  have HS := Lib.hid hS
  have HSL := Lib.hid (show S.length = 32 by rw [hS, length_sum32])
  have HSO := Lib.hid (show okB 256 S by rw [hS]; exact ok_sum32 _)
  clear hS
  go_wp2_with ((refine wpList_new_ints rfl HK.out _ rfl .u8 26 32 (zer 32) (length_zer _) (fun w => by go_simp; first | exact ⟨rfl, rfl⟩ | kernel_rfl) ?_))
  intro wn ph hkn
  have HKN := Lib.hid hkn
  clear hkn HK
  have HK := HKN
  clear HKN
  go_wp2_with (refine wpList_put_row rfl HK.out 26 _ _ rfl _ _ S rfl rfl _ _ _ (by first | exact Upd.here _ | exact Upd.next _ (Upd.here _) | exact Upd.next _ (Upd.next _ (Upd.here _)) | exact Upd.next _ (Upd.next _ (Upd.next _ (Upd.here _))) | exact Upd.next _ (Upd.next _ (Upd.next _ (Upd.next _ (Upd.here _)))) | exact Upd.next _ (Upd.next _ (Upd.next _ (Upd.next _ (Upd.next _ (Upd.here _))))) | exact Upd.next _ (Upd.next _ (Upd.next _ (Upd.next _ (Upd.next _ (Upd.next _ (Upd.here _)))))) | exact Upd.next _ (Upd.next _ (Upd.next _ (Upd.next _ (Upd.next _ (Upd.next _ (Upd.next _ (Upd.here _))))))) | exact Upd.next _ (Upd.next _ (Upd.next _ (Upd.next _ (Upd.next _ (Upd.next _ (Upd.next _ (Upd.next _ (Upd.here _)))))))) | exact Upd.next _ (Upd.next _ (Upd.next _ (Upd.next _ (Upd.next _ (Upd.next _ (Upd.next _ (Upd.next _ (Upd.next _ (Upd.here _)))))))))) (by exact HSL.out) (by kernel_rfl) ?_; (intro wn hkn; have HKN := Lib.hid hkn; clear hkn; clear HK; have HK := HKN; clear HKN))
  obtain ⟨M, hM⟩ : ∃ M, M = hmac S ys := ⟨_, rfl⟩
  have HM1 := Lib.hid (show hmac LX ys = M by rw [hM, hmac, hmac, kpad_long LX (by rw [HLL.out]; omega), ← HS.out])
  have HM2 := Lib.hid hM.symm
  have HML := Lib.hid (show M.length = 32 by rw [hM]; exact length_hmac _ _)
  clear hM
  refine wp_region_sep [] [.ints ph .u8 26 32 S, .sl 5 .u8 a2 (len + 65) c2 LX] [(3, [2], []), (7, [6], [])] [] 9 (by kernel_rfl) (by kernel_rfl) (w0 := w) HK.out ?_
  (try simp only [Act.put, Act.eval, List.setIfInBounds_toArray, List.set_cons_zero, List.set_cons_succ, Array.getD_eq_getD_getElem?, List.getElem?_toArray, List.getElem?_cons_succ, List.getElem?_cons_zero, Option.getD_some, Nat.reduceAdd, List.nil_append, List.cons_append, En.get])
  (repeat (first | (refine fs_skip rfl (fun f => rfl) ?_; (try simp only [Act.put, Act.eval, List.setIfInBounds_toArray, List.set_cons_zero, List.set_cons_succ, Array.getD_eq_getD_getElem?, List.getElem?_toArray, List.getElem?_cons_succ, List.getElem?_cons_zero, Option.getD_some, Nat.reduceAdd, List.nil_append, List.cons_append, En.get])) | (refine fs_move _ rfl rfl (fun f => rfl) rfl ?_ ?_; ((first | exact fun _ _ _ => rfl | exact fun f f' hcg => hcg _ (by kernel_rfl) | (intro f f' hcg; rw [hcg]; kernel_rfl) | (intro f f' hcg; rw [hcg, hcg]; (kernel_rfl; kernel_rfl)) | exact trivial)); (try simp only [Act.put, Act.eval, List.setIfInBounds_toArray, List.set_cons_zero, List.set_cons_succ, Array.getD_eq_getD_getElem?, List.getElem?_toArray, List.getElem?_cons_succ, List.getElem?_cons_zero, Option.getD_some, Nat.reduceAdd, List.nil_append, List.cons_append, En.get])) | (refine fs_assign _ rfl rfl (fun f => rfl) rfl ?_ ?_; ((first | exact fun _ _ _ => rfl | exact fun f f' hcg => hcg _ (by kernel_rfl) | (intro f f' hcg; rw [hcg]; kernel_rfl) | (intro f f' hcg; rw [hcg, hcg]; (kernel_rfl; kernel_rfl)) | exact trivial)); (try simp only [Act.put, Act.eval, List.setIfInBounds_toArray, List.set_cons_zero, List.set_cons_succ, Array.getD_eq_getD_getElem?, List.getElem?_toArray, List.getElem?_cons_succ, List.getElem?_cons_zero, Option.getD_some, Nat.reduceAdd, List.nil_append, List.cons_append, En.get])) | (fail) | (refine fs_pure rfl (fun f => rfl) rfl ?_ ?_ ?_ ?_; (rotate_left; (intro f w1; (skip); go_simp; (first | done | with_reducible rfl)); ((first | exact fun _ _ _ => rfl | exact fun f f' hcg => hcg _ (by kernel_rfl) | (intro f f' hcg; rw [hcg]; kernel_rfl) | (intro f f' hcg; rw [hcg, hcg]; (kernel_rfl; kernel_rfl)) | exact trivial)); (try simp only [Act.put, Act.eval, List.setIfInBounds_toArray, List.set_cons_zero, List.set_cons_succ, Array.getD_eq_getD_getElem?, List.getElem?_toArray, List.getElem?_cons_succ, List.getElem?_cons_zero, Option.getD_some, Nat.reduceAdd, List.nil_append, List.cons_append, En.get])))))
  refine fs_lit rfl (fun f => rfl) rfl 1 #[.slice bd blen bcap] 22 (fun f w1 => by go_simp; first | done | exact ⟨rfl, rfl⟩ | rfl) ?_
  (try simp only [Act.put, Act.eval, List.setIfInBounds_toArray, List.set_cons_zero, List.set_cons_succ, Array.getD_eq_getD_getElem?, List.getElem?_toArray, List.getElem?_cons_succ, List.getElem?_cons_zero, Option.getD_some, Nat.reduceAdd, List.nil_append, List.cons_append, En.get])
  refine fs_callv rfl (fun f => rfl) rfl 12 _ _ rfl (fun args w => by simp [callFunc, Try.func12]; rfl) (fun _ => .agg (encK .u8 M)) ?_ (fun _ _ _ => rfl) ?_
  · intro f lof w1 Lf HF HK1
    obtain ⟨p, hv, hl⟩ := HF 2 (by kernel_rfl)
    (try simp only [itms, itm, usesOf, readsOf, takesOf, List.find?, Nat.reduceBEq, List.flatMap_cons, List.flatMap_nil, Nat.reduceLT, if_true, if_false, Nat.reduceSub, List.getD_cons_zero, List.getD_cons_succ, List.append_nil, List.cons_append, List.nil_append, hl] at HK1)
    simp only [List.map_toArray, List.map_cons, List.map_nil, Act.eval, Array.getD_eq_getD_getElem?, List.getElem?_toArray, List.getElem?_cons_succ, List.getElem?_cons_zero, Option.getD_some, hv]
    clear HF hv hl
    have q1 := own_bs HK1 (.next _ (.next _ (.here _))) HLO.out (by omega)
    have q4 := mac_any ⟨a2, len + 65, c2, LX⟩ _ 1 1 [⟨bd, blen, bcap, ys⟩] _ q1 rfl (own_parts (bs := [⟨bd, blen, bcap, ys⟩]) HK1 (.here _) rfl) (one_ok (HBB.out _ HK1.grown)) (fun h => by cases h) (by decide)
    refine q4.mono ?_
    clear q4 q1
    rintro e w2 ⟨rfl, hg⟩
    rw [show hmac (⟨a2, len + 65, c2, LX⟩ : Bs).xs (catB [(⟨bd, blen, bcap, ys⟩ : Bs)]) = M by rw [cat_one]; exact HM1.out]
    exact ⟨rfl, hg⟩
  (try simp only [Act.put, Act.eval, List.setIfInBounds_toArray, List.set_cons_zero, List.set_cons_succ, Array.getD_eq_getD_getElem?, List.getElem?_toArray, List.getElem?_cons_succ, List.getElem?_cons_zero, Option.getD_some, Nat.reduceAdd, List.nil_append, List.cons_append, En.get])
  (repeat (first | (refine fs_skip rfl (fun f => rfl) ?_; (try simp only [Act.put, Act.eval, List.setIfInBounds_toArray, List.set_cons_zero, List.set_cons_succ, Array.getD_eq_getD_getElem?, List.getElem?_toArray, List.getElem?_cons_succ, List.getElem?_cons_zero, Option.getD_some, Nat.reduceAdd, List.nil_append, List.cons_append, En.get])) | (refine fs_move _ rfl rfl (fun f => rfl) rfl ?_ ?_; ((first | exact fun _ _ _ => rfl | exact fun f f' hcg => hcg _ (by kernel_rfl) | (intro f f' hcg; rw [hcg]; kernel_rfl) | (intro f f' hcg; rw [hcg, hcg]; (kernel_rfl; kernel_rfl)) | exact trivial)); (try simp only [Act.put, Act.eval, List.setIfInBounds_toArray, List.set_cons_zero, List.set_cons_succ, Array.getD_eq_getD_getElem?, List.getElem?_toArray, List.getElem?_cons_succ, List.getElem?_cons_zero, Option.getD_some, Nat.reduceAdd, List.nil_append, List.cons_append, En.get])) | (refine fs_assign _ rfl rfl (fun f => rfl) rfl ?_ ?_; ((first | exact fun _ _ _ => rfl | exact fun f f' hcg => hcg _ (by kernel_rfl) | (intro f f' hcg; rw [hcg]; kernel_rfl) | (intro f f' hcg; rw [hcg, hcg]; (kernel_rfl; kernel_rfl)) | exact trivial)); (try simp only [Act.put, Act.eval, List.setIfInBounds_toArray, List.set_cons_zero, List.set_cons_succ, Array.getD_eq_getD_getElem?, List.getElem?_toArray, List.getElem?_cons_succ, List.getElem?_cons_zero, Option.getD_some, Nat.reduceAdd, List.nil_append, List.cons_append, En.get])) | (fail) | (refine fs_pure rfl (fun f => rfl) rfl ?_ ?_ ?_ ?_; (rotate_left; (intro f w1; (skip); go_simp; (first | done | with_reducible rfl)); ((first | exact fun _ _ _ => rfl | exact fun f f' hcg => hcg _ (by kernel_rfl) | (intro f f' hcg; rw [hcg]; kernel_rfl) | (intro f f' hcg; rw [hcg, hcg]; (kernel_rfl; kernel_rfl)) | exact trivial)); (try simp only [Act.put, Act.eval, List.setIfInBounds_toArray, List.set_cons_zero, List.set_cons_succ, Array.getD_eq_getD_getElem?, List.getElem?_toArray, List.getElem?_cons_succ, List.getElem?_cons_zero, Option.getD_some, Nat.reduceAdd, List.nil_append, List.cons_append, En.get])))))
  refine fs_lit rfl (fun f => rfl) rfl 1 #[.slice bd blen bcap] 22 (fun f w1 => by go_simp; first | done | exact ⟨rfl, rfl⟩ | rfl) ?_
  (try simp only [Act.put, Act.eval, List.setIfInBounds_toArray, List.set_cons_zero, List.set_cons_succ, Array.getD_eq_getD_getElem?, List.getElem?_toArray, List.getElem?_cons_succ, List.getElem?_cons_zero, Option.getD_some, Nat.reduceAdd, List.nil_append, List.cons_append, En.get])
  refine fs_callv rfl (fun f => rfl) rfl 12 _ _ rfl (fun args w => by simp [callFunc, Try.func12]; rfl) (fun _ => .agg (encK .u8 M)) ?_ (fun _ _ _ => rfl) ?_
  · intro f lof w1 Lf HF HK1
    obtain ⟨p, hv, hl⟩ := HF 6 (by kernel_rfl)
    (try simp only [itms, itm, usesOf, readsOf, takesOf, List.find?, Nat.reduceBEq, List.flatMap_cons, List.flatMap_nil, Nat.reduceLT, if_true, if_false, Nat.reduceSub, List.getD_cons_zero, List.getD_cons_succ, List.append_nil, List.cons_append, List.nil_append, hl] at HK1)
    simp only [List.map_toArray, List.map_cons, List.map_nil, Act.eval, Array.getD_eq_getD_getElem?, List.getElem?_toArray, List.getElem?_cons_succ, List.getElem?_cons_zero, Option.getD_some, hv]
    clear HF hv hl
    have q1 := own_bsi HK1 (.next _ (.here _)) HSO.out (by omega)
    have q4 := mac_any ⟨some ⟨ph, 0, none⟩, 32, 32, S⟩ _ 1 1 [⟨bd, blen, bcap, ys⟩] _ q1 rfl (own_parts (bs := [⟨bd, blen, bcap, ys⟩]) HK1 (.here _) rfl) (one_ok (HBB.out _ HK1.grown)) (fun h => by cases h) (by decide)
    refine q4.mono ?_
    clear q4 q1
    rintro e w2 ⟨rfl, hg⟩
    rw [show hmac (⟨some ⟨ph, 0, none⟩, 32, 32, S⟩ : Bs).xs (catB [(⟨bd, blen, bcap, ys⟩ : Bs)]) = M by rw [cat_one]; exact HM2.out]
    exact ⟨rfl, hg⟩
  (try simp only [Act.put, Act.eval, List.setIfInBounds_toArray, List.set_cons_zero, List.set_cons_succ, Array.getD_eq_getD_getElem?, List.getElem?_toArray, List.getElem?_cons_succ, List.getElem?_cons_zero, Option.getD_some, Nat.reduceAdd, List.nil_append, List.cons_append, En.get])
  refine fs_pure rfl (fun f => rfl) rfl (fun _ => .bool false) (fun f w1 => run_nea rfl Try.underlying26 Try.underlying5 (by kernel_rfl) (by kernel_rfl) (xs := M) (ys := M) rfl rfl HML.out HML.out (by simp)) (fun _ _ _ => rfl) ?_
  (try simp only [Act.put, Act.eval, List.setIfInBounds_toArray, List.set_cons_zero, List.set_cons_succ, Array.getD_eq_getD_getElem?, List.getElem?_toArray, List.getElem?_cons_succ, List.getElem?_cons_zero, Option.getD_some, Nat.reduceAdd, List.nil_append, List.cons_append, En.get])
  refine fs_end ?_
  intro f lof wn HF hk
  (try simp only [itms, itm, usesOf, readsOf, takesOf, List.find?, Nat.reduceBEq, List.flatMap_cons, List.flatMap_nil, Nat.reduceLT, if_true, if_false, Nat.reduceSub, List.getD_cons_zero, List.getD_cons_succ, List.append_nil, List.cons_append, List.nil_append, List.append_nil] at hk)
  clear HF
  clear HK
  have HK := Lib.hid hk
  clear hk
  generalize f 2 = x2
  generalize f 6 = x6
  clear lof f
  go_upto_region 10 with fail
  obtain ⟨k, hk, hk1, hk2⟩ : ∃ k : Nat, (if 64 < (len : Int) then (64 : Int) else (len : Int)) = k ∧ k ≤ 64 ∧ k ≤ len := by
    by_cases h : 64 < (len : Int)
    · exact ⟨64, by rw [if_pos h]; rfl, by omega, by omega⟩
    · exact ⟨len, by rw [if_neg h], by omega, by omega⟩
  rw [hk]
  clear hk
  obtain ⟨N, rfl⟩ := Int.eq_ofNat_of_zero_le ha0
  have hkc : k ≤ cap := Nat.le_trans hk2 HLC.out
  have hkb := HK.out.nil 5 .u8
  clear HK
  have HK := Lib.hid hkb
  clear hkb
  obtain ⟨m, hm⟩ : ∃ m, m = N % (65 - k) := ⟨_, rfl⟩
  have hm64 : k + m ≤ 64 := by
    have : N % (65 - k) < 65 - k := Nat.mod_lt _ (by omega)
    omega
  have HMM := Lib.hid (show (N : Int) % (65 - (k : Int)) = m by rw [hm, show (65 - (k : Int)) = ((65 - k : Nat) : Int) by omega]; rfl)
  clear hm
  have hk0 : (0 : Int) ≤ k := by omega
  have hk64 : (k : Int) ≤ 64 := by omega
  have q1 : IntKind.i64.wrap (65 - (k : Int)) = 65 - (k : Int) := IntWalk.i64_in _ (by omega)
  have q2 : IntKind.i64.wrap (N : Int) = N := IntWalk.i64_in _ (by omega)
  refine wp_region_sep [[.sl 5 .u8 none 0 0 []]] [.ints ph .u8 26 32 S, .sl 5 .u8 a2 (len + 65) c2 LX] [(3, [], [11]), (9, [], [3])] [9] 11 (by kernel_rfl) (by kernel_rfl) (w0 := w) HK.out ?_
  (try simp only [Act.put, Act.eval, List.setIfInBounds_toArray, List.set_cons_zero, List.set_cons_succ, Array.getD_eq_getD_getElem?, List.getElem?_toArray, List.getElem?_cons_succ, List.getElem?_cons_zero, Option.getD_some, Nat.reduceAdd, List.nil_append, List.cons_append, En.get])
  (repeat (first | (refine fs_skip rfl (fun f => rfl) ?_; (try simp only [Act.put, Act.eval, List.setIfInBounds_toArray, List.set_cons_zero, List.set_cons_succ, Array.getD_eq_getD_getElem?, List.getElem?_toArray, List.getElem?_cons_succ, List.getElem?_cons_zero, Option.getD_some, Nat.reduceAdd, List.nil_append, List.cons_append, En.get])) | (refine fs_move _ rfl rfl (fun f => rfl) rfl ?_ ?_; ((first | exact fun _ _ _ => rfl | exact fun f f' hcg => hcg _ (by kernel_rfl) | (intro f f' hcg; rw [hcg]; kernel_rfl) | (intro f f' hcg; rw [hcg, hcg]; (kernel_rfl; kernel_rfl)) | exact trivial)); (try simp only [Act.put, Act.eval, List.setIfInBounds_toArray, List.set_cons_zero, List.set_cons_succ, Array.getD_eq_getD_getElem?, List.getElem?_toArray, List.getElem?_cons_succ, List.getElem?_cons_zero, Option.getD_some, Nat.reduceAdd, List.nil_append, List.cons_append, En.get])) | (refine fs_assign _ rfl rfl (fun f => rfl) rfl ?_ ?_; ((first | exact fun _ _ _ => rfl | exact fun f f' hcg => hcg _ (by kernel_rfl) | (intro f f' hcg; rw [hcg]; kernel_rfl) | (intro f f' hcg; rw [hcg, hcg]; (kernel_rfl; kernel_rfl)) | exact trivial)); (try simp only [Act.put, Act.eval, List.setIfInBounds_toArray, List.set_cons_zero, List.set_cons_succ, Array.getD_eq_getD_getElem?, List.getElem?_toArray, List.getElem?_cons_succ, List.getElem?_cons_zero, Option.getD_some, Nat.reduceAdd, List.nil_append, List.cons_append, En.get])) | (fail) | (refine fs_pure rfl (fun f => rfl) rfl ?_ ?_ ?_ ?_; (rotate_left; (intro f w1; (skip); go_simp; (first | done | with_reducible rfl)); ((first | exact fun _ _ _ => rfl | exact fun f f' hcg => hcg _ (by kernel_rfl) | (intro f f' hcg; rw [hcg]; kernel_rfl) | (intro f f' hcg; rw [hcg, hcg]; (kernel_rfl; kernel_rfl)) | exact trivial)); (try simp only [Act.put, Act.eval, List.setIfInBounds_toArray, List.set_cons_zero, List.set_cons_succ, Array.getD_eq_getD_getElem?, List.getElem?_toArray, List.getElem?_cons_succ, List.getElem?_cons_zero, Option.getD_some, Nat.reduceAdd, List.nil_append, List.cons_append, En.get])))))
  have HSRC := Lib.hid (fun (w' : World) (g : w.grownBy w' none) => Bs.src (show (⟨ad, k, cap, xs.take k⟩ : Bs).ok w' from ⟨rdfront (HR.out.kept g) k hk2, okBtake HOX.out k, HN.out, (show k ≤ 3000 by omega)⟩))
  have HTL := Lib.hid (show (xs.take k).length = k by rw [List.length_take, HXL.out]; omega)
  refine fs_list rfl (fun f => rfl) (.res (fun _ v l => ∃ a c, v = .slice a k c ∧ l = [.sl 5 .u8 a k c (xs.take k)])) (fun f => ⟨_, rfl, Nat.le_of_ble_eq_true rfl⟩) ?_ (fun _ _ _ => rfl) ?_
  · intro f lof w1 Lf HF HK1 Q' hQ
    clear HF
    (try simp only [itms, itm, usesOf, readsOf, takesOf, List.find?, Nat.reduceBEq, List.flatMap_cons, List.flatMap_nil, Nat.reduceLT, if_true, if_false, Nat.reduceSub, List.getD_cons_zero, List.getD_cons_succ, List.append_nil, List.cons_append, List.nil_append, List.append_nil] at HK1)
    refine wpList_app_own rfl HK1 _ _ 22 rfl 5 (.int .u8 0) 1 Try.underlying22 (by kernel_rfl) rfl .u8 _ _ _ _ rfl (.here _) _ k (xs.take k) rfl HTL.out (HSRC.out _ HK1.grown) (by unfold maxLen; omega) (by omega) ?_
    intro a' c' w' hk
    rw [Nat.zero_add, List.nil_append] at hk
    rw [Nat.zero_add]
    exact hQ _ _ ⟨_, ⟨a', c', rfl, rfl⟩, hk⟩
  (try simp only [Act.put, Act.eval, List.setIfInBounds_toArray, List.set_cons_zero, List.set_cons_succ, Array.getD_eq_getD_getElem?, List.getElem?_toArray, List.getElem?_cons_succ, List.getElem?_cons_zero, Option.getD_some, Nat.reduceAdd, List.nil_append, List.cons_append, En.get])
  (repeat (first | (refine fs_skip rfl (fun f => rfl) ?_; (try simp only [Act.put, Act.eval, List.setIfInBounds_toArray, List.set_cons_zero, List.set_cons_succ, Array.getD_eq_getD_getElem?, List.getElem?_toArray, List.getElem?_cons_succ, List.getElem?_cons_zero, Option.getD_some, Nat.reduceAdd, List.nil_append, List.cons_append, En.get])) | (refine fs_move _ rfl rfl (fun f => rfl) rfl ?_ ?_; ((first | exact fun _ _ _ => rfl | exact fun f f' hcg => hcg _ (by kernel_rfl) | (intro f f' hcg; rw [hcg]; kernel_rfl) | (intro f f' hcg; rw [hcg, hcg]; (kernel_rfl; kernel_rfl)) | exact trivial)); (try simp only [Act.put, Act.eval, List.setIfInBounds_toArray, List.set_cons_zero, List.set_cons_succ, Array.getD_eq_getD_getElem?, List.getElem?_toArray, List.getElem?_cons_succ, List.getElem?_cons_zero, Option.getD_some, Nat.reduceAdd, List.nil_append, List.cons_append, En.get])) | (refine fs_assign _ rfl rfl (fun f => rfl) rfl ?_ ?_; ((first | exact fun _ _ _ => rfl | exact fun f f' hcg => hcg _ (by kernel_rfl) | (intro f f' hcg; rw [hcg]; kernel_rfl) | (intro f f' hcg; rw [hcg, hcg]; (kernel_rfl; kernel_rfl)) | exact trivial)); (try simp only [Act.put, Act.eval, List.setIfInBounds_toArray, List.set_cons_zero, List.set_cons_succ, Array.getD_eq_getD_getElem?, List.getElem?_toArray, List.getElem?_cons_succ, List.getElem?_cons_zero, Option.getD_some, Nat.reduceAdd, List.nil_append, List.cons_append, En.get])) | (fail) | (refine fs_pure rfl (fun f => rfl) rfl ?_ ?_ ?_ ?_; (rotate_left; (intro f w1; (skip); go_simp; (first | done | with_reducible rfl)); ((first | exact fun _ _ _ => rfl | exact fun f f' hcg => hcg _ (by kernel_rfl) | (intro f f' hcg; rw [hcg]; kernel_rfl) | (intro f f' hcg; rw [hcg, hcg]; (kernel_rfl; kernel_rfl)) | exact trivial)); (try simp only [Act.put, Act.eval, List.setIfInBounds_toArray, List.set_cons_zero, List.set_cons_succ, Array.getD_eq_getD_getElem?, List.getElem?_toArray, List.getElem?_cons_succ, List.getElem?_cons_zero, Option.getD_some, Nat.reduceAdd, List.nil_append, List.cons_append, En.get])))))
  refine fs_pure rfl (fun f => rfl) rfl (fun _ => .int .i64 m) (fun f w1 => ?_) (fun _ _ _ => rfl) ?_
  · have hne : (65 - (k : Int) == 0) = false := beq_eq_false_iff_ne.2 (by omega)
    have hne2 : ¬ (65 - (k : Int) = 0) := by omega
    have ht : (N : Int).tmod (65 - (k : Int)) = m := by rw [Int.tmod_eq_emod_of_nonneg (by omega)]; exact HMM.out
    go_simp
  (try simp only [Act.put, Act.eval, List.setIfInBounds_toArray, List.set_cons_zero, List.set_cons_succ, Array.getD_eq_getD_getElem?, List.getElem?_toArray, List.getElem?_cons_succ, List.getElem?_cons_zero, Option.getD_some, Nat.reduceAdd, List.nil_append, List.cons_append, En.get])
  refine fs_list rfl (fun f => rfl) (.res (fun _ v l => ∃ a c, v = .slice a (k + m) c ∧ l = [.sl 5 .u8 a (k + m) c (xs.take k ++ zer m)])) (fun f => ⟨_, rfl, Nat.le_of_ble_eq_true rfl⟩) ?_ (fun _ _ _ => rfl) ?_
  · intro f lof w1 Lf HF HK1 Q' hQ
    obtain ⟨a3, c3, hv, hl⟩ := HF 3 (by kernel_rfl)
    clear HF
    (try simp only [itms, itm, usesOf, readsOf, takesOf, List.find?, Nat.reduceBEq, List.flatMap_cons, List.flatMap_nil, Nat.reduceLT, if_true, if_false, Nat.reduceSub, List.getD_cons_zero, List.getD_cons_succ, List.append_nil, List.cons_append, List.nil_append, hl] at HK1)
    refine wpList_app_zeros_any rfl HK1 _ _ 22 3 rfl 5 .u8 1 Try.underlying22 Try.underlying3 (by kernel_rfl) _ _ _ _ hv (.here _) m _ rfl rfl (by unfold maxLen; omega) (by omega) ?_
    intro a' c' w' hk
    exact hQ _ _ ⟨_, ⟨a', c', rfl, rfl⟩, hk⟩
  (try simp only [Act.put, Act.eval, List.setIfInBounds_toArray, List.set_cons_zero, List.set_cons_succ, Array.getD_eq_getD_getElem?, List.getElem?_toArray, List.getElem?_cons_succ, List.getElem?_cons_zero, Option.getD_some, Nat.reduceAdd, List.nil_append, List.cons_append, En.get])
  (repeat (first | (refine fs_skip rfl (fun f => rfl) ?_; (try simp only [Act.put, Act.eval, List.setIfInBounds_toArray, List.set_cons_zero, List.set_cons_succ, Array.getD_eq_getD_getElem?, List.getElem?_toArray, List.getElem?_cons_succ, List.getElem?_cons_zero, Option.getD_some, Nat.reduceAdd, List.nil_append, List.cons_append, En.get])) | (refine fs_move _ rfl rfl (fun f => rfl) rfl ?_ ?_; ((first | exact fun _ _ _ => rfl | exact fun f f' hcg => hcg _ (by kernel_rfl) | (intro f f' hcg; rw [hcg]; kernel_rfl) | (intro f f' hcg; rw [hcg, hcg]; (kernel_rfl; kernel_rfl)) | exact trivial)); (try simp only [Act.put, Act.eval, List.setIfInBounds_toArray, List.set_cons_zero, List.set_cons_succ, Array.getD_eq_getD_getElem?, List.getElem?_toArray, List.getElem?_cons_succ, List.getElem?_cons_zero, Option.getD_some, Nat.reduceAdd, List.nil_append, List.cons_append, En.get])) | (refine fs_assign _ rfl rfl (fun f => rfl) rfl ?_ ?_; ((first | exact fun _ _ _ => rfl | exact fun f f' hcg => hcg _ (by kernel_rfl) | (intro f f' hcg; rw [hcg]; kernel_rfl) | (intro f f' hcg; rw [hcg, hcg]; (kernel_rfl; kernel_rfl)) | exact trivial)); (try simp only [Act.put, Act.eval, List.setIfInBounds_toArray, List.set_cons_zero, List.set_cons_succ, Array.getD_eq_getD_getElem?, List.getElem?_toArray, List.getElem?_cons_succ, List.getElem?_cons_zero, Option.getD_some, Nat.reduceAdd, List.nil_append, List.cons_append, En.get])) | (fail) | (refine fs_pure rfl (fun f => rfl) rfl ?_ ?_ ?_ ?_; (rotate_left; (intro f w1; (skip); go_simp; (first | done | with_reducible rfl)); ((first | exact fun _ _ _ => rfl | exact fun f f' hcg => hcg _ (by kernel_rfl) | (intro f f' hcg; rw [hcg]; kernel_rfl) | (intro f f' hcg; rw [hcg, hcg]; (kernel_rfl; kernel_rfl)) | exact trivial)); (try simp only [Act.put, Act.eval, List.setIfInBounds_toArray, List.set_cons_zero, List.set_cons_succ, Array.getD_eq_getD_getElem?, List.getElem?_toArray, List.getElem?_cons_succ, List.getElem?_cons_zero, Option.getD_some, Nat.reduceAdd, List.nil_append, List.cons_append, En.get])))))
  refine fs_end ?_
  intro f lof wn HF hk
  obtain ⟨a3, c3, hv, hl⟩ := HF 9 (by decide)
  (try simp only [itms, itm, usesOf, readsOf, takesOf, List.find?, Nat.reduceBEq, List.flatMap_cons, List.flatMap_nil, Nat.reduceLT, if_true, if_false, Nat.reduceSub, List.getD_cons_zero, List.getD_cons_succ, List.append_nil, List.cons_append, List.nil_append, hl] at hk)
  rw [hv]
  generalize f 3 = x3
  clear HF hv hl f lof
  clear HK
  have HK := Lib.hid hk
  clear hk
  have HKM := Lib.hid (show hmac (xs.take k ++ zer m) ys = hmac (xs.take k) ys by rw [hmac, hmac, kpad_zer (xs.take k) m (by rw [HTL.out]; exact hm64)])
  have HT2 := Lib.hid (okBtake HOX.out k)
  have HT3 := Lib.hid (show okB 256 (xs.take k ++ zer m) from ok_app HT2.out (ok_zer (by decide) _))
  have HBX := Lib.hid (fun (w' : World) (g : w.grownBy w' none) => (show (⟨ad, k, cap, xs.take k⟩ : Bs).ok w' from ⟨rdfront (HR.out.kept g) k hk2, HT2.out, HN.out, (show k ≤ 3000 by omega)⟩))
  obtain ⟨M3, hM3⟩ : ∃ M3, M3 = hmac (xs.take k) ys := ⟨_, rfl⟩
  rw [← hM3] at HKM
  have HM3 := Lib.hid hM3.symm
  have HML3 := Lib.hid (show M3.length = 32 by rw [hM3]; exact length_hmac _ _)
  clear hM3
  go_wp2_with fail
  obtain ⟨sb, hsb⟩ : ∃ sb, wn.heap.size = sb := ⟨_, rfl⟩
  have hkb := HK.out.blk (.cells #[Value.slice bd blen bcap] 22 (0, 0)) hsb
  rw [hsb]
  clear hsb
  generalize wn.alloc (.cells #[Value.slice bd blen bcap] 22 (0, 0)) = wn at hkb ⊢
  clear HK
  have HK := Lib.hid hkb
  clear hkb
  have q4 := mac_any ⟨ad, k, cap, xs.take k⟩ _ 1 1 [⟨bd, blen, bcap, ys⟩] _ (HBX.out _ HK.out.grown) rfl (own_parts (bs := [⟨bd, blen, bcap, ys⟩]) HK.out (.here _) rfl) (one_ok (HBB.out _ HK.out.grown)) (fun h => by cases h) (by decide)
  rw [show hmac (⟨ad, k, cap, xs.take k⟩ : Bs).xs (catB [(⟨bd, blen, bcap, ys⟩ : Bs)]) = M3 by rw [cat_one]; exact HM3.out] at q4
  refine q4.mono ?_
  clear q4
  rintro e w7 ⟨rfl, hg⟩
  have hkb := HK.out.grow hg
  clear hg
  clear HK
  have HK := Lib.hid hkb
  clear hkb
  go_wp2_with fail
  obtain ⟨sb, hsb⟩ : ∃ sb, w7.heap.size = sb := ⟨_, rfl⟩
  have hkb := HK.out.blk (.cells #[Value.slice bd blen bcap] 22 (0, 0)) hsb
  rw [hsb]
  clear hsb
  generalize w7.alloc (.cells #[Value.slice bd blen bcap] 22 (0, 0)) = wn at hkb ⊢
  clear HK
  have HK := Lib.hid hkb
  clear hkb
  have q4 := mac_any ⟨a3, k + m, c3, xs.take k ++ zer m⟩ _ 1 1 [⟨bd, blen, bcap, ys⟩] _ (own_bs HK.out (.next _ (.next _ (.here _))) HT3.out (by omega)) rfl (own_parts (bs := [⟨bd, blen, bcap, ys⟩]) HK.out (.here _) rfl) (one_ok (HBB.out _ HK.out.grown)) (fun h => by cases h) (by decide)
  rw [show hmac (⟨a3, k + m, c3, xs.take k ++ zer m⟩ : Bs).xs (catB [(⟨bd, blen, bcap, ys⟩ : Bs)]) = M3 by rw [cat_one]; exact HKM.out] at q4
  refine q4.mono ?_
  clear q4
  rintro e w8 ⟨rfl, hg⟩
  have hkb := HK.out.grow hg
  clear hg
  clear HK
  have HK := Lib.hid hkb
  clear hkb
  go_wp2_with (refine wpList_eql rfl 26 _ _ _ rfl 32 _ .u8 Try.underlying26 Try.underlying5 (by kernel_rfl) (by kernel_rfl) M3 M3 rfl rfl HML3.out HML3.out true (by simp) ?_)
  exact bodyPost_ret (results_tmp rfl _ _ _) rfl ⟨rfl, HK.out.grown⟩
end Go.Proofs.Ytjogdbiaiflmpaa
