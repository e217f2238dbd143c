/- A tag, walked: the reference's. -/
import Derived.Test.YthhijeokeljcjaaAeF
namespace Go.Proofs.Ythhijeokeljcjaa
set_option linter.unusedVariables false
set_option linter.unusedSimpArgs false
open Go.RowKit Go.Proofs.YthhijeokeljcjaaL

theorem own_lt {w0 w : World} {L : List It} (HK : Own w0 w L) {e : TypeId} {k : IntKind} {a : Option Addr} {n c : Nat} {s : List Int} (h : Has (.sl e k a n c s) L) : ∀ x, a = some x → x.block < w.heap.size := fun x hx => by
  subst hx
  exact ((HK.get h).lt x.block rfl).2
theorem copied32 {X : List Int} (h : X.length = 32) : (zer 32).take 0 ++ X.take 32 ++ (zer 32).drop (0 + 32) = X := by
  rw [List.take_zero, List.nil_append, List.take_of_length_le (by omega), List.drop_eq_nil_of_le (by rw [length_zer]; decide), List.append_nil]

set_option maxHeartbeats 8000000 in
set_option maxRecDepth 100000 in
theorem rtag_any (key : List Int) (n : Int) (M C : Bs) (w : World) (hk : key.length = 32) (hko : okB 256 key) (hn0 : 0 ≤ n) (hn1 : n < 18446744073709551616) (hm : M.ok w) (hc : C.ok w) :
    Calls Try.prog 18 #[.agg (encK .u8 key), .int .u64 n, M.val, C.val] w fun e w' => e = .returned (.agg (encK .u8 (tagL key n M.xs C.xs))) ∧ w.grownBy w' none := by
  obtain ⟨ad, len, cap, xs⟩ := M
  obtain ⟨bd, bn, bcap, ys⟩ := C
  have HM := Lib.hid (fun (w' : World) (g : w.grownBy w' none) => Bs.src (Bs.ok_keep hm g))
  have HC := Lib.hid (fun (w' : World) (g : w.grownBy w' none) => Bs.src (Bs.ok_keep hc g))
  have hl3 : len ≤ 3000 := hm.2.2.2
  have hb3 : bn ≤ 3000 := hc.2.2.2
  have HXL := Lib.hid (show xs.length = len from hm.1.1)
  have HYL := Lib.hid (show ys.length = bn from hc.1.1)
  have HXO := Lib.hid (show okB 256 xs from hm.2.1)
  have HYO := Lib.hid (show okB 256 ys from hc.2.1)
  clear hm hc
  show Calls Try.prog _ #[.agg (encK .u8 key), .int .u64 n, .slice ad len cap, .slice bd bn bcap] w fun e w' => e = .returned (.agg (encK .u8 (tagL key n xs ys))) ∧ w.grownBy w' none
  have HKO := Lib.hid hko
  have HKL := Lib.hid hk
  have HN0 := Lib.hid hn0
  have HN1 := Lib.hid hn1
  clear hk hko hn0 hn1
  obtain ⟨B, hB⟩ : ∃ B, B = blk key 0 (nonceL n) := ⟨_, rfl⟩
  have HBL := Lib.hid (show B.length = 64 by rw [hB]; exact length_blk _ _ _)
  have HBO := Lib.hid (show okB 256 B by rw [hB]; exact ok_blk _ _ _)
  have HB := Lib.hid hB
  obtain ⟨K1, hK1⟩ : ∃ K1, K1 = B.take 32 := ⟨_, rfl⟩
  have HK1L := Lib.hid (show K1.length = 32 by rw [hK1, List.length_take, HBL.out]; rfl)
  have HK1O := Lib.hid (show okB 256 K1 by rw [hK1]; exact fun x hx => HBO.out x (List.mem_of_mem_take hx))
  have HKT := Lib.hid hK1
  obtain ⟨T, hT⟩ : ∃ T, T = tagL key n xs ys := ⟨_, rfl⟩
  rw [← hT]
  have HT := Lib.hid (show digB 256 16 (tagV K1 (macIn xs ys)) = T by rw [hT, tagL, hK1, hB])
  have HTL := Lib.hid (show T.length = 16 by rw [hT]; exact length_tagL _ _ _ _)
  clear hB hK1 hT
  have hl3i : (len : Int) ≤ 3000 := by omega
  have hb3i : (bn : Int) ≤ 3000 := by omega
  obtain ⟨p, hp⟩ : ∃ p, w.heap.size = p := ⟨_, rfl⟩
  have hk0 := (own_start w).ints .u8 22 32 key HKL.out hp
  have HK := Lib.hid hk0
  have HP := Lib.hid hp
  clear hk0 hp
  go_enter Try.func18, Try.ntmps18
  go_wp2_with ((refine wpList_new_ints rfl HK.out _ rfl .u8 40 16 (zer 16) (length_zer _) (fun w => by go_simp; first | exact ⟨rfl, rfl⟩ | kernel_rfl) ?_))
  rw [HP.out]
  intro wn p8 hkn
  have HKN := Lib.hid hkn
  clear hkn HK
  have HK := HKN
  clear HKN
  go_upto_region 1 with fail
  refine wp_region_sep [] [.ints p8 .u8 40 16 (zer 16), .ints p .u8 22 32 key] [(5, [], [4])] [5] 6 (by kernel_rfl) (by kernel_rfl) (w0 := w) HK.out ?_
  (try simp only [Act.put, Act.eval, List.setIfInBounds_toArray, List.set_cons_zero, List.set_cons_succ, Array.getD_eq_getD_getElem?, List.getElem?_toArray, List.getElem?_cons_succ, List.getElem?_cons_zero, Option.getD_some, Nat.reduceAdd, List.nil_append, List.cons_append, En.get])
  refine fs_read rfl (fun f => rfl) rfl (fun _ => .agg (encK .u8 key)) ?_ (fun _ _ _ => rfl) ?_
  · intro f lof w1 Lf HF HK1
    clear HF
    (try simp only [itms, itm, usesOf, readsOf, takesOf, List.find?, Nat.reduceBEq, List.flatMap_cons, List.flatMap_nil, Nat.reduceLT, if_true, if_false, Nat.reduceSub, List.getD_cons_zero, List.getD_cons_succ, List.append_nil, List.cons_append, List.nil_append, List.append_nil] at HK1)
    exact run_loadr rfl rfl (HK1.rd (.next _ (.here _))) Try.underlying22 (by kernel_rfl)
  (try simp only [Act.put, Act.eval, List.setIfInBounds_toArray, List.set_cons_zero, List.set_cons_succ, Array.getD_eq_getD_getElem?, List.getElem?_toArray, List.getElem?_cons_succ, List.getElem?_cons_zero, Option.getD_some, Nat.reduceAdd, List.nil_append, List.cons_append, En.get])
  (repeat (first | (refine fs_skip rfl (fun f => rfl) ?_; (try simp only [Act.put, Act.eval, List.setIfInBounds_toArray, List.set_cons_zero, List.set_cons_succ, Array.getD_eq_getD_getElem?, List.getElem?_toArray, List.getElem?_cons_succ, List.getElem?_cons_zero, Option.getD_some, Nat.reduceAdd, List.nil_append, List.cons_append, En.get])) | (refine fs_move _ rfl rfl (fun f => rfl) rfl ?_ ?_; ((first | exact fun _ _ _ => rfl | exact fun f f' hcg => hcg _ (by kernel_rfl) | (intro f f' hcg; rw [hcg]; kernel_rfl) | (intro f f' hcg; rw [hcg, hcg]; (kernel_rfl; kernel_rfl)) | exact trivial)); (try simp only [Act.put, Act.eval, List.setIfInBounds_toArray, List.set_cons_zero, List.set_cons_succ, Array.getD_eq_getD_getElem?, List.getElem?_toArray, List.getElem?_cons_succ, List.getElem?_cons_zero, Option.getD_some, Nat.reduceAdd, List.nil_append, List.cons_append, En.get])) | (refine fs_assign _ rfl rfl (fun f => rfl) rfl ?_ ?_; ((first | exact fun _ _ _ => rfl | exact fun f f' hcg => hcg _ (by kernel_rfl) | (intro f f' hcg; rw [hcg]; kernel_rfl) | (intro f f' hcg; rw [hcg, hcg]; (kernel_rfl; kernel_rfl)) | exact trivial)); (try simp only [Act.put, Act.eval, List.setIfInBounds_toArray, List.set_cons_zero, List.set_cons_succ, Array.getD_eq_getD_getElem?, List.getElem?_toArray, List.getElem?_cons_succ, List.getElem?_cons_zero, Option.getD_some, Nat.reduceAdd, List.nil_append, List.cons_append, En.get])) | (fail) | (refine fs_pure rfl (fun f => rfl) rfl ?_ ?_ ?_ ?_; (rotate_left; (intro f w1; (skip); go_simp; (first | done | with_reducible rfl)); ((first | exact fun _ _ _ => rfl | exact fun f f' hcg => hcg _ (by kernel_rfl) | (intro f f' hcg; rw [hcg]; kernel_rfl) | (intro f f' hcg; rw [hcg, hcg]; (kernel_rfl; kernel_rfl)) | exact trivial)); (try simp only [Act.put, Act.eval, List.setIfInBounds_toArray, List.set_cons_zero, List.set_cons_succ, Array.getD_eq_getD_getElem?, List.getElem?_toArray, List.getElem?_cons_succ, List.getElem?_cons_zero, Option.getD_some, Nat.reduceAdd, List.nil_append, List.cons_append, En.get])))))
  refine fs_callv rfl (fun f => rfl) rfl 17 _ _ rfl (fun args w => by simp [callFunc, Try.func17]; rfl) (fun _ => .agg (encK .u8 (nonceL n))) ?_ (fun _ _ _ => rfl) ?_
  · intro f lof w1 Lf HF HK1
    simp only [List.map_toArray, List.map_cons, List.map_nil, Act.eval, Array.getD_eq_getD_getElem?, List.getElem?_toArray, List.getElem?_cons_succ, List.getElem?_cons_zero, Option.getD_some, List.append_nil]
    clear HF HK1
    have q4 := rnonce_any n w1 HN0.out HN1.out
    exact q4
  (try simp only [Act.put, Act.eval, List.setIfInBounds_toArray, List.set_cons_zero, List.set_cons_succ, Array.getD_eq_getD_getElem?, List.getElem?_toArray, List.getElem?_cons_succ, List.getElem?_cons_zero, Option.getD_some, Nat.reduceAdd, List.nil_append, List.cons_append, En.get])
  refine fs_callv rfl (fun f => rfl) rfl 24 _ _ rfl (fun args w => by simp [callFunc, Try.func24]; rfl) (fun _ => .agg (encK .u8 B)) ?_ (fun _ _ _ => rfl) ?_
  · intro f lof w1 Lf HF HK1
    simp only [List.map_toArray, List.map_cons, List.map_nil, Act.eval, Array.getD_eq_getD_getElem?, List.getElem?_toArray, List.getElem?_cons_succ, List.getElem?_cons_zero, Option.getD_some, List.append_nil]
    clear HF HK1
    have q4 := rblock_any key (nonceL n) 0 w1 HKL.out (length_nonceL n) HKO.out (ok_nonceL n) (by decide) (by decide)
    rw [← HB.out] at q4
    exact q4
  (try simp only [Act.put, Act.eval, List.setIfInBounds_toArray, List.set_cons_zero, List.set_cons_succ, Array.getD_eq_getD_getElem?, List.getElem?_toArray, List.getElem?_cons_succ, List.getElem?_cons_zero, Option.getD_some, Nat.reduceAdd, List.nil_append, List.cons_append, En.get])
  refine fs_list rfl (fun f => rfl) (.res (fun _ v it => ∃ q, v = .pointer (some ⟨q, 0, none⟩) ∧ it = [.ints q .u8 44 64 (zer 64)])) (fun f => ⟨_, rfl, Nat.le_of_ble_eq_true rfl⟩) ?_ (fun _ _ _ => rfl) ?_
  · intro f lof w1 Lf HF HK1 Q' hQ
    clear HF
    refine wpList_new_ints rfl HK1 _ rfl .u8 44 64 (zer 64) (length_zer _) (fun w => by go_simp; first | exact ⟨rfl, rfl⟩ | kernel_rfl) ?_
    intro w' q hk
    exact hQ _ _ ⟨_, ⟨q, rfl, rfl⟩, hk⟩
  (try simp only [Act.put, Act.eval, List.setIfInBounds_toArray, List.set_cons_zero, List.set_cons_succ, Array.getD_eq_getD_getElem?, List.getElem?_toArray, List.getElem?_cons_succ, List.getElem?_cons_zero, Option.getD_some, Nat.reduceAdd, List.nil_append, List.cons_append, En.get])
  refine fs_store rfl (fun f => rfl) (fun f it => ∃ q, f 4 = .pointer (some ⟨q, 0, none⟩) ∧ it = [.ints q .u8 44 64 B]) rfl ?_ (fun f f' h => by rw [h 4 (by kernel_rfl)]) ?_
  · intro f lof w1 Lf HF HK1 Q' hQ
    obtain ⟨q, hv, hl⟩ := HF 4 (by kernel_rfl)
    clear HF
    (try simp only [itms, itm, usesOf, readsOf, takesOf, List.find?, Nat.reduceBEq, List.flatMap_cons, List.flatMap_nil, Nat.reduceLT, if_true, if_false, Nat.reduceSub, List.getD_cons_zero, List.getD_cons_succ, List.append_nil, List.cons_append, List.nil_append, hl] at HK1)
    refine wpList_put_row rfl HK1 44 _ _ rfl _ _ B hv rfl _ _ _ (.here _) (by exact HBL.out) (by kernel_rfl) ?_
    intro w' hk
    exact hQ _ ⟨_, ⟨q, hv, rfl⟩, hk⟩
  (try simp only [Act.put, Act.eval, List.setIfInBounds_toArray, List.set_cons_zero, List.set_cons_succ, Array.getD_eq_getD_getElem?, List.getElem?_toArray, List.getElem?_cons_succ, List.getElem?_cons_zero, Option.getD_some, Nat.reduceAdd, List.nil_append, List.cons_append, En.get])
  refine fs_end ?_
  intro f lof wn HF hk
  obtain ⟨q, hv, hl⟩ := HF 5 (by decide)
  (try simp only [itms, itm, usesOf, readsOf, takesOf, List.find?, Nat.reduceBEq, List.flatMap_cons, List.flatMap_nil, Nat.reduceLT, if_true, if_false, Nat.reduceSub, List.getD_cons_zero, List.getD_cons_succ, List.append_nil, List.cons_append, List.nil_append, hl] at hk)
  rw [hv]
  clear HF hv hl f lof
  clear HK
  have HK := Lib.hid hk
  clear hk
  go_wp2_with ((refine wpList_new_ints rfl HK.out _ rfl .u8 22 32 (zer 32) (length_zer _) (fun w => by go_simp; first | exact ⟨rfl, rfl⟩ | kernel_rfl) ?_))
  intro wn p10 hkn
  have HKN := Lib.hid hkn
  clear hkn HK
  have HK := HKN
  clear HKN
  go_upto_region 3 with fail
  refine wp_region_sep [[.ints p10 .u8 22 32 (zer 32)]] [.ints q .u8 44 64 B, .ints p8 .u8 40 16 (zer 16), .ints p .u8 22 32 key] [(2, [], [3])] [2] 3 (by kernel_rfl) (by kernel_rfl) (w0 := w) HK.out ?_
  (try simp only [Act.put, Act.eval, List.setIfInBounds_toArray, List.set_cons_zero, List.set_cons_succ, Array.getD_eq_getD_getElem?, List.getElem?_toArray, List.getElem?_cons_succ, List.getElem?_cons_zero, Option.getD_some, Nat.reduceAdd, List.nil_append, List.cons_append, En.get])
  (repeat (first | (refine fs_skip rfl (fun f => rfl) ?_; (try simp only [Act.put, Act.eval, List.setIfInBounds_toArray, List.set_cons_zero, List.set_cons_succ, Array.getD_eq_getD_getElem?, List.getElem?_toArray, List.getElem?_cons_succ, List.getElem?_cons_zero, Option.getD_some, Nat.reduceAdd, List.nil_append, List.cons_append, En.get])) | (refine fs_move _ rfl rfl (fun f => rfl) rfl ?_ ?_; ((first | exact fun _ _ _ => rfl | exact fun f f' hcg => hcg _ (by kernel_rfl) | (intro f f' hcg; rw [hcg]; kernel_rfl) | (intro f f' hcg; rw [hcg, hcg]; (kernel_rfl; kernel_rfl)) | exact trivial)); (try simp only [Act.put, Act.eval, List.setIfInBounds_toArray, List.set_cons_zero, List.set_cons_succ, Array.getD_eq_getD_getElem?, List.getElem?_toArray, List.getElem?_cons_succ, List.getElem?_cons_zero, Option.getD_some, Nat.reduceAdd, List.nil_append, List.cons_append, En.get])) | (refine fs_assign _ rfl rfl (fun f => rfl) rfl ?_ ?_; ((first | exact fun _ _ _ => rfl | exact fun f f' hcg => hcg _ (by kernel_rfl) | (intro f f' hcg; rw [hcg]; kernel_rfl) | (intro f f' hcg; rw [hcg, hcg]; (kernel_rfl; kernel_rfl)) | exact trivial)); (try simp only [Act.put, Act.eval, List.setIfInBounds_toArray, List.set_cons_zero, List.set_cons_succ, Array.getD_eq_getD_getElem?, List.getElem?_toArray, List.getElem?_cons_succ, List.getElem?_cons_zero, Option.getD_some, Nat.reduceAdd, List.nil_append, List.cons_append, En.get])) | (fail) | (refine fs_pure rfl (fun f => rfl) rfl ?_ ?_ ?_ ?_; (rotate_left; (intro f w1; (skip); go_simp; (first | done | with_reducible rfl)); ((first | exact fun _ _ _ => rfl | exact fun f f' hcg => hcg _ (by kernel_rfl) | (intro f f' hcg; rw [hcg]; kernel_rfl) | (intro f f' hcg; rw [hcg, hcg]; (kernel_rfl; kernel_rfl)) | exact trivial)); (try simp only [Act.put, Act.eval, List.setIfInBounds_toArray, List.set_cons_zero, List.set_cons_succ, Array.getD_eq_getD_getElem?, List.getElem?_toArray, List.getElem?_cons_succ, List.getElem?_cons_zero, Option.getD_some, Nat.reduceAdd, List.nil_append, List.cons_append, En.get])))))
  refine fs_list rfl (fun f => rfl) (.res (fun _ v it => it = [.ints p10 .u8 22 32 K1])) (fun f => ⟨_, rfl, Nat.le_of_ble_eq_true rfl⟩) ?_ (fun _ _ _ => rfl) ?_
  · intro f lof w1 Lf HF HK1 Q' hQ
    clear HF
    (try simp only [itms, itm, usesOf, readsOf, takesOf, List.find?, Nat.reduceBEq, List.flatMap_cons, List.flatMap_nil, Nat.reduceLT, if_true, if_false, Nat.reduceSub, List.getD_cons_zero, List.getD_cons_succ, List.append_nil, List.cons_append, List.nil_append, List.append_nil] at HK1)
    refine Go.Proofs.YthhijeokeljcjaaL.wpList_copy_own rfl HK1 _ _ 24 24 rfl 5 p10 0 32 32 (some ⟨q, 0, none⟩) 32 64 .u8 22 32 (zer 32) K1 Try.underlying24 (by kernel_rfl) rfl rfl (by rw [HKT.out]; exact rdfront (HK1.rd (.next _ (.here _))) 32 (by decide)) 32 (by decide) (by decide) (.here _) ?_
    intro wn hk
    rw [copied32 HK1L.out] at hk
    exact hQ _ _ ⟨_, rfl, hk⟩
  (try simp only [Act.put, Act.eval, List.setIfInBounds_toArray, List.set_cons_zero, List.set_cons_succ, Array.getD_eq_getD_getElem?, List.getElem?_toArray, List.getElem?_cons_succ, List.getElem?_cons_zero, Option.getD_some, Nat.reduceAdd, List.nil_append, List.cons_append, En.get])
  refine fs_end ?_
  intro f lof wn HF hk
  have hl3 := HF 2 (by decide)
  (try simp only [itms, itm, usesOf, readsOf, takesOf, List.find?, Nat.reduceBEq, List.flatMap_cons, List.flatMap_nil, Nat.reduceLT, if_true, if_false, Nat.reduceSub, List.getD_cons_zero, List.getD_cons_succ, List.append_nil, List.cons_append, List.nil_append, show lof 2 = _ from hl3] at hk)
  generalize f 2 = x3
  clear HF hl3 f lof
  have hk2 := (hk.sub (.cons_cons _ (.cons _ (.cons_cons _ (List.nil_sublist _))))).nil 5 .u8
  clear hk
  clear HK
  have HK := Lib.hid hk2
  clear hk2
  go_wp2_with (at_builtin; refine wpList_app_own rfl HK.out _ _ 24 rfl 5 (.int .u8 0) 1 Try.underlying24 (by kernel_rfl) rfl .u8 _ _ _ _ rfl (by first | exact Del.here _ | exact Del.next _ (Del.here _) | exact Del.next _ (Del.next _ (Del.here _)) | exact Del.next _ (Del.next _ (Del.next _ (Del.here _))) | exact Del.next _ (Del.next _ (Del.next _ (Del.next _ (Del.here _)))) | exact Del.next _ (Del.next _ (Del.next _ (Del.next _ (Del.next _ (Del.here _))))) | exact Del.next _ (Del.next _ (Del.next _ (Del.next _ (Del.next _ (Del.next _ (Del.here _)))))) | exact Del.next _ (Del.next _ (Del.next _ (Del.next _ (Del.next _ (Del.next _ (Del.next _ (Del.here _))))))) | exact Del.next _ (Del.next _ (Del.next _ (Del.next _ (Del.next _ (Del.next _ (Del.next _ (Del.next _ (Del.here _)))))))) | exact Del.next _ (Del.next _ (Del.next _ (Del.next _ (Del.next _ (Del.next _ (Del.next _ (Del.next _ (Del.next _ (Del.here _)))))))))) _ len xs rfl HXL.out (HM.out _ HK.out.grown) (by unfold maxLen; omega) (by omega) ?_)
  intro a1 c1 w2 hk
  clear HK
  have HK := Lib.hid hk
  clear hk
  go_wp2_with fail
  have q4 := rfill_own HK.out (by omega)
  refine q4.mono ?_
  clear q4
  rintro e w3 ⟨a2, c2, rfl, hk⟩
  clear HK
  have HK := Lib.hid hk
  clear hk
  obtain ⟨N1, hN1'⟩ : ∃ N1, N1 = len + fillN len := ⟨_, rfl⟩
  rw [← hN1'] at HK ⊢
  have hN13 : N1 ≤ 4000 := by rw [hN1']; unfold fillN; omega
  have HF2 := Lib.hid (show fillN (N1 + bn) = fillN bn by rw [hN1']; unfold fillN; omega)
  have HN1' := Lib.hid hN1'
  clear hN1'
  go_wp2_with (at_builtin; refine wpList_app_own rfl HK.out _ _ 24 rfl 5 (.int .u8 0) 1 Try.underlying24 (by kernel_rfl) rfl .u8 _ _ _ _ rfl (by first | exact Del.here _ | exact Del.next _ (Del.here _) | exact Del.next _ (Del.next _ (Del.here _)) | exact Del.next _ (Del.next _ (Del.next _ (Del.here _))) | exact Del.next _ (Del.next _ (Del.next _ (Del.next _ (Del.here _)))) | exact Del.next _ (Del.next _ (Del.next _ (Del.next _ (Del.next _ (Del.here _))))) | exact Del.next _ (Del.next _ (Del.next _ (Del.next _ (Del.next _ (Del.next _ (Del.here _)))))) | exact Del.next _ (Del.next _ (Del.next _ (Del.next _ (Del.next _ (Del.next _ (Del.next _ (Del.here _))))))) | exact Del.next _ (Del.next _ (Del.next _ (Del.next _ (Del.next _ (Del.next _ (Del.next _ (Del.next _ (Del.here _)))))))) | exact Del.next _ (Del.next _ (Del.next _ (Del.next _ (Del.next _ (Del.next _ (Del.next _ (Del.next _ (Del.next _ (Del.here _)))))))))) _ bn ys rfl HYL.out (HC.out _ HK.out.grown) (by unfold maxLen; omega) (by omega) ?_)
  intro a3 c3 w4 hk
  clear HK
  have HK := Lib.hid hk
  clear hk
  go_wp2_with fail
  have q4 := rfill_own HK.out (by omega)
  rw [HF2.out] at q4
  refine q4.mono ?_
  clear q4
  rintro e w5 ⟨a4, c4, rfl, hk⟩
  clear HK
  have HK := Lib.hid hk
  clear hk
  obtain ⟨N2, hN2'⟩ : ∃ N2, N2 = N1 + bn + fillN bn := ⟨_, rfl⟩
  rw [← hN2'] at HK ⊢
  have hN23 : N2 ≤ 8000 := by rw [hN2']; unfold fillN; omega
  clear hN2'
  go_wp2_with fail
  have q4 := reight_any (len : Int) w5 (by omega) (by omega)
  refine q4.mono ?_
  clear q4
  rintro e w6 ⟨a5, c5, rfl, ho, hg⟩
  have hkb := own_back HK.out hg ho
  clear ho hg
  clear HK
  have HK := Lib.hid hkb
  clear hkb
  have hs := Bs.src (own_bs HK.out (.here _) (ok_le8 _) (by decide))
  have HL8 := Lib.hid (length_le8 (len : Int))
  go_wp2_with (at_builtin; refine wpList_app_own rfl HK.out _ _ 24 rfl 5 (.int .u8 0) 1 Try.underlying24 (by kernel_rfl) rfl .u8 _ _ _ _ rfl (.next _ (.here _)) _ 8 (le8 (len : Int)) rfl HL8.out hs (by unfold maxLen; omega) (by omega) ?_)
  intro a6 c6 w7 hk
  clear hs
  clear HK
  have HK := Lib.hid hk
  clear hk
  go_wp2_with fail
  have q4 := reight_any (bn : Int) w7 (by omega) (by omega)
  refine q4.mono ?_
  clear q4
  rintro e w8 ⟨a7, c7, rfl, ho, hg⟩
  have hkb := own_back HK.out hg ho
  clear ho hg
  clear HK
  have HK := Lib.hid hkb
  clear hkb
  have hs := Bs.src (own_bs HK.out (.here _) (ok_le8 _) (by decide))
  have HL9 := Lib.hid (length_le8 (bn : Int))
  go_wp2_with (at_builtin; refine wpList_app_own rfl HK.out _ _ 24 rfl 5 (.int .u8 0) 1 Try.underlying24 (by kernel_rfl) rfl .u8 _ _ _ _ rfl (.next _ (.here _)) _ 8 (le8 (bn : Int)) rfl HL9.out hs (by unfold maxLen; omega) (by omega) ?_)
  intro a8 c8 w9 hk
  clear hs
  rw [show xs ++ (zer (fillN len) ++ (ys ++ (zer (fillN bn) ++ (le8 (len : Int) ++ le8 (bn : Int))))) = macIn xs ys by simp [macIn, HXL.out, HYL.out]] at hk
  clear HK
  have HK := Lib.hid hk
  clear hk
  have HMO := Lib.hid (show okB 256 (macIn xs ys) from ok_app (ok_app (ok_app (ok_app (ok_app HXO.out (ok_zer (by decide) _)) HYO.out) (ok_zer (by decide) _)) (ok_le8 _)) (ok_le8 _))
  go_wp2_with (refine wpList_run rfl (run_loadr rfl rfl (HK.out.rd (by first | exact Has.here _ | exact Has.next _ (Has.here _) | exact Has.next _ (Has.next _ (Has.here _)) | exact Has.next _ (Has.next _ (Has.next _ (Has.here _))) | exact Has.next _ (Has.next _ (Has.next _ (Has.next _ (Has.here _)))) | exact Has.next _ (Has.next _ (Has.next _ (Has.next _ (Has.next _ (Has.here _))))) | exact Has.next _ (Has.next _ (Has.next _ (Has.next _ (Has.next _ (Has.next _ (Has.here _)))))) | exact Has.next _ (Has.next _ (Has.next _ (Has.next _ (Has.next _ (Has.next _ (Has.next _ (Has.here _))))))) | exact Has.next _ (Has.next _ (Has.next _ (Has.next _ (Has.next _ (Has.next _ (Has.next _ (Has.next _ (Has.here _)))))))) | exact Has.next _ (Has.next _ (Has.next _ (Has.next _ (Has.next _ (Has.next _ (Has.next _ (Has.next _ (Has.next _ (Has.here _))))))))))) Try.underlying22 (by kernel_rfl)) ?_)
  have q4 := rpoly_any K1 a8 (N2 + 8 + 8) c8 (macIn xs ys) w9 HK1L.out HK1O.out (HK.out.rdsl (.here _)) HMO.out (HK.out.cap (.here _)).1 (HK.out.cap (.here _)).2.1 (fun _ => own_lt HK.out (.here _))
  rw [HT.out] at q4
  refine q4.mono ?_
  clear q4
  rintro e w10 ⟨rfl, hg⟩
  have hkb := HK.out.grow hg
  clear hg
  clear HK
  have HK := Lib.hid hkb
  clear hkb
  go_wp2_with (refine wpList_put_row rfl HK.out 40 _ _ rfl _ _ T rfl rfl _ _ _ (by first | exact Upd.here _ | exact Upd.next _ (Upd.here _) | exact Upd.next _ (Upd.next _ (Upd.here _)) | exact Upd.next _ (Upd.next _ (Upd.next _ (Upd.here _))) | exact Upd.next _ (Upd.next _ (Upd.next _ (Upd.next _ (Upd.here _)))) | exact Upd.next _ (Upd.next _ (Upd.next _ (Upd.next _ (Upd.next _ (Upd.here _))))) | exact Upd.next _ (Upd.next _ (Upd.next _ (Upd.next _ (Upd.next _ (Upd.next _ (Upd.here _)))))) | exact Upd.next _ (Upd.next _ (Upd.next _ (Upd.next _ (Upd.next _ (Upd.next _ (Upd.next _ (Upd.here _))))))) | exact Upd.next _ (Upd.next _ (Upd.next _ (Upd.next _ (Upd.next _ (Upd.next _ (Upd.next _ (Upd.next _ (Upd.here _)))))))) | exact Upd.next _ (Upd.next _ (Upd.next _ (Upd.next _ (Upd.next _ (Upd.next _ (Upd.next _ (Upd.next _ (Upd.next _ (Upd.here _)))))))))) (by exact HTL.out) (by kernel_rfl) ?_; (intro wn hkn; have HKN := Lib.hid hkn; clear hkn; clear HK; have HK := HKN; clear HKN))
  exact bodyPost_ret (results_own rfl _ HK.out _ rfl (by first | exact Has.here _ | exact Has.next _ (Has.here _) | exact Has.next _ (Has.next _ (Has.here _)) | exact Has.next _ (Has.next _ (Has.next _ (Has.here _))) | exact Has.next _ (Has.next _ (Has.next _ (Has.next _ (Has.here _)))) | exact Has.next _ (Has.next _ (Has.next _ (Has.next _ (Has.next _ (Has.here _))))) | exact Has.next _ (Has.next _ (Has.next _ (Has.next _ (Has.next _ (Has.next _ (Has.here _)))))) | exact Has.next _ (Has.next _ (Has.next _ (Has.next _ (Has.next _ (Has.next _ (Has.next _ (Has.here _))))))) | exact Has.next _ (Has.next _ (Has.next _ (Has.next _ (Has.next _ (Has.next _ (Has.next _ (Has.next _ (Has.here _)))))))) | exact Has.next _ (Has.next _ (Has.next _ (Has.next _ (Has.next _ (Has.next _ (Has.next _ (Has.next _ (Has.next _ (Has.here _)))))))))) _ Try.underlying40 rfl (by kernel_rfl)) rfl ⟨rfl, HK.out.grown⟩
end Go.Proofs.Ythhijeokeljcjaa
