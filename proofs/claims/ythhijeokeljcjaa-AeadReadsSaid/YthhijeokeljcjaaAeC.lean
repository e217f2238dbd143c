/- A tag, walked: the program's. -/
import Derived.Test.YthhijeokeljcjaaAeB
namespace Go.Proofs.Ythhijeokeljcjaa
set_option linter.unusedVariables false
set_option linter.unusedSimpArgs false
open Go.RowKit Go.Proofs.YthhijeokeljcjaaL

theorem ok_blk (key : List Int) (c : Int) (nonce : List Int) : okB 256 (blk key c nonce) := by
  intro x hx
  obtain ⟨j, -, rfl⟩ := List.mem_map.1 hx
  unfold outB
  omega
theorem length_blk (key : List Int) (c : Int) (nonce : List Int) : (blk key c nonce).length = 64 := length_outs _ _ _
/-- What is summed for a tag. -/
def macIn (more c : List Int) : List Int := more ++ zer (fillN more.length) ++ c ++ zer (fillN c.length) ++ le8 more.length ++ le8 c.length
def tagL (key : List Int) (n : Int) (more c : List Int) : List Int := digB 256 16 (tagV ((blk key 0 (nonceL n)).take 32) (macIn more c))
theorem length_tagL (key : List Int) (n : Int) (more c : List Int) : (tagL key n more c).length = 16 := length_digB _ _ _
theorem ok_tagL (key : List Int) (n : Int) (more c : List Int) : okB 256 (tagL key n more c) := ok_digB (by decide) _ _
theorem rdfront {k : IntKind} {w : World} {ad : Option Addr} {n : Nat} {xs : List Int} (h : Rd k w ad n xs) (m : Nat) (hm : m ≤ n) : Rd k w ad m (xs.take m) :=
  ⟨by rw [List.length_take, h.1]; omega, fun i hi => let ⟨x, h1, h2⟩ := h.2 i (by omega); ⟨x, h1, by rw [h2, List.getD_eq_getElem?_getD, List.getD_eq_getElem?_getD, List.getElem?_take_of_lt hi]⟩⟩
theorem six_ok {w : World} {b0 b1 b2 b3 b4 b5 : Bs} (h0 : b0.ok w) (h1 : b1.ok w) (h2 : b2.ok w) (h3 : b3.ok w) (h4 : b4.ok w) (h5 : b5.ok w) : ∀ b ∈ [b0, b1, b2, b3, b4, b5], b.ok w := fun b hb => by
  simp only [List.mem_cons, List.not_mem_nil, or_false] at hb
  rcases hb with rfl | rfl | rfl | rfl | rfl | rfl <;> assumption

set_option maxHeartbeats 8000000 in
set_option maxRecDepth 100000 in
theorem tag_any (key : List Int) (n : Int) (M C : Bs) (w : World) (hk : key.length = 32) (hko : okB 256 key) (hn0 : 0 ≤ n) (hn1 : n < 18446744073709551616) (hm : M.ok w) (hc : C.ok w) :
    Calls Try.prog 13 #[.agg (encK .u8 key), .int .u64 n, M.val, C.val] w fun e w' => e = .returned (.agg (encK .u8 (tagL key n M.xs C.xs))) ∧ w.grownBy w' none := by
  obtain ⟨ad, len, cap, xs⟩ := M
  obtain ⟨bd, bn, bcap, ys⟩ := C
  have HM := Lib.hid (fun (w' : World) (g : w.grownBy w' none) => Bs.ok_keep hm g)
  have HC := Lib.hid (fun (w' : World) (g : w.grownBy w' none) => Bs.ok_keep hc g)
  have hl3 : len ≤ 3000 := hm.2.2.2
  have hb3 : bn ≤ 3000 := hc.2.2.2
  have HXL := Lib.hid (show xs.length = len from hm.1.1)
  have HYL := Lib.hid (show ys.length = bn from hc.1.1)
  clear hm hc
  show Calls Try.prog _ #[.agg (encK .u8 key), .int .u64 n, .slice ad len cap, .slice bd bn bcap] w fun e w' => e = .returned (.agg (encK .u8 (tagL key n xs ys))) ∧ w.grownBy w' none
  have HKO := Lib.hid hko
  have HKL := Lib.hid hk
  have HN0 := Lib.hid hn0
  have HN1 := Lib.hid hn1
  clear hk hko hn0 hn1
  obtain ⟨B, hB⟩ : ∃ B, B = blk key 0 (nonceL n) := ⟨_, rfl⟩
  have HBL := Lib.hid (show B.length = 64 by rw [hB]; exact length_blk _ _ _)
  have HBO := Lib.hid (show okB 256 B by rw [hB]; exact ok_blk _ _ _)
  have HB := Lib.hid hB
  obtain ⟨K1, hK1⟩ : ∃ K1, K1 = B.take 32 := ⟨_, rfl⟩
  have HK1L := Lib.hid (show K1.length = 32 by rw [hK1, List.length_take, HBL.out]; rfl)
  have HK1O := Lib.hid (show okB 256 K1 by rw [hK1]; exact fun x hx => HBO.out x (List.mem_of_mem_take hx))
  have HKT := Lib.hid hK1
  obtain ⟨T, hT⟩ : ∃ T, T = tagL key n xs ys := ⟨_, rfl⟩
  rw [← hT]
  have HT := Lib.hid (show digB 256 16 (tagV K1 (macIn xs ys)) = T by rw [hT, tagL, hK1, hB])
  have HTL := Lib.hid (show T.length = 16 by rw [hT]; exact length_tagL _ _ _ _)
  clear hB hK1 hT
  obtain ⟨m1, hm1⟩ : ∃ m1, m1 = fillN len := ⟨_, rfl⟩
  obtain ⟨m2, hm2⟩ : ∃ m2, m2 = fillN bn := ⟨_, rfl⟩
  have hm1k : m1 ≤ 3000 := by rw [hm1]; unfold fillN; omega
  have hm2k : m2 ≤ 3000 := by rw [hm2]; unfold fillN; omega
  have HM1 := Lib.hid hm1
  have HM2 := Lib.hid hm2
  clear hm1 hm2
  have hl3i : (len : Int) ≤ 3000 := by omega
  have hb3i : (bn : Int) ≤ 3000 := by omega
  have HW1 := Lib.hid (show IntKind.u64.wrap (len : Int) = len by rw [IntKind.wrap_u64]; omega)
  have HW2 := Lib.hid (show IntKind.u64.wrap (bn : Int) = bn by rw [IntKind.wrap_u64]; omega)
  obtain ⟨p, hp⟩ : ∃ p, w.heap.size = p := ⟨_, rfl⟩
  have hk0 := (own_start w).ints .u8 22 32 key HKL.out hp
  have HK := Lib.hid hk0
  have HP := Lib.hid hp
  clear hk0 hp
  go_enter Try.func13, Try.ntmps13
  go_wp2_with ((refine wpList_new_ints rfl HK.out _ rfl .u8 40 16 (zer 16) (length_zer _) (fun w => by go_simp; first | exact ⟨rfl, rfl⟩ | kernel_rfl) ?_))
  rw [HP.out]
  intro wn p8 hkn
  have HKN := Lib.hid hkn
  clear hkn HK
  have HK := HKN
  clear HKN
  go_upto_region 1 with fail
  refine wp_region_sep [] [.ints p8 .u8 40 16 (zer 16), .ints p .u8 22 32 key] [(5, [], [4])] [5] 6 (by kernel_rfl) (by kernel_rfl) (w0 := w) HK.out ?_
  (try simp only [Act.put, Act.eval, List.setIfInBounds_toArray, List.set_cons_zero, List.set_cons_succ, Array.getD_eq_getD_getElem?, List.getElem?_toArray, List.getElem?_cons_succ, List.getElem?_cons_zero, Option.getD_some, Nat.reduceAdd, List.nil_append, List.cons_append, En.get])
  refine fs_read rfl (fun f => rfl) rfl (fun _ => .agg (encK .u8 key)) ?_ (fun _ _ _ => rfl) ?_
  · intro f lof w1 Lf HF HK1
    clear HF
    (try simp only [itms, itm, usesOf, readsOf, takesOf, List.find?, Nat.reduceBEq, List.flatMap_cons, List.flatMap_nil, Nat.reduceLT, if_true, if_false, Nat.reduceSub, List.getD_cons_zero, List.getD_cons_succ, List.append_nil, List.cons_append, List.nil_append, List.append_nil] at HK1)
    exact run_loadr rfl rfl (HK1.rd (.next _ (.here _))) Try.underlying22 (by kernel_rfl)
  (try simp only [Act.put, Act.eval, List.setIfInBounds_toArray, List.set_cons_zero, List.set_cons_succ, Array.getD_eq_getD_getElem?, List.getElem?_toArray, List.getElem?_cons_succ, List.getElem?_cons_zero, Option.getD_some, Nat.reduceAdd, List.nil_append, List.cons_append, En.get])
  (repeat (first | (refine fs_skip rfl (fun f => rfl) ?_; (try simp only [Act.put, Act.eval, List.setIfInBounds_toArray, List.set_cons_zero, List.set_cons_succ, Array.getD_eq_getD_getElem?, List.getElem?_toArray, List.getElem?_cons_succ, List.getElem?_cons_zero, Option.getD_some, Nat.reduceAdd, List.nil_append, List.cons_append, En.get])) | (refine fs_move _ rfl rfl (fun f => rfl) rfl ?_ ?_; ((first | exact fun _ _ _ => rfl | exact fun f f' hcg => hcg _ (by kernel_rfl) | (intro f f' hcg; rw [hcg]; kernel_rfl) | (intro f f' hcg; rw [hcg, hcg]; (kernel_rfl; kernel_rfl)) | exact trivial)); (try simp only [Act.put, Act.eval, List.setIfInBounds_toArray, List.set_cons_zero, List.set_cons_succ, Array.getD_eq_getD_getElem?, List.getElem?_toArray, List.getElem?_cons_succ, List.getElem?_cons_zero, Option.getD_some, Nat.reduceAdd, List.nil_append, List.cons_append, En.get])) | (refine fs_assign _ rfl rfl (fun f => rfl) rfl ?_ ?_; ((first | exact fun _ _ _ => rfl | exact fun f f' hcg => hcg _ (by kernel_rfl) | (intro f f' hcg; rw [hcg]; kernel_rfl) | (intro f f' hcg; rw [hcg, hcg]; (kernel_rfl; kernel_rfl)) | exact trivial)); (try simp only [Act.put, Act.eval, List.setIfInBounds_toArray, List.set_cons_zero, List.set_cons_succ, Array.getD_eq_getD_getElem?, List.getElem?_toArray, List.getElem?_cons_succ, List.getElem?_cons_zero, Option.getD_some, Nat.reduceAdd, List.nil_append, List.cons_append, En.get])) | (fail) | (refine fs_pure rfl (fun f => rfl) rfl ?_ ?_ ?_ ?_; (rotate_left; (intro f w1; (skip); go_simp; (first | done | with_reducible rfl)); ((first | exact fun _ _ _ => rfl | exact fun f f' hcg => hcg _ (by kernel_rfl) | (intro f f' hcg; rw [hcg]; kernel_rfl) | (intro f f' hcg; rw [hcg, hcg]; (kernel_rfl; kernel_rfl)) | exact trivial)); (try simp only [Act.put, Act.eval, List.setIfInBounds_toArray, List.set_cons_zero, List.set_cons_succ, Array.getD_eq_getD_getElem?, List.getElem?_toArray, List.getElem?_cons_succ, List.getElem?_cons_zero, Option.getD_some, Nat.reduceAdd, List.nil_append, List.cons_append, En.get])))))
  refine fs_callv rfl (fun f => rfl) rfl 12 _ _ rfl (fun args w => by simp [callFunc, Try.func12]; rfl) (fun _ => .agg (encK .u8 (nonceL n))) ?_ (fun _ _ _ => rfl) ?_
  · intro f lof w1 Lf HF HK1
    simp only [List.map_toArray, List.map_cons, List.map_nil, Act.eval, Array.getD_eq_getD_getElem?, List.getElem?_toArray, List.getElem?_cons_succ, List.getElem?_cons_zero, Option.getD_some, List.append_nil]
    clear HF HK1
    have q4 := nonce_any n w1 HN0.out HN1.out
    exact q4
  (try simp only [Act.put, Act.eval, List.setIfInBounds_toArray, List.set_cons_zero, List.set_cons_succ, Array.getD_eq_getD_getElem?, List.getElem?_toArray, List.getElem?_cons_succ, List.getElem?_cons_zero, Option.getD_some, Nat.reduceAdd, List.nil_append, List.cons_append, En.get])
  refine fs_callv rfl (fun f => rfl) rfl 19 _ _ rfl (fun args w => by simp [callFunc, Try.func19]; rfl) (fun _ => .agg (encK .u8 B)) ?_ (fun _ _ _ => rfl) ?_
  · intro f lof w1 Lf HF HK1
    simp only [List.map_toArray, List.map_cons, List.map_nil, Act.eval, Array.getD_eq_getD_getElem?, List.getElem?_toArray, List.getElem?_cons_succ, List.getElem?_cons_zero, Option.getD_some, List.append_nil]
    clear HF HK1
    have q4 := block_any key (nonceL n) 0 w1 HKL.out (length_nonceL n) HKO.out (ok_nonceL n) (by decide) (by decide)
    rw [← HB.out] at q4
    exact q4
  (try simp only [Act.put, Act.eval, List.setIfInBounds_toArray, List.set_cons_zero, List.set_cons_succ, Array.getD_eq_getD_getElem?, List.getElem?_toArray, List.getElem?_cons_succ, List.getElem?_cons_zero, Option.getD_some, Nat.reduceAdd, List.nil_append, List.cons_append, En.get])
  refine fs_list rfl (fun f => rfl) (.res (fun _ v it => ∃ q, v = .pointer (some ⟨q, 0, none⟩) ∧ it = [.ints q .u8 44 64 (zer 64)])) (fun f => ⟨_, rfl, Nat.le_of_ble_eq_true rfl⟩) ?_ (fun _ _ _ => rfl) ?_
  · intro f lof w1 Lf HF HK1 Q' hQ
    clear HF
    refine wpList_new_ints rfl HK1 _ rfl .u8 44 64 (zer 64) (length_zer _) (fun w => by go_simp; first | exact ⟨rfl, rfl⟩ | kernel_rfl) ?_
    intro w' q hk
    exact hQ _ _ ⟨_, ⟨q, rfl, rfl⟩, hk⟩
  (try simp only [Act.put, Act.eval, List.setIfInBounds_toArray, List.set_cons_zero, List.set_cons_succ, Array.getD_eq_getD_getElem?, List.getElem?_toArray, List.getElem?_cons_succ, List.getElem?_cons_zero, Option.getD_some, Nat.reduceAdd, List.nil_append, List.cons_append, En.get])
  refine fs_store rfl (fun f => rfl) (fun f it => ∃ q, f 4 = .pointer (some ⟨q, 0, none⟩) ∧ it = [.ints q .u8 44 64 B]) rfl ?_ (fun f f' h => by rw [h 4 (by kernel_rfl)]) ?_
  · intro f lof w1 Lf HF HK1 Q' hQ
    obtain ⟨q, hv, hl⟩ := HF 4 (by kernel_rfl)
    clear HF
    (try simp only [itms, itm, usesOf, readsOf, takesOf, List.find?, Nat.reduceBEq, List.flatMap_cons, List.flatMap_nil, Nat.reduceLT, if_true, if_false, Nat.reduceSub, List.getD_cons_zero, List.getD_cons_succ, List.append_nil, List.cons_append, List.nil_append, hl] at HK1)
    refine wpList_put_row rfl HK1 44 _ _ rfl _ _ B hv rfl _ _ _ (.here _) (by exact HBL.out) (by kernel_rfl) ?_
    intro w' hk
    exact hQ _ ⟨_, ⟨q, hv, rfl⟩, hk⟩
  (try simp only [Act.put, Act.eval, List.setIfInBounds_toArray, List.set_cons_zero, List.set_cons_succ, Array.getD_eq_getD_getElem?, List.getElem?_toArray, List.getElem?_cons_succ, List.getElem?_cons_zero, Option.getD_some, Nat.reduceAdd, List.nil_append, List.cons_append, En.get])
  refine fs_end ?_
  intro f lof wn HF hk
  obtain ⟨q, hv, hl⟩ := HF 5 (by decide)
  (try simp only [itms, itm, usesOf, readsOf, takesOf, List.find?, Nat.reduceBEq, List.flatMap_cons, List.flatMap_nil, Nat.reduceLT, if_true, if_false, Nat.reduceSub, List.getD_cons_zero, List.getD_cons_succ, List.append_nil, List.cons_append, List.nil_append, hl] at hk)
  rw [hv]
  clear HF hv hl f lof
  clear HK
  have HK := Lib.hid hk
  clear hk
  go_upto_region 2 with fail
  refine wp_region_sep [[.ints p8 .u8 40 16 (zer 16)]] [.ints q .u8 44 64 B, .ints p .u8 22 32 key] [(17, [], [5, 8, 12, 16]), (18, [17], []), (19, [], [20])] [19] 20 (by kernel_rfl) (by kernel_rfl) (w0 := w) (HK.out.front (.next _ (.here _))) ?_
  (try simp only [Act.put, Act.eval, List.setIfInBounds_toArray, List.set_cons_zero, List.set_cons_succ, Array.getD_eq_getD_getElem?, List.getElem?_toArray, List.getElem?_cons_succ, List.getElem?_cons_zero, Option.getD_some, Nat.reduceAdd, List.nil_append, List.cons_append, En.get])
  (repeat (first | (refine fs_skip rfl (fun f => rfl) ?_; (try simp only [Act.put, Act.eval, List.setIfInBounds_toArray, List.set_cons_zero, List.set_cons_succ, Array.getD_eq_getD_getElem?, List.getElem?_toArray, List.getElem?_cons_succ, List.getElem?_cons_zero, Option.getD_some, Nat.reduceAdd, List.nil_append, List.cons_append, En.get])) | (refine fs_move _ rfl rfl (fun f => rfl) rfl ?_ ?_; ((first | exact fun _ _ _ => rfl | exact fun f f' hcg => hcg _ (by kernel_rfl) | (intro f f' hcg; rw [hcg]; kernel_rfl) | (intro f f' hcg; rw [hcg, hcg]; (kernel_rfl; kernel_rfl)) | exact trivial)); (try simp only [Act.put, Act.eval, List.setIfInBounds_toArray, List.set_cons_zero, List.set_cons_succ, Array.getD_eq_getD_getElem?, List.getElem?_toArray, List.getElem?_cons_succ, List.getElem?_cons_zero, Option.getD_some, Nat.reduceAdd, List.nil_append, List.cons_append, En.get])) | (refine fs_assign _ rfl rfl (fun f => rfl) rfl ?_ ?_; ((first | exact fun _ _ _ => rfl | exact fun f f' hcg => hcg _ (by kernel_rfl) | (intro f f' hcg; rw [hcg]; kernel_rfl) | (intro f f' hcg; rw [hcg, hcg]; (kernel_rfl; kernel_rfl)) | exact trivial)); (try simp only [Act.put, Act.eval, List.setIfInBounds_toArray, List.set_cons_zero, List.set_cons_succ, Array.getD_eq_getD_getElem?, List.getElem?_toArray, List.getElem?_cons_succ, List.getElem?_cons_zero, Option.getD_some, Nat.reduceAdd, List.nil_append, List.cons_append, En.get])) | (fail) | (refine fs_pure rfl (fun f => rfl) rfl ?_ ?_ ?_ ?_; (rotate_left; (intro f w1; (skip); go_simp; (first | done | with_reducible rfl)); ((first | exact fun _ _ _ => rfl | exact fun f f' hcg => hcg _ (by kernel_rfl) | (intro f f' hcg; rw [hcg]; kernel_rfl) | (intro f f' hcg; rw [hcg, hcg]; (kernel_rfl; kernel_rfl)) | exact trivial)); (try simp only [Act.put, Act.eval, List.setIfInBounds_toArray, List.set_cons_zero, List.set_cons_succ, Array.getD_eq_getD_getElem?, List.getElem?_toArray, List.getElem?_cons_succ, List.getElem?_cons_zero, Option.getD_some, Nat.reduceAdd, List.nil_append, List.cons_append, En.get])))))
  refine fs_pure rfl (fun f => rfl) rfl (fun _ => .pointer (some ⟨q, 0, none⟩)) (fun f w1 => run_arp rfl rfl Try.underlying22 (by decide)) (fun _ _ _ => rfl) ?_
  (try simp only [Act.put, Act.eval, List.setIfInBounds_toArray, List.set_cons_zero, List.set_cons_succ, Array.getD_eq_getD_getElem?, List.getElem?_toArray, List.getElem?_cons_succ, List.getElem?_cons_zero, Option.getD_some, Nat.reduceAdd, List.nil_append, List.cons_append, En.get])
  refine fs_read rfl (fun f => rfl) rfl (fun _ => .agg (encK .u8 K1)) ?_ (fun _ _ _ => rfl) ?_
  · intro f lof w1 Lf HF HK1
    clear HF
    (try simp only [itms, itm, usesOf, readsOf, takesOf, List.find?, Nat.reduceBEq, List.flatMap_cons, List.flatMap_nil, Nat.reduceLT, if_true, if_false, Nat.reduceSub, List.getD_cons_zero, List.getD_cons_succ, List.append_nil, List.cons_append, List.nil_append, List.append_nil] at HK1)
    exact run_loadr rfl rfl (by rw [HKT.out]; exact rdfront (HK1.rd (.here _)) 32 (by decide)) Try.underlying22 (by kernel_rfl)
  (try simp only [Act.put, Act.eval, List.setIfInBounds_toArray, List.set_cons_zero, List.set_cons_succ, Array.getD_eq_getD_getElem?, List.getElem?_toArray, List.getElem?_cons_succ, List.getElem?_cons_zero, Option.getD_some, Nat.reduceAdd, List.nil_append, List.cons_append, En.get])
  (repeat (first | (refine fs_skip rfl (fun f => rfl) ?_; (try simp only [Act.put, Act.eval, List.setIfInBounds_toArray, List.set_cons_zero, List.set_cons_succ, Array.getD_eq_getD_getElem?, List.getElem?_toArray, List.getElem?_cons_succ, List.getElem?_cons_zero, Option.getD_some, Nat.reduceAdd, List.nil_append, List.cons_append, En.get])) | (refine fs_move _ rfl rfl (fun f => rfl) rfl ?_ ?_; ((first | exact fun _ _ _ => rfl | exact fun f f' hcg => hcg _ (by kernel_rfl) | (intro f f' hcg; rw [hcg]; kernel_rfl) | (intro f f' hcg; rw [hcg, hcg]; (kernel_rfl; kernel_rfl)) | exact trivial)); (try simp only [Act.put, Act.eval, List.setIfInBounds_toArray, List.set_cons_zero, List.set_cons_succ, Array.getD_eq_getD_getElem?, List.getElem?_toArray, List.getElem?_cons_succ, List.getElem?_cons_zero, Option.getD_some, Nat.reduceAdd, List.nil_append, List.cons_append, En.get])) | (refine fs_assign _ rfl rfl (fun f => rfl) rfl ?_ ?_; ((first | exact fun _ _ _ => rfl | exact fun f f' hcg => hcg _ (by kernel_rfl) | (intro f f' hcg; rw [hcg]; kernel_rfl) | (intro f f' hcg; rw [hcg, hcg]; (kernel_rfl; kernel_rfl)) | exact trivial)); (try simp only [Act.put, Act.eval, List.setIfInBounds_toArray, List.set_cons_zero, List.set_cons_succ, Array.getD_eq_getD_getElem?, List.getElem?_toArray, List.getElem?_cons_succ, List.getElem?_cons_zero, Option.getD_some, Nat.reduceAdd, List.nil_append, List.cons_append, En.get])) | (fail) | (refine fs_pure rfl (fun f => rfl) rfl ?_ ?_ ?_ ?_; (rotate_left; (intro f w1; (skip); go_simp; (first | done | with_reducible rfl)); ((first | exact fun _ _ _ => rfl | exact fun f f' hcg => hcg _ (by kernel_rfl) | (intro f f' hcg; rw [hcg]; kernel_rfl) | (intro f f' hcg; rw [hcg, hcg]; (kernel_rfl; kernel_rfl)) | exact trivial)); (try simp only [Act.put, Act.eval, List.setIfInBounds_toArray, List.set_cons_zero, List.set_cons_succ, Array.getD_eq_getD_getElem?, List.getElem?_toArray, List.getElem?_cons_succ, List.getElem?_cons_zero, Option.getD_some, Nat.reduceAdd, List.nil_append, List.cons_append, En.get])))))
  refine fs_call rfl (fun f => rfl) 22 _ _ rfl (fun args w => by simp [callFunc, Try.func22]; rfl) (.res (fun _ v it => ∃ p, v = .slice (some ⟨p, 0, none⟩) m1 m1 ∧ it = [.sl 5 .u8 (some ⟨p, 0, none⟩) m1 m1 (zer m1)])) ?_ (fun _ _ _ => rfl) ?_
  · intro f lof w1 Lf HF HK1
    (try simp only [itms, itm, usesOf, readsOf, takesOf, List.find?, Nat.reduceBEq, List.flatMap_cons, List.flatMap_nil, Nat.reduceLT, if_true, if_false, Nat.reduceSub, List.getD_cons_zero, List.getD_cons_succ, List.append_nil, List.cons_append, List.nil_append, List.append_nil] at HK1)
    simp only [List.map_toArray, List.map_cons, List.map_nil, Act.eval, Array.getD_eq_getD_getElem?, List.getElem?_toArray, List.getElem?_cons_succ, List.getElem?_cons_zero, Option.getD_some, List.append_nil]
    clear HF
    have q4 := fill_any ad len cap w1 (by omega)
    rw [← HM1.out] at q4
    refine q4.mono ?_
    rintro e w2 ⟨p', rfl, ho, hg⟩
    exact ⟨_, _, rfl, ⟨p', rfl, rfl⟩, own_back HK1 hg ho⟩
  (try simp only [Act.put, Act.eval, List.setIfInBounds_toArray, List.set_cons_zero, List.set_cons_succ, Array.getD_eq_getD_getElem?, List.getElem?_toArray, List.getElem?_cons_succ, List.getElem?_cons_zero, Option.getD_some, Nat.reduceAdd, List.nil_append, List.cons_append, En.get])
  (repeat (first | (refine fs_skip rfl (fun f => rfl) ?_; (try simp only [Act.put, Act.eval, List.setIfInBounds_toArray, List.set_cons_zero, List.set_cons_succ, Array.getD_eq_getD_getElem?, List.getElem?_toArray, List.getElem?_cons_succ, List.getElem?_cons_zero, Option.getD_some, Nat.reduceAdd, List.nil_append, List.cons_append, En.get])) | (refine fs_move _ rfl rfl (fun f => rfl) rfl ?_ ?_; ((first | exact fun _ _ _ => rfl | exact fun f f' hcg => hcg _ (by kernel_rfl) | (intro f f' hcg; rw [hcg]; kernel_rfl) | (intro f f' hcg; rw [hcg, hcg]; (kernel_rfl; kernel_rfl)) | exact trivial)); (try simp only [Act.put, Act.eval, List.setIfInBounds_toArray, List.set_cons_zero, List.set_cons_succ, Array.getD_eq_getD_getElem?, List.getElem?_toArray, List.getElem?_cons_succ, List.getElem?_cons_zero, Option.getD_some, Nat.reduceAdd, List.nil_append, List.cons_append, En.get])) | (refine fs_assign _ rfl rfl (fun f => rfl) rfl ?_ ?_; ((first | exact fun _ _ _ => rfl | exact fun f f' hcg => hcg _ (by kernel_rfl) | (intro f f' hcg; rw [hcg]; kernel_rfl) | (intro f f' hcg; rw [hcg, hcg]; (kernel_rfl; kernel_rfl)) | exact trivial)); (try simp only [Act.put, Act.eval, List.setIfInBounds_toArray, List.set_cons_zero, List.set_cons_succ, Array.getD_eq_getD_getElem?, List.getElem?_toArray, List.getElem?_cons_succ, List.getElem?_cons_zero, Option.getD_some, Nat.reduceAdd, List.nil_append, List.cons_append, En.get])) | (fail) | (refine fs_pure rfl (fun f => rfl) rfl ?_ ?_ ?_ ?_; (rotate_left; (intro f w1; ((have hw1 := HW1.out; have hw2 := HW2.out)); go_simp; (first | done | with_reducible rfl)); ((first | exact fun _ _ _ => rfl | exact fun f f' hcg => hcg _ (by kernel_rfl) | (intro f f' hcg; rw [hcg]; kernel_rfl) | (intro f f' hcg; rw [hcg, hcg]; (kernel_rfl; kernel_rfl)) | exact trivial)); (try simp only [Act.put, Act.eval, List.setIfInBounds_toArray, List.set_cons_zero, List.set_cons_succ, Array.getD_eq_getD_getElem?, List.getElem?_toArray, List.getElem?_cons_succ, List.getElem?_cons_zero, Option.getD_some, Nat.reduceAdd, List.nil_append, List.cons_append, En.get])))))
  refine fs_call rfl (fun f => rfl) 22 _ _ rfl (fun args w => by simp [callFunc, Try.func22]; rfl) (.res (fun _ v it => ∃ p, v = .slice (some ⟨p, 0, none⟩) m2 m2 ∧ it = [.sl 5 .u8 (some ⟨p, 0, none⟩) m2 m2 (zer m2)])) ?_ (fun _ _ _ => rfl) ?_
  · intro f lof w1 Lf HF HK1
    (try simp only [itms, itm, usesOf, readsOf, takesOf, List.find?, Nat.reduceBEq, List.flatMap_cons, List.flatMap_nil, Nat.reduceLT, if_true, if_false, Nat.reduceSub, List.getD_cons_zero, List.getD_cons_succ, List.append_nil, List.cons_append, List.nil_append, List.append_nil] at HK1)
    simp only [List.map_toArray, List.map_cons, List.map_nil, Act.eval, Array.getD_eq_getD_getElem?, List.getElem?_toArray, List.getElem?_cons_succ, List.getElem?_cons_zero, Option.getD_some, List.append_nil]
    clear HF
    have q4 := fill_any bd bn bcap w1 (by omega)
    rw [← HM2.out] at q4
    refine q4.mono ?_
    rintro e w2 ⟨p', rfl, ho, hg⟩
    exact ⟨_, _, rfl, ⟨p', rfl, rfl⟩, own_back HK1 hg ho⟩
  (try simp only [Act.put, Act.eval, List.setIfInBounds_toArray, List.set_cons_zero, List.set_cons_succ, Array.getD_eq_getD_getElem?, List.getElem?_toArray, List.getElem?_cons_succ, List.getElem?_cons_zero, Option.getD_some, Nat.reduceAdd, List.nil_append, List.cons_append, En.get])
  (repeat (first | (refine fs_skip rfl (fun f => rfl) ?_; (try simp only [Act.put, Act.eval, List.setIfInBounds_toArray, List.set_cons_zero, List.set_cons_succ, Array.getD_eq_getD_getElem?, List.getElem?_toArray, List.getElem?_cons_succ, List.getElem?_cons_zero, Option.getD_some, Nat.reduceAdd, List.nil_append, List.cons_append, En.get])) | (refine fs_move _ rfl rfl (fun f => rfl) rfl ?_ ?_; ((first | exact fun _ _ _ => rfl | exact fun f f' hcg => hcg _ (by kernel_rfl) | (intro f f' hcg; rw [hcg]; kernel_rfl) | (intro f f' hcg; rw [hcg, hcg]; (kernel_rfl; kernel_rfl)) | exact trivial)); (try simp only [Act.put, Act.eval, List.setIfInBounds_toArray, List.set_cons_zero, List.set_cons_succ, Array.getD_eq_getD_getElem?, List.getElem?_toArray, List.getElem?_cons_succ, List.getElem?_cons_zero, Option.getD_some, Nat.reduceAdd, List.nil_append, List.cons_append, En.get])) | (refine fs_assign _ rfl rfl (fun f => rfl) rfl ?_ ?_; ((first | exact fun _ _ _ => rfl | exact fun f f' hcg => hcg _ (by kernel_rfl) | (intro f f' hcg; rw [hcg]; kernel_rfl) | (intro f f' hcg; rw [hcg, hcg]; (kernel_rfl; kernel_rfl)) | exact trivial)); (try simp only [Act.put, Act.eval, List.setIfInBounds_toArray, List.set_cons_zero, List.set_cons_succ, Array.getD_eq_getD_getElem?, List.getElem?_toArray, List.getElem?_cons_succ, List.getElem?_cons_zero, Option.getD_some, Nat.reduceAdd, List.nil_append, List.cons_append, En.get])) | (fail) | (refine fs_pure rfl (fun f => rfl) rfl ?_ ?_ ?_ ?_; (rotate_left; (intro f w1; ((have hw1 := HW1.out; have hw2 := HW2.out)); go_simp; (first | done | with_reducible rfl)); ((first | exact fun _ _ _ => rfl | exact fun f f' hcg => hcg _ (by kernel_rfl) | (intro f f' hcg; rw [hcg]; kernel_rfl) | (intro f f' hcg; rw [hcg, hcg]; (kernel_rfl; kernel_rfl)) | exact trivial)); (try simp only [Act.put, Act.eval, List.setIfInBounds_toArray, List.set_cons_zero, List.set_cons_succ, Array.getD_eq_getD_getElem?, List.getElem?_toArray, List.getElem?_cons_succ, List.getElem?_cons_zero, Option.getD_some, Nat.reduceAdd, List.nil_append, List.cons_append, En.get])))))
  refine fs_call rfl (fun f => rfl) 20 _ _ rfl (fun args w => by simp [callFunc, Try.func20]; rfl) (.res (fun _ v it => ∃ a c, v = .slice a 8 c ∧ it = [.sl 5 .u8 a 8 c (le8 len)])) ?_ (fun _ _ _ => rfl) ?_
  · intro f lof w1 Lf HF HK1
    (try simp only [itms, itm, usesOf, readsOf, takesOf, List.find?, Nat.reduceBEq, List.flatMap_cons, List.flatMap_nil, Nat.reduceLT, if_true, if_false, Nat.reduceSub, List.getD_cons_zero, List.getD_cons_succ, List.append_nil, List.cons_append, List.nil_append, List.append_nil] at HK1)
    simp only [List.map_toArray, List.map_cons, List.map_nil, Act.eval, Array.getD_eq_getD_getElem?, List.getElem?_toArray, List.getElem?_cons_succ, List.getElem?_cons_zero, Option.getD_some, List.append_nil]
    clear HF
    have q4 := number_any (len : Int) w1 (by omega) (by omega)
    refine q4.mono ?_
    rintro e w2 ⟨a, c, rfl, ho, hg⟩
    exact ⟨_, _, rfl, ⟨a, c, rfl, rfl⟩, own_back HK1 hg ho⟩
  (try simp only [Act.put, Act.eval, List.setIfInBounds_toArray, List.set_cons_zero, List.set_cons_succ, Array.getD_eq_getD_getElem?, List.getElem?_toArray, List.getElem?_cons_succ, List.getElem?_cons_zero, Option.getD_some, Nat.reduceAdd, List.nil_append, List.cons_append, En.get])
  (repeat (first | (refine fs_skip rfl (fun f => rfl) ?_; (try simp only [Act.put, Act.eval, List.setIfInBounds_toArray, List.set_cons_zero, List.set_cons_succ, Array.getD_eq_getD_getElem?, List.getElem?_toArray, List.getElem?_cons_succ, List.getElem?_cons_zero, Option.getD_some, Nat.reduceAdd, List.nil_append, List.cons_append, En.get])) | (refine fs_move _ rfl rfl (fun f => rfl) rfl ?_ ?_; ((first | exact fun _ _ _ => rfl | exact fun f f' hcg => hcg _ (by kernel_rfl) | (intro f f' hcg; rw [hcg]; kernel_rfl) | (intro f f' hcg; rw [hcg, hcg]; (kernel_rfl; kernel_rfl)) | exact trivial)); (try simp only [Act.put, Act.eval, List.setIfInBounds_toArray, List.set_cons_zero, List.set_cons_succ, Array.getD_eq_getD_getElem?, List.getElem?_toArray, List.getElem?_cons_succ, List.getElem?_cons_zero, Option.getD_some, Nat.reduceAdd, List.nil_append, List.cons_append, En.get])) | (refine fs_assign _ rfl rfl (fun f => rfl) rfl ?_ ?_; ((first | exact fun _ _ _ => rfl | exact fun f f' hcg => hcg _ (by kernel_rfl) | (intro f f' hcg; rw [hcg]; kernel_rfl) | (intro f f' hcg; rw [hcg, hcg]; (kernel_rfl; kernel_rfl)) | exact trivial)); (try simp only [Act.put, Act.eval, List.setIfInBounds_toArray, List.set_cons_zero, List.set_cons_succ, Array.getD_eq_getD_getElem?, List.getElem?_toArray, List.getElem?_cons_succ, List.getElem?_cons_zero, Option.getD_some, Nat.reduceAdd, List.nil_append, List.cons_append, En.get])) | (fail) | (refine fs_pure rfl (fun f => rfl) rfl ?_ ?_ ?_ ?_; (rotate_left; (intro f w1; ((have hw1 := HW1.out; have hw2 := HW2.out)); go_simp; (first | done | with_reducible rfl)); ((first | exact fun _ _ _ => rfl | exact fun f f' hcg => hcg _ (by kernel_rfl) | (intro f f' hcg; rw [hcg]; kernel_rfl) | (intro f f' hcg; rw [hcg, hcg]; (kernel_rfl; kernel_rfl)) | exact trivial)); (try simp only [Act.put, Act.eval, List.setIfInBounds_toArray, List.set_cons_zero, List.set_cons_succ, Array.getD_eq_getD_getElem?, List.getElem?_toArray, List.getElem?_cons_succ, List.getElem?_cons_zero, Option.getD_some, Nat.reduceAdd, List.nil_append, List.cons_append, En.get])))))
  refine fs_call rfl (fun f => rfl) 20 _ _ rfl (fun args w => by simp [callFunc, Try.func20]; rfl) (.res (fun _ v it => ∃ a c, v = .slice a 8 c ∧ it = [.sl 5 .u8 a 8 c (le8 bn)])) ?_ (fun _ _ _ => rfl) ?_
  · intro f lof w1 Lf HF HK1
    (try simp only [itms, itm, usesOf, readsOf, takesOf, List.find?, Nat.reduceBEq, List.flatMap_cons, List.flatMap_nil, Nat.reduceLT, if_true, if_false, Nat.reduceSub, List.getD_cons_zero, List.getD_cons_succ, List.append_nil, List.cons_append, List.nil_append, List.append_nil] at HK1)
    simp only [List.map_toArray, List.map_cons, List.map_nil, Act.eval, Array.getD_eq_getD_getElem?, List.getElem?_toArray, List.getElem?_cons_succ, List.getElem?_cons_zero, Option.getD_some, List.append_nil]
    clear HF
    have q4 := number_any (bn : Int) w1 (by omega) (by omega)
    refine q4.mono ?_
    rintro e w2 ⟨a, c, rfl, ho, hg⟩
    exact ⟨_, _, rfl, ⟨a, c, rfl, rfl⟩, own_back HK1 hg ho⟩
  (try simp only [Act.put, Act.eval, List.setIfInBounds_toArray, List.set_cons_zero, List.set_cons_succ, Array.getD_eq_getD_getElem?, List.getElem?_toArray, List.getElem?_cons_succ, List.getElem?_cons_zero, Option.getD_some, Nat.reduceAdd, List.nil_append, List.cons_append, En.get])
  (repeat (first | (refine fs_skip rfl (fun f => rfl) ?_; (try simp only [Act.put, Act.eval, List.setIfInBounds_toArray, List.set_cons_zero, List.set_cons_succ, Array.getD_eq_getD_getElem?, List.getElem?_toArray, List.getElem?_cons_succ, List.getElem?_cons_zero, Option.getD_some, Nat.reduceAdd, List.nil_append, List.cons_append, En.get])) | (refine fs_move _ rfl rfl (fun f => rfl) rfl ?_ ?_; ((first | exact fun _ _ _ => rfl | exact fun f f' hcg => hcg _ (by kernel_rfl) | (intro f f' hcg; rw [hcg]; kernel_rfl) | (intro f f' hcg; rw [hcg, hcg]; (kernel_rfl; kernel_rfl)) | exact trivial)); (try simp only [Act.put, Act.eval, List.setIfInBounds_toArray, List.set_cons_zero, List.set_cons_succ, Array.getD_eq_getD_getElem?, List.getElem?_toArray, List.getElem?_cons_succ, List.getElem?_cons_zero, Option.getD_some, Nat.reduceAdd, List.nil_append, List.cons_append, En.get])) | (refine fs_assign _ rfl rfl (fun f => rfl) rfl ?_ ?_; ((first | exact fun _ _ _ => rfl | exact fun f f' hcg => hcg _ (by kernel_rfl) | (intro f f' hcg; rw [hcg]; kernel_rfl) | (intro f f' hcg; rw [hcg, hcg]; (kernel_rfl; kernel_rfl)) | exact trivial)); (try simp only [Act.put, Act.eval, List.setIfInBounds_toArray, List.set_cons_zero, List.set_cons_succ, Array.getD_eq_getD_getElem?, List.getElem?_toArray, List.getElem?_cons_succ, List.getElem?_cons_zero, Option.getD_some, Nat.reduceAdd, List.nil_append, List.cons_append, En.get])) | (fail) | (refine fs_pure rfl (fun f => rfl) rfl ?_ ?_ ?_ ?_; (rotate_left; (intro f w1; ((have hw1 := HW1.out; have hw2 := HW2.out)); go_simp; (first | done | with_reducible rfl)); ((first | exact fun _ _ _ => rfl | exact fun f f' hcg => hcg _ (by kernel_rfl) | (intro f f' hcg; rw [hcg]; kernel_rfl) | (intro f f' hcg; rw [hcg, hcg]; (kernel_rfl; kernel_rfl)) | exact trivial)); (try simp only [Act.put, Act.eval, List.setIfInBounds_toArray, List.set_cons_zero, List.set_cons_succ, Array.getD_eq_getD_getElem?, List.getElem?_toArray, List.getElem?_cons_succ, List.getElem?_cons_zero, Option.getD_some, Nat.reduceAdd, List.nil_append, List.cons_append, En.get])))))
  refine fs_build rfl (fun f => rfl) 6 24 (.res (fun _ v it => ∃ p g1 g2 a1 c1 a2 c2, v = .slice (some ⟨p, 0, none⟩) 6 6 ∧ it = [.blk p (.cells #[.slice ad len cap, .slice (some ⟨g1, 0, none⟩) m1 m1, .slice bd bn bcap, .slice (some ⟨g2, 0, none⟩) m2 m2, .slice a1 8 c1, .slice a2 8 c2] 24 (0, 0)), .sl 5 .u8 (some ⟨g1, 0, none⟩) m1 m1 (zer m1), .sl 5 .u8 (some ⟨g2, 0, none⟩) m2 m2 (zer m2), .sl 5 .u8 a1 8 c1 (le8 len), .sl 5 .u8 a2 8 c2 (le8 bn)])) ?_ (fun _ _ _ => rfl) ?_
  · intro f lof w1 Lf HF HK1
    obtain ⟨g1, hv1, hl1⟩ := HF 5 (by kernel_rfl)
    obtain ⟨g2, hv2, hl2⟩ := HF 8 (by kernel_rfl)
    obtain ⟨a1, c1, hv3, hl3⟩ := HF 12 (by kernel_rfl)
    obtain ⟨a2, c2, hv4, hl4⟩ := HF 16 (by kernel_rfl)
    clear HF HK1
    refine ⟨#[.slice ad len cap, .slice (some ⟨g1, 0, none⟩) m1 m1, .slice bd bn bcap, .slice (some ⟨g2, 0, none⟩) m2 m2, .slice a1 8 c1, .slice a2 8 c2], ?_, ?_⟩
    · rw [hv1, hv2, hv3, hv4]
      clear hv1 hv2 hv3 hv4 hl1 hl2 hl3 hl4
      go_simp; first | done | exact ⟨rfl, rfl⟩ | rfl
    · intro p w' hk
      (try simp only [itms, itm, usesOf, readsOf, takesOf, List.find?, Nat.reduceBEq, List.flatMap_cons, List.flatMap_nil, Nat.reduceLT, if_true, if_false, Nat.reduceSub, List.getD_cons_zero, List.getD_cons_succ, List.append_nil, List.cons_append, List.nil_append, hl1, hl2, hl3, hl4] at hk)
      exact ⟨_, ⟨p, g1, g2, a1, c1, a2, c2, rfl, rfl⟩, hk⟩
  (try simp only [Act.put, Act.eval, List.setIfInBounds_toArray, List.set_cons_zero, List.set_cons_succ, Array.getD_eq_getD_getElem?, List.getElem?_toArray, List.getElem?_cons_succ, List.getElem?_cons_zero, Option.getD_some, Nat.reduceAdd, List.nil_append, List.cons_append, En.get])
  refine fs_callv rfl (fun f => rfl) rfl 21 _ _ rfl (fun args w => by simp [callFunc, Try.func21]; rfl) (fun _ => .agg (encK .u8 T)) ?_ (fun _ _ _ => rfl) ?_
  · intro f lof w1 Lf HF HK1
    obtain ⟨p, g1, g2, a1, c1, a2, c2, hv, hl⟩ := HF 17 (by kernel_rfl)
    (try simp only [itms, itm, usesOf, readsOf, takesOf, List.find?, Nat.reduceBEq, List.flatMap_cons, List.flatMap_nil, Nat.reduceLT, if_true, if_false, Nat.reduceSub, List.getD_cons_zero, List.getD_cons_succ, List.append_nil, List.cons_append, List.nil_append, hl] at HK1)
    simp only [List.map_toArray, List.map_cons, List.map_nil, Act.eval, Array.getD_eq_getD_getElem?, List.getElem?_toArray, List.getElem?_cons_succ, List.getElem?_cons_zero, Option.getD_some, hv]
    clear HF hv hl
    have b1 := own_bs HK1 (.next _ (.here _)) (ok_zer (by decide) _) hm1k
    have b2 := own_bs HK1 (.next _ (.next _ (.here _))) (ok_zer (by decide) _) hm2k
    have b3 := own_bs HK1 (.next _ (.next _ (.next _ (.here _)))) (ok_le8 _) (by decide)
    have b4 := own_bs HK1 (.next _ (.next _ (.next _ (.next _ (.here _))))) (ok_le8 _) (by decide)
    have q4 := sum_any K1 _ 6 6 [⟨ad, len, cap, xs⟩, ⟨some ⟨g1, 0, none⟩, m1, m1, zer m1⟩, ⟨bd, bn, bcap, ys⟩, ⟨some ⟨g2, 0, none⟩, m2, m2, zer m2⟩, ⟨a1, 8, c1, le8 len⟩, ⟨a2, 8, c2, le8 bn⟩] w1 HK1L.out HK1O.out rfl (own_parts (bs := [⟨ad, len, cap, xs⟩, ⟨some ⟨g1, 0, none⟩, m1, m1, zer m1⟩, ⟨bd, bn, bcap, ys⟩, ⟨some ⟨g2, 0, none⟩, m2, m2, zer m2⟩, ⟨a1, 8, c1, le8 len⟩, ⟨a2, 8, c2, le8 bn⟩]) HK1 (.here _) rfl) (six_ok (HM.out _ HK1.grown) b1 (HC.out _ HK1.grown) b2 b3 b4) (by decide)
    rw [show catB [(⟨ad, len, cap, xs⟩ : Bs), (⟨some ⟨g1, 0, none⟩, m1, m1, zer m1⟩ : Bs), (⟨bd, bn, bcap, ys⟩ : Bs), (⟨some ⟨g2, 0, none⟩, m2, m2, zer m2⟩ : Bs), (⟨a1, 8, c1, le8 len⟩ : Bs), (⟨a2, 8, c2, le8 bn⟩ : Bs)] = macIn xs ys by simp [catB, macIn, HXL.out, HYL.out, ← HM1.out, ← HM2.out], HT.out] at q4
    exact q4
  (try simp only [Act.put, Act.eval, List.setIfInBounds_toArray, List.set_cons_zero, List.set_cons_succ, Array.getD_eq_getD_getElem?, List.getElem?_toArray, List.getElem?_cons_succ, List.getElem?_cons_zero, Option.getD_some, Nat.reduceAdd, List.nil_append, List.cons_append, En.get])
  refine fs_store rfl (fun f => rfl) (fun f it => it = [.ints p8 .u8 40 16 T]) rfl ?_ (fun _ _ _ => rfl) ?_
  · intro f lof w1 Lf HF HK1 Q' hQ
    clear HF
    (try simp only [itms, itm, usesOf, readsOf, takesOf, List.find?, Nat.reduceBEq, List.flatMap_cons, List.flatMap_nil, Nat.reduceLT, if_true, if_false, Nat.reduceSub, List.getD_cons_zero, List.getD_cons_succ, List.append_nil, List.cons_append, List.nil_append, List.append_nil] at HK1)
    refine wpList_put_row rfl HK1 40 _ _ rfl _ _ T rfl rfl _ _ _ (.here _) (by exact HTL.out) (by kernel_rfl) ?_
    intro w' hk
    exact hQ _ ⟨_, rfl, hk⟩
  (try simp only [Act.put, Act.eval, List.setIfInBounds_toArray, List.set_cons_zero, List.set_cons_succ, Array.getD_eq_getD_getElem?, List.getElem?_toArray, List.getElem?_cons_succ, List.getElem?_cons_zero, Option.getD_some, Nat.reduceAdd, List.nil_append, List.cons_append, En.get])
  refine fs_end ?_
  intro f lof wn HF hk
  have hl := HF 19 (by decide)
  (try simp only [itms, itm, usesOf, readsOf, takesOf, List.find?, Nat.reduceBEq, List.flatMap_cons, List.flatMap_nil, Nat.reduceLT, if_true, if_false, Nat.reduceSub, List.getD_cons_zero, List.getD_cons_succ, List.append_nil, List.cons_append, List.nil_append, show lof 19 = _ from hl] at hk)
  generalize f 5 = x5
  generalize f 8 = x8
  generalize f 12 = x12
  generalize f 16 = x16
  generalize f 17 = x17
  clear HF hl f lof
  clear HK
  have HK := Lib.hid hk
  clear hk
  go_wp2_with fail
  exact bodyPost_ret (results_own rfl _ HK.out _ rfl (by first | exact Has.here _ | exact Has.next _ (Has.here _) | exact Has.next _ (Has.next _ (Has.here _)) | exact Has.next _ (Has.next _ (Has.next _ (Has.here _))) | exact Has.next _ (Has.next _ (Has.next _ (Has.next _ (Has.here _)))) | exact Has.next _ (Has.next _ (Has.next _ (Has.next _ (Has.next _ (Has.here _))))) | exact Has.next _ (Has.next _ (Has.next _ (Has.next _ (Has.next _ (Has.next _ (Has.here _)))))) | exact Has.next _ (Has.next _ (Has.next _ (Has.next _ (Has.next _ (Has.next _ (Has.next _ (Has.here _))))))) | exact Has.next _ (Has.next _ (Has.next _ (Has.next _ (Has.next _ (Has.next _ (Has.next _ (Has.next _ (Has.here _)))))))) | exact Has.next _ (Has.next _ (Has.next _ (Has.next _ (Has.next _ (Has.next _ (Has.next _ (Has.next _ (Has.next _ (Has.here _)))))))))) _ Try.underlying40 rfl (by kernel_rfl)) rfl ⟨rfl, HK.out.grown⟩
end Go.Proofs.Ythhijeokeljcjaa
