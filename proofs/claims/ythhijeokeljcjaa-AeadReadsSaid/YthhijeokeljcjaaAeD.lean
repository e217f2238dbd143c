/- Seal, walked: the program's. -/
import Derived.Test.YthhijeokeljcjaaAeC
import Derived.Test.YthhijeokeljcjaaAeS
namespace Go.Proofs.Ythhijeokeljcjaa
set_option linter.unusedVariables false
set_option linter.unusedSimpArgs false
open Go.RowKit Go.Proofs.YthhijeokeljcjaaL

/-- Bytes enciphered, from the block 1 on. -/
def encL (key : List Int) (n : Int) (b : List Int) : List Int := xorL key 1 (nonceL n) b b.length
def sealL (key : List Int) (n : Int) (more b : List Int) : List Int := encL key n b ++ tagL key n more (encL key n b)
theorem length_encL (key : List Int) (n : Int) (b : List Int) : (encL key n b).length = b.length := length_xorL _ _ _ _ _
theorem ok_encL (key : List Int) (n : Int) (b : List Int) : okB 256 (encL key n b) := by
  intro x hx
  obtain ⟨j, -, rfl⟩ := List.mem_map.1 hx
  exact wf_u8_range (wf_bits _ _ _ _)
theorem two_ok {w : World} {b0 b1 : Bs} (h0 : b0.ok w) (h1 : b1.ok w) : ∀ b ∈ [b0, b1], b.ok w := fun b hb => by
  simp only [List.mem_cons, List.not_mem_nil, or_false] at hb
  rcases hb with rfl | rfl <;> assumption
theorem bs_sl8 {B : Bs} {w : World} (h : B.ok w) : Sl8 w B.ad B.len B.xs := ⟨h.1.1, h.2.1, h.1.2⟩
/-- The program's Xor, in words on Bs. -/
theorem enc_any (key : List Int) (n : Int) (B : Bs) (w : World) (hk : key.length = 32) (hko : okB 256 key) (hb : B.ok w) :
    Calls Try.prog 11 #[.agg (encK .u8 key), .int .u32 1, .agg (encK .u8 (nonceL n)), B.val] w fun e w' => ∃ a c, e = .returned (.slice a B.len c) ∧ w'.ownsRow w.heap.size 5 1 (.slice a B.len c) B.len ((encL key n B.xs).map (Value.int .u8)) ∧ w.grownBy w' none := by
  have hl : B.xs.length = B.len := hb.1.1
  have h3 := hb.2.2.2
  have q := xor_any key (nonceL n) 1 B.ad B.len B.cap B.xs w hk (length_nonceL n) hko (ok_nonceL n) (by decide) (by decide) (bs_sl8 hb) (by omega)
  refine Calls.mono q ?_
  rintro e w' ⟨v, rfl, ho, hg⟩
  rw [length_xorL] at ho
  obtain ⟨a, c, rfl⟩ := own_slice ho
  refine ⟨a, c, rfl, ?_, hg⟩
  rw [encL, hl]
  exact ho

set_option maxHeartbeats 8000000 in
set_option maxRecDepth 100000 in
theorem seal_any (key : List Int) (n : Int) (M B : Bs) (w : World) (hk : key.length = 32) (hko : okB 256 key) (hn0 : 0 ≤ n) (hn1 : n < 18446744073709551616) (hm : M.ok w) (hb : B.ok w) :
    Calls Try.prog 7 #[.agg (encK .u8 key), .int .u64 n, M.val, B.val] w fun e w' => ∃ a c, e = .returned (.slice a (B.len + 16) c) ∧ w'.ownsRow w.heap.size 5 1 (.slice a (B.len + 16) c) (B.len + 16) ((sealL key n M.xs B.xs).map (Value.int .u8)) ∧ w.grownBy w' none := by
  obtain ⟨ad, len, cap, xs⟩ := M
  obtain ⟨bd, bn, bcap, ys⟩ := B
  have HM := Lib.hid (fun (w' : World) (g : w.grownBy w' none) => Bs.ok_keep hm g)
  have HB := Lib.hid (fun (w' : World) (g : w.grownBy w' none) => Bs.ok_keep hb g)
  have hb3 : bn ≤ 3000 := hb.2.2.2
  have HYL := Lib.hid (show ys.length = bn from hb.1.1)
  clear hm hb
  show Calls Try.prog _ #[.agg (encK .u8 key), .int .u64 n, .slice ad len cap, .slice bd bn bcap] w fun e w' => ∃ a c, e = .returned (.slice a (bn + 16) c) ∧ w'.ownsRow w.heap.size 5 1 (.slice a (bn + 16) c) (bn + 16) ((sealL key n xs ys).map (Value.int .u8)) ∧ w.grownBy w' none
  have HKO := Lib.hid hko
  have HKL := Lib.hid hk
  have HN0 := Lib.hid hn0
  have HN1 := Lib.hid hn1
  clear hk hko hn0 hn1
  obtain ⟨C, hC⟩ : ∃ C, C = encL key n ys := ⟨_, rfl⟩
  obtain ⟨T, hT⟩ : ∃ T, T = tagL key n xs C := ⟨_, rfl⟩
  rw [show sealL key n xs ys = C ++ T by rw [sealL, ← hC, hT]]
  have HCL := Lib.hid (show C.length = bn by rw [hC, length_encL, HYL.out])
  have HCO := Lib.hid (show okB 256 C by rw [hC]; exact ok_encL _ _ _)
  have HTL := Lib.hid (show T.length = 16 by rw [hT]; exact length_tagL _ _ _ _)
  have HTO := Lib.hid (show okB 256 T by rw [hT]; exact ok_tagL _ _ _ _)
  have HC := Lib.hid hC
  have HT := Lib.hid hT
  clear hC hT
  obtain ⟨p, hp⟩ : ∃ p, w.heap.size = p := ⟨_, rfl⟩
  have hk0 := (own_start w).ints .u8 22 32 key HKL.out hp
  have HK := Lib.hid hk0
  have HP := Lib.hid hp
  clear hk0 hp
  go_enter Try.func7, Try.ntmps7
  go_upto_region 1 with fail
  rw [HP.out]
  refine wp_region_sep [] [.ints p .u8 22 32 key] [] [4] 6 (by kernel_rfl) (by kernel_rfl) (w0 := w) HK.out ?_
  (try simp only [Act.put, Act.eval, List.setIfInBounds_toArray, List.set_cons_zero, List.set_cons_succ, Array.getD_eq_getD_getElem?, List.getElem?_toArray, List.getElem?_cons_succ, List.getElem?_cons_zero, Option.getD_some, Nat.reduceAdd, List.nil_append, List.cons_append, En.get])
  refine fs_read rfl (fun f => rfl) rfl (fun _ => .agg (encK .u8 key)) ?_ (fun _ _ _ => rfl) ?_
  · intro f lof w1 Lf HF HK1
    clear HF
    (try simp only [itms, itm, usesOf, readsOf, takesOf, List.find?, Nat.reduceBEq, List.flatMap_cons, List.flatMap_nil, Nat.reduceLT, if_true, if_false, Nat.reduceSub, List.getD_cons_zero, List.getD_cons_succ, List.append_nil, List.cons_append, List.nil_append, List.append_nil] at HK1)
    exact run_loadr rfl rfl (HK1.rd (.here _)) Try.underlying22 (by kernel_rfl)
  (try simp only [Act.put, Act.eval, List.setIfInBounds_toArray, List.set_cons_zero, List.set_cons_succ, Array.getD_eq_getD_getElem?, List.getElem?_toArray, List.getElem?_cons_succ, List.getElem?_cons_zero, Option.getD_some, Nat.reduceAdd, List.nil_append, List.cons_append, En.get])
  (repeat (first | (refine fs_skip rfl (fun f => rfl) ?_; (try simp only [Act.put, Act.eval, List.setIfInBounds_toArray, List.set_cons_zero, List.set_cons_succ, Array.getD_eq_getD_getElem?, List.getElem?_toArray, List.getElem?_cons_succ, List.getElem?_cons_zero, Option.getD_some, Nat.reduceAdd, List.nil_append, List.cons_append, En.get])) | (refine fs_move _ rfl rfl (fun f => rfl) rfl ?_ ?_; ((first | exact fun _ _ _ => rfl | exact fun f f' hcg => hcg _ (by kernel_rfl) | (intro f f' hcg; rw [hcg]; kernel_rfl) | (intro f f' hcg; rw [hcg, hcg]; (kernel_rfl; kernel_rfl)) | exact trivial)); (try simp only [Act.put, Act.eval, List.setIfInBounds_toArray, List.set_cons_zero, List.set_cons_succ, Array.getD_eq_getD_getElem?, List.getElem?_toArray, List.getElem?_cons_succ, List.getElem?_cons_zero, Option.getD_some, Nat.reduceAdd, List.nil_append, List.cons_append, En.get])) | (refine fs_assign _ rfl rfl (fun f => rfl) rfl ?_ ?_; ((first | exact fun _ _ _ => rfl | exact fun f f' hcg => hcg _ (by kernel_rfl) | (intro f f' hcg; rw [hcg]; kernel_rfl) | (intro f f' hcg; rw [hcg, hcg]; (kernel_rfl; kernel_rfl)) | exact trivial)); (try simp only [Act.put, Act.eval, List.setIfInBounds_toArray, List.set_cons_zero, List.set_cons_succ, Array.getD_eq_getD_getElem?, List.getElem?_toArray, List.getElem?_cons_succ, List.getElem?_cons_zero, Option.getD_some, Nat.reduceAdd, List.nil_append, List.cons_append, En.get])) | (fail) | (refine fs_pure rfl (fun f => rfl) rfl ?_ ?_ ?_ ?_; (rotate_left; (intro f w1; (skip); go_simp; (first | done | with_reducible rfl)); ((first | exact fun _ _ _ => rfl | exact fun f f' hcg => hcg _ (by kernel_rfl) | (intro f f' hcg; rw [hcg]; kernel_rfl) | (intro f f' hcg; rw [hcg, hcg]; (kernel_rfl; kernel_rfl)) | exact trivial)); (try simp only [Act.put, Act.eval, List.setIfInBounds_toArray, List.set_cons_zero, List.set_cons_succ, Array.getD_eq_getD_getElem?, List.getElem?_toArray, List.getElem?_cons_succ, List.getElem?_cons_zero, Option.getD_some, Nat.reduceAdd, List.nil_append, List.cons_append, En.get])))))
  refine fs_callv rfl (fun f => rfl) rfl 12 _ _ rfl (fun args w => by simp [callFunc, Try.func12]; rfl) (fun _ => .agg (encK .u8 (nonceL n))) ?_ (fun _ _ _ => rfl) ?_
  · intro f lof w1 Lf HF HK1
    simp only [List.map_toArray, List.map_cons, List.map_nil, Act.eval, Array.getD_eq_getD_getElem?, List.getElem?_toArray, List.getElem?_cons_succ, List.getElem?_cons_zero, Option.getD_some, List.append_nil]
    clear HF HK1
    have q4 := nonce_any n w1 HN0.out HN1.out
    exact q4
  (try simp only [Act.put, Act.eval, List.setIfInBounds_toArray, List.set_cons_zero, List.set_cons_succ, Array.getD_eq_getD_getElem?, List.getElem?_toArray, List.getElem?_cons_succ, List.getElem?_cons_zero, Option.getD_some, Nat.reduceAdd, List.nil_append, List.cons_append, En.get])
  (repeat (first | (refine fs_skip rfl (fun f => rfl) ?_; (try simp only [Act.put, Act.eval, List.setIfInBounds_toArray, List.set_cons_zero, List.set_cons_succ, Array.getD_eq_getD_getElem?, List.getElem?_toArray, List.getElem?_cons_succ, List.getElem?_cons_zero, Option.getD_some, Nat.reduceAdd, List.nil_append, List.cons_append, En.get])) | (refine fs_move _ rfl rfl (fun f => rfl) rfl ?_ ?_; ((first | exact fun _ _ _ => rfl | exact fun f f' hcg => hcg _ (by kernel_rfl) | (intro f f' hcg; rw [hcg]; kernel_rfl) | (intro f f' hcg; rw [hcg, hcg]; (kernel_rfl; kernel_rfl)) | exact trivial)); (try simp only [Act.put, Act.eval, List.setIfInBounds_toArray, List.set_cons_zero, List.set_cons_succ, Array.getD_eq_getD_getElem?, List.getElem?_toArray, List.getElem?_cons_succ, List.getElem?_cons_zero, Option.getD_some, Nat.reduceAdd, List.nil_append, List.cons_append, En.get])) | (refine fs_assign _ rfl rfl (fun f => rfl) rfl ?_ ?_; ((first | exact fun _ _ _ => rfl | exact fun f f' hcg => hcg _ (by kernel_rfl) | (intro f f' hcg; rw [hcg]; kernel_rfl) | (intro f f' hcg; rw [hcg, hcg]; (kernel_rfl; kernel_rfl)) | exact trivial)); (try simp only [Act.put, Act.eval, List.setIfInBounds_toArray, List.set_cons_zero, List.set_cons_succ, Array.getD_eq_getD_getElem?, List.getElem?_toArray, List.getElem?_cons_succ, List.getElem?_cons_zero, Option.getD_some, Nat.reduceAdd, List.nil_append, List.cons_append, En.get])) | (fail) | (refine fs_pure rfl (fun f => rfl) rfl ?_ ?_ ?_ ?_; (rotate_left; (intro f w1; (skip); go_simp; (first | done | with_reducible rfl)); ((first | exact fun _ _ _ => rfl | exact fun f f' hcg => hcg _ (by kernel_rfl) | (intro f f' hcg; rw [hcg]; kernel_rfl) | (intro f f' hcg; rw [hcg, hcg]; (kernel_rfl; kernel_rfl)) | exact trivial)); (try simp only [Act.put, Act.eval, List.setIfInBounds_toArray, List.set_cons_zero, List.set_cons_succ, Array.getD_eq_getD_getElem?, List.getElem?_toArray, List.getElem?_cons_succ, List.getElem?_cons_zero, Option.getD_some, Nat.reduceAdd, List.nil_append, List.cons_append, En.get])))))
  refine fs_call rfl (fun f => rfl) 11 _ _ rfl (fun args w => by simp [callFunc, Try.func11]; rfl) (.res (fun _ v it => ∃ a c, v = .slice a bn c ∧ it = [.sl 5 .u8 a bn c C])) ?_ (fun _ _ _ => rfl) ?_
  · intro f lof w1 Lf HF HK1
    (try simp only [itms, itm, usesOf, readsOf, takesOf, List.find?, Nat.reduceBEq, List.flatMap_cons, List.flatMap_nil, Nat.reduceLT, if_true, if_false, Nat.reduceSub, List.getD_cons_zero, List.getD_cons_succ, List.append_nil, List.cons_append, List.nil_append, List.append_nil] at HK1)
    simp only [List.map_toArray, List.map_cons, List.map_nil, Act.eval, Array.getD_eq_getD_getElem?, List.getElem?_toArray, List.getElem?_cons_succ, List.getElem?_cons_zero, Option.getD_some, List.append_nil]
    clear HF
    have q4 := enc_any key n ⟨bd, bn, bcap, ys⟩ w1 HKL.out HKO.out (HB.out _ HK1.grown)
    rw [show encL key n (⟨bd, bn, bcap, ys⟩ : Bs).xs = C from HC.out.symm] at q4
    refine q4.mono ?_
    rintro e w2 ⟨a, c, rfl, ho, hg⟩
    exact ⟨_, _, rfl, ⟨a, c, rfl, rfl⟩, own_back HK1 hg ho⟩
  (try simp only [Act.put, Act.eval, List.setIfInBounds_toArray, List.set_cons_zero, List.set_cons_succ, Array.getD_eq_getD_getElem?, List.getElem?_toArray, List.getElem?_cons_succ, List.getElem?_cons_zero, Option.getD_some, Nat.reduceAdd, List.nil_append, List.cons_append, En.get])
  (repeat (first | (refine fs_skip rfl (fun f => rfl) ?_; (try simp only [Act.put, Act.eval, List.setIfInBounds_toArray, List.set_cons_zero, List.set_cons_succ, Array.getD_eq_getD_getElem?, List.getElem?_toArray, List.getElem?_cons_succ, List.getElem?_cons_zero, Option.getD_some, Nat.reduceAdd, List.nil_append, List.cons_append, En.get])) | (refine fs_move _ rfl rfl (fun f => rfl) rfl ?_ ?_; ((first | exact fun _ _ _ => rfl | exact fun f f' hcg => hcg _ (by kernel_rfl) | (intro f f' hcg; rw [hcg]; kernel_rfl) | (intro f f' hcg; rw [hcg, hcg]; (kernel_rfl; kernel_rfl)) | exact trivial)); (try simp only [Act.put, Act.eval, List.setIfInBounds_toArray, List.set_cons_zero, List.set_cons_succ, Array.getD_eq_getD_getElem?, List.getElem?_toArray, List.getElem?_cons_succ, List.getElem?_cons_zero, Option.getD_some, Nat.reduceAdd, List.nil_append, List.cons_append, En.get])) | (refine fs_assign _ rfl rfl (fun f => rfl) rfl ?_ ?_; ((first | exact fun _ _ _ => rfl | exact fun f f' hcg => hcg _ (by kernel_rfl) | (intro f f' hcg; rw [hcg]; kernel_rfl) | (intro f f' hcg; rw [hcg, hcg]; (kernel_rfl; kernel_rfl)) | exact trivial)); (try simp only [Act.put, Act.eval, List.setIfInBounds_toArray, List.set_cons_zero, List.set_cons_succ, Array.getD_eq_getD_getElem?, List.getElem?_toArray, List.getElem?_cons_succ, List.getElem?_cons_zero, Option.getD_some, Nat.reduceAdd, List.nil_append, List.cons_append, En.get])) | (fail) | (refine fs_pure rfl (fun f => rfl) rfl ?_ ?_ ?_ ?_; (rotate_left; (intro f w1; (skip); go_simp; (first | done | with_reducible rfl)); ((first | exact fun _ _ _ => rfl | exact fun f f' hcg => hcg _ (by kernel_rfl) | (intro f f' hcg; rw [hcg]; kernel_rfl) | (intro f f' hcg; rw [hcg, hcg]; (kernel_rfl; kernel_rfl)) | exact trivial)); (try simp only [Act.put, Act.eval, List.setIfInBounds_toArray, List.set_cons_zero, List.set_cons_succ, Array.getD_eq_getD_getElem?, List.getElem?_toArray, List.getElem?_cons_succ, List.getElem?_cons_zero, Option.getD_some, Nat.reduceAdd, List.nil_append, List.cons_append, En.get])))))
  refine fs_end ?_
  intro f lof wn HF hk
  obtain ⟨a, c, hv, hl⟩ := HF 4 (by decide)
  (try simp only [itms, itm, usesOf, readsOf, takesOf, List.find?, Nat.reduceBEq, List.flatMap_cons, List.flatMap_nil, Nat.reduceLT, if_true, if_false, Nat.reduceSub, List.getD_cons_zero, List.getD_cons_succ, List.append_nil, List.cons_append, List.nil_append, hl] at hk)
  rw [hv]
  clear HF hv hl f lof
  clear HK
  have HK := Lib.hid hk
  clear hk
  go_wp2_with (refine wpList_get_row rfl HK.out 22 _ rfl _ rfl _ _ _ _ (by first | exact Has.here _ | exact Has.next _ (Has.here _) | exact Has.next _ (Has.next _ (Has.here _)) | exact Has.next _ (Has.next _ (Has.next _ (Has.here _))) | exact Has.next _ (Has.next _ (Has.next _ (Has.next _ (Has.here _)))) | exact Has.next _ (Has.next _ (Has.next _ (Has.next _ (Has.next _ (Has.here _))))) | exact Has.next _ (Has.next _ (Has.next _ (Has.next _ (Has.next _ (Has.next _ (Has.here _)))))) | exact Has.next _ (Has.next _ (Has.next _ (Has.next _ (Has.next _ (Has.next _ (Has.next _ (Has.here _))))))) | exact Has.next _ (Has.next _ (Has.next _ (Has.next _ (Has.next _ (Has.next _ (Has.next _ (Has.next _ (Has.here _)))))))) | exact Has.next _ (Has.next _ (Has.next _ (Has.next _ (Has.next _ (Has.next _ (Has.next _ (Has.next _ (Has.next _ (Has.here _)))))))))) _ Try.underlying22 rfl (by kernel_rfl) ?_)
  have q4 := tag_any key n ⟨ad, len, cap, xs⟩ ⟨a, bn, c, C⟩ _ HKL.out HKO.out HN0.out HN1.out (HM.out _ HK.out.grown) (own_bs HK.out (.here _) HCO.out hb3)
  rw [show tagL key n (⟨ad, len, cap, xs⟩ : Bs).xs (⟨a, bn, c, C⟩ : Bs).xs = T from HT.out.symm] at q4
  refine q4.mono ?_
  clear q4
  rintro e w7 ⟨rfl, hg⟩
  have hkb := HK.out.grow hg
  clear hg
  clear HK
  have HK := Lib.hid hkb
  clear hkb
  go_wp2_with ((refine wpList_new_ints rfl HK.out _ rfl .u8 40 16 (zer 16) (length_zer _) (fun w => by go_simp; first | exact ⟨rfl, rfl⟩ | kernel_rfl) ?_))
  intro wn p10 hkn
  have HKN := Lib.hid hkn
  clear hkn HK
  have HK := HKN
  clear HKN
  go_wp2_with (refine wpList_put_row rfl HK.out 40 _ _ rfl _ _ T rfl rfl _ _ _ (by first | exact Upd.here _ | exact Upd.next _ (Upd.here _) | exact Upd.next _ (Upd.next _ (Upd.here _)) | exact Upd.next _ (Upd.next _ (Upd.next _ (Upd.here _))) | exact Upd.next _ (Upd.next _ (Upd.next _ (Upd.next _ (Upd.here _)))) | exact Upd.next _ (Upd.next _ (Upd.next _ (Upd.next _ (Upd.next _ (Upd.here _))))) | exact Upd.next _ (Upd.next _ (Upd.next _ (Upd.next _ (Upd.next _ (Upd.next _ (Upd.here _)))))) | exact Upd.next _ (Upd.next _ (Upd.next _ (Upd.next _ (Upd.next _ (Upd.next _ (Upd.next _ (Upd.here _))))))) | exact Upd.next _ (Upd.next _ (Upd.next _ (Upd.next _ (Upd.next _ (Upd.next _ (Upd.next _ (Upd.next _ (Upd.here _)))))))) | exact Upd.next _ (Upd.next _ (Upd.next _ (Upd.next _ (Upd.next _ (Upd.next _ (Upd.next _ (Upd.next _ (Upd.next _ (Upd.here _)))))))))) (by exact HTL.out) (by kernel_rfl) ?_; (intro wn hkn; have HKN := Lib.hid hkn; clear hkn; clear HK; have HK := HKN; clear HKN))
  obtain ⟨sb, hsb⟩ : ∃ sb, wn.heap.size = sb := ⟨_, rfl⟩
  have hkb := HK.out.blk (.cells #[Value.slice a bn c, Value.slice (some ⟨p10, 0, none⟩) 16 16] 24 (0, 0)) hsb
  rw [hsb]
  clear hsb
  generalize wn.alloc (.cells #[Value.slice a bn c, Value.slice (some ⟨p10, 0, none⟩) 16 16] 24 (0, 0)) = wn at hkb ⊢
  clear HK
  have HK := Lib.hid hkb
  clear hkb
  have q4 := concat_any _ 2 2 [⟨a, bn, c, C⟩, ⟨some ⟨p10, 0, none⟩, 16, 16, T⟩] _ rfl (own_parts (bs := [⟨a, bn, c, C⟩, ⟨some ⟨p10, 0, none⟩, 16, 16, T⟩]) HK.out (.here _) rfl) (two_ok (own_bs HK.out (.next _ (.next _ (.here _))) HCO.out hb3) (own_bsi HK.out (.next _ (.here _)) HTO.out (by decide))) (by decide)
  rw [show catB [(⟨a, bn, c, C⟩ : Bs), (⟨some ⟨p10, 0, none⟩, 16, 16, T⟩ : Bs)] = C ++ T by simp [catB], show lenB [(⟨a, bn, c, C⟩ : Bs), (⟨some ⟨p10, 0, none⟩, 16, 16, T⟩ : Bs)] = bn + 16 from rfl] at q4
  refine q4.mono ?_
  clear q4
  rintro e w8 ⟨v, rfl, ho, hg⟩
  obtain ⟨a2, c2, rfl⟩ := own_slice ho
  have hkb := own_back HK.out hg ho
  clear hg ho
  clear HK
  have HK := Lib.hid hkb
  clear hkb
  go_wp2_with fail
  exact bodyPost_ret (results_tmp rfl _ _ _) rfl ⟨a2, c2, rfl, HK.out.get (.here _), HK.out.grown⟩
end Go.Proofs.Ythhijeokeljcjaa
