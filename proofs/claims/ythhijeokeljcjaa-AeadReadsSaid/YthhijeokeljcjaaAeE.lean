/- Open, walked: the program's. -/
import Derived.Test.YthhijeokeljcjaaAeD
namespace Go.Proofs.Ythhijeokeljcjaa
set_option linter.unusedVariables false
set_option linter.unusedSimpArgs false
open Go.RowKit Go.Proofs.YthhijeokeljcjaaL

theorem subAt_none {ad : Option Addr} {cap : Nat} (h : ad = none → cap = 0) (l : Nat) : subAt ad l cap = none → cap - l = 0 := fun hs => by
  unfold subAt at hs
  split at hs
  · omega
  · cases ad with
    | none => have := h rfl; omega
    | some x => simp at hs
theorem okB_take {B : Int} {s : List Int} (h : okB B s) (n : Nat) : okB B (s.take n) := fun x hx => h x (List.mem_of_mem_take hx)
theorem okB_drop {B : Int} {s : List Int} (h : okB B s) (n : Nat) : okB B (s.drop n) := fun x hx => h x (List.mem_of_mem_drop hx)
/-- Is it sealed so? -/
def opensB (key : List Int) (n : Int) (more c : List Int) : Bool := decide (16 ≤ c.length) && (tagL key n more (c.take (c.length - 16)) == c.drop (c.length - 16))
def openL (key : List Int) (n : Int) (c : List Int) : List Int := encL key n (c.take (c.length - 16))

/-- What Open comes to, of bytes that are long enough. -/
def OpenR (r : Bool) (k : Nat) (E : List Int) (w : World) (e : Ending) (w' : World) : Prop :=
  (r = true → ∃ a c, e = .returned (.tuple #[.slice a k c, .int .i64 0]) ∧ w'.ownsRow w.heap.size 5 1 (.slice a k c) k (E.map (Value.int .u8))) ∧ (r = false → e = .returned (.tuple #[.slice none 0 0, .int .i64 21])) ∧ w.grownBy w' none
set_option maxHeartbeats 8000000 in
set_option maxRecDepth 100000 in
theorem open_short (key : List Int) (n : Int) (v : Value) (ad : Option Addr) (len cap : Nat) (w : World) (hn : len < 16) :
    Calls Try.prog 8 #[.agg (encK .u8 key), .int .u64 n, v, .slice ad len cap] w fun e w' => e = .returned (.tuple #[.slice none 0 0, .int .i64 21]) ∧ w.grownBy w' none := by
  have h16 : (len : Int) < 16 := by omega
  go_enter Try.func8, Try.ntmps8
  go_wp2_with fail
  exact bodyPost_ret (results_tmp2 rfl _ _ _) rfl ⟨rfl, World.grownBy_alloc _ _ _⟩

set_option maxHeartbeats 8000000 in
set_option maxRecDepth 100000 in
theorem open_long (r : Bool) (key : List Int) (n : Int) (M C : Bs) (k : Nat) (w : World) (hk : key.length = 32) (hko : okB 256 key) (hn0 : 0 ≤ n) (hn1 : n < 18446744073709551616) (hm : M.ok w) (hb : C.ok w) (hlc : C.len ≤ C.cap) (hkl : C.len = k + 16) (hr : (tagL key n M.xs (C.xs.take k) == C.xs.drop k) = r) :
    Calls Try.prog 8 #[.agg (encK .u8 key), .int .u64 n, M.val, C.val] w (OpenR r k (encL key n (C.xs.take k)) w) := by
  obtain ⟨ad, len, cap, xs⟩ := M
  obtain ⟨bd, bn, bcap, ys⟩ := C
  have HM := Lib.hid (fun (w' : World) (g : w.grownBy w' none) => Bs.ok_keep hm g)
  have hb3 : bn ≤ 3000 := hb.2.2.2
  have hbc : bn ≤ bcap := hlc
  have hbk : bn = k + 16 := hkl
  have HYL := Lib.hid (show ys.length = bn from hb.1.1)
  obtain ⟨C, hC⟩ : ∃ C, C = ys.take k := ⟨_, rfl⟩
  obtain ⟨G, hG⟩ : ∃ G, G = ys.drop k := ⟨_, rfl⟩
  have HBC := Lib.hid (fun (w' : World) (g : w.grownBy w' none) => (show (⟨bd, k, bcap, C⟩ : Bs).ok w' by rw [hC]; exact ⟨rdfront ((Bs.ok_keep hb g).1) k (by omega), okB_take hb.2.1 k, hb.2.2.1, (show k ≤ 3000 by omega)⟩))
  have HBG := Lib.hid (fun (w' : World) (g : w.grownBy w' none) => (show (⟨subAt bd k bcap, 16, bcap - k, G⟩ : Bs).ok w' by rw [hG]; have h := rd_drop' ((Bs.ok_keep hb g).1) k (by omega) hbc; rw [show bn - k = 16 by omega] at h; exact ⟨h, okB_drop hb.2.1 k, subAt_none hb.2.2.1 k, (show 16 ≤ 3000 by decide)⟩))
  have hCL : C.length = k := by rw [hC, List.length_take, HYL.out]; omega
  clear hm hb hlc hkl
  show Calls Try.prog _ #[.agg (encK .u8 key), .int .u64 n, .slice ad len cap, .slice bd bn bcap] w (OpenR r k (encL key n (ys.take k)) w)
  replace hr : (tagL key n xs C == G) = r := by rw [hC, hG]; exact hr
  rw [← hC]
  have HKO := Lib.hid hko
  have HKL := Lib.hid hk
  have HN0 := Lib.hid hn0
  have HN1 := Lib.hid hn1
  clear hk hko hn0 hn1 hC hG
  obtain ⟨T, hT⟩ : ∃ T, T = tagL key n xs C := ⟨_, rfl⟩
  rw [← hT] at hr
  have HTL := Lib.hid (show T.length = 16 by rw [hT]; exact length_tagL _ _ _ _)
  have HTO := Lib.hid (show okB 256 T by rw [hT]; exact ok_tagL _ _ _ _)
  have HT := Lib.hid hT
  have HR := Lib.hid hr
  obtain ⟨E, hE⟩ : ∃ E, E = encL key n C := ⟨_, rfl⟩
  rw [← hE]
  have HE := Lib.hid hE
  clear hT hr hE
  have hkbc : k ≤ bcap := by omega
  have hkbi : (k : Int) ≤ bcap := by omega
  have hbci : (bn : Int) ≤ bcap := by omega
  have hki : (0 : Int) ≤ k := by omega
  have hkn : (k : Int) ≤ bn := by omega
  have h16 : ¬ (bn : Int) < 16 := by omega
  have HQ := Lib.hid (show IntKind.i64.wrap ((bn : Int) - 16) = k by rw [IntWalk.i64_in _ (by omega)]; omega)
  have HD := Lib.hid (show bn - k = 16 by omega)
  have hk3 : k ≤ 3000 := by omega
  have hb3i : (bn : Int) ≤ 3000 := by omega
  have HCL := Lib.hid hCL
  clear hbk hCL
  obtain ⟨p, hp⟩ : ∃ p, w.heap.size = p := ⟨_, rfl⟩
  have hk0 := (own_start w).ints .u8 22 32 key HKL.out hp
  have HK := Lib.hid hk0
  have HP := Lib.hid hp
  clear hk0 hp
  go_enter Try.func8, Try.ntmps8
  go_upto_region 3 with fail
  rw [HP.out]
  refine wp_region_sep [] [.ints p .u8 22 32 key] [] [] 12 (by kernel_rfl) (by kernel_rfl) (w0 := w) HK.out ?_
  (try simp only [Act.put, Act.eval, List.setIfInBounds_toArray, List.set_cons_zero, List.set_cons_succ, Array.getD_eq_getD_getElem?, List.getElem?_toArray, List.getElem?_cons_succ, List.getElem?_cons_zero, Option.getD_some, Nat.reduceAdd, List.nil_append, List.cons_append, En.get])
  (repeat (first | (refine fs_skip rfl (fun f => rfl) ?_; (try simp only [Act.put, Act.eval, List.setIfInBounds_toArray, List.set_cons_zero, List.set_cons_succ, Array.getD_eq_getD_getElem?, List.getElem?_toArray, List.getElem?_cons_succ, List.getElem?_cons_zero, Option.getD_some, Nat.reduceAdd, List.nil_append, List.cons_append, En.get])) | (refine fs_move _ rfl rfl (fun f => rfl) rfl ?_ ?_; ((first | exact fun _ _ _ => rfl | exact fun f f' hcg => hcg _ (by kernel_rfl) | (intro f f' hcg; rw [hcg]; kernel_rfl) | (intro f f' hcg; rw [hcg, hcg]; (kernel_rfl; kernel_rfl)) | exact trivial)); (try simp only [Act.put, Act.eval, List.setIfInBounds_toArray, List.set_cons_zero, List.set_cons_succ, Array.getD_eq_getD_getElem?, List.getElem?_toArray, List.getElem?_cons_succ, List.getElem?_cons_zero, Option.getD_some, Nat.reduceAdd, List.nil_append, List.cons_append, En.get])) | (refine fs_assign _ rfl rfl (fun f => rfl) rfl ?_ ?_; ((first | exact fun _ _ _ => rfl | exact fun f f' hcg => hcg _ (by kernel_rfl) | (intro f f' hcg; rw [hcg]; kernel_rfl) | (intro f f' hcg; rw [hcg, hcg]; (kernel_rfl; kernel_rfl)) | exact trivial)); (try simp only [Act.put, Act.eval, List.setIfInBounds_toArray, List.set_cons_zero, List.set_cons_succ, Array.getD_eq_getD_getElem?, List.getElem?_toArray, List.getElem?_cons_succ, List.getElem?_cons_zero, Option.getD_some, Nat.reduceAdd, List.nil_append, List.cons_append, En.get])) | (fail) | (refine fs_pure rfl (fun f => rfl) rfl ?_ ?_ ?_ ?_; (rotate_left; (intro f w1; ((have hq := HQ.out)); go_simp; (first | done | with_reducible rfl)); ((first | exact fun _ _ _ => rfl | exact fun f f' hcg => hcg _ (by kernel_rfl) | (intro f f' hcg; rw [hcg]; kernel_rfl) | (intro f f' hcg; rw [hcg, hcg]; (kernel_rfl; kernel_rfl)) | exact trivial)); (try simp only [Act.put, Act.eval, List.setIfInBounds_toArray, List.set_cons_zero, List.set_cons_succ, Array.getD_eq_getD_getElem?, List.getElem?_toArray, List.getElem?_cons_succ, List.getElem?_cons_zero, Option.getD_some, Nat.reduceAdd, List.nil_append, List.cons_append, En.get])))))
  rw [show (if bcap = k then bd else Option.map (fun x => x.add k) bd) = subAt bd k bcap by rw [subAt, Nat.mul_one], HD.out]
  refine fs_end ?_
  intro f lof wn HF hk
  (try simp only [itms, itm, usesOf, readsOf, takesOf, List.find?, Nat.reduceBEq, List.flatMap_cons, List.flatMap_nil, Nat.reduceLT, if_true, if_false, Nat.reduceSub, List.getD_cons_zero, List.getD_cons_succ, List.append_nil, List.cons_append, List.nil_append, List.append_nil] at hk)
  clear HF f lof
  clear HK
  have HK := Lib.hid hk
  clear hk
  go_wp2_with (refine wpList_get_row rfl HK.out 22 _ rfl _ rfl _ _ _ _ (by first | exact Has.here _ | exact Has.next _ (Has.here _) | exact Has.next _ (Has.next _ (Has.here _)) | exact Has.next _ (Has.next _ (Has.next _ (Has.here _))) | exact Has.next _ (Has.next _ (Has.next _ (Has.next _ (Has.here _)))) | exact Has.next _ (Has.next _ (Has.next _ (Has.next _ (Has.next _ (Has.here _))))) | exact Has.next _ (Has.next _ (Has.next _ (Has.next _ (Has.next _ (Has.next _ (Has.here _)))))) | exact Has.next _ (Has.next _ (Has.next _ (Has.next _ (Has.next _ (Has.next _ (Has.next _ (Has.here _))))))) | exact Has.next _ (Has.next _ (Has.next _ (Has.next _ (Has.next _ (Has.next _ (Has.next _ (Has.next _ (Has.here _)))))))) | exact Has.next _ (Has.next _ (Has.next _ (Has.next _ (Has.next _ (Has.next _ (Has.next _ (Has.next _ (Has.next _ (Has.here _)))))))))) _ Try.underlying22 rfl (by kernel_rfl) ?_)
  have q4 := tag_any key n ⟨ad, len, cap, xs⟩ ⟨bd, k, bcap, C⟩ _ HKL.out HKO.out HN0.out HN1.out (HM.out _ HK.out.grown) (HBC.out _ HK.out.grown)
  rw [show tagL key n (⟨ad, len, cap, xs⟩ : Bs).xs (⟨bd, k, bcap, C⟩ : Bs).xs = T from HT.out.symm] at q4
  refine q4.mono ?_
  clear q4
  rintro e w7 ⟨rfl, hg⟩
  have hkb := HK.out.grow hg
  clear hg
  clear HK
  have HK := Lib.hid hkb
  clear hkb
  go_wp2_with ((refine wpList_new_ints rfl HK.out _ rfl .u8 40 16 (zer 16) (length_zer _) (fun w => by go_simp; first | exact ⟨rfl, rfl⟩ | kernel_rfl) ?_))
  intro wn p11 hkn
  have HKN := Lib.hid hkn
  clear hkn HK
  have HK := HKN
  clear HKN
  go_wp2_with (refine wpList_put_row rfl HK.out 40 _ _ rfl _ _ T rfl rfl _ _ _ (by first | exact Upd.here _ | exact Upd.next _ (Upd.here _) | exact Upd.next _ (Upd.next _ (Upd.here _)) | exact Upd.next _ (Upd.next _ (Upd.next _ (Upd.here _))) | exact Upd.next _ (Upd.next _ (Upd.next _ (Upd.next _ (Upd.here _)))) | exact Upd.next _ (Upd.next _ (Upd.next _ (Upd.next _ (Upd.next _ (Upd.here _))))) | exact Upd.next _ (Upd.next _ (Upd.next _ (Upd.next _ (Upd.next _ (Upd.next _ (Upd.here _)))))) | exact Upd.next _ (Upd.next _ (Upd.next _ (Upd.next _ (Upd.next _ (Upd.next _ (Upd.next _ (Upd.here _))))))) | exact Upd.next _ (Upd.next _ (Upd.next _ (Upd.next _ (Upd.next _ (Upd.next _ (Upd.next _ (Upd.next _ (Upd.here _)))))))) | exact Upd.next _ (Upd.next _ (Upd.next _ (Upd.next _ (Upd.next _ (Upd.next _ (Upd.next _ (Upd.next _ (Upd.next _ (Upd.here _)))))))))) (by exact HTL.out) (by kernel_rfl) ?_; (intro wn hkn; have HKN := Lib.hid hkn; clear hkn; clear HK; have HK := HKN; clear HKN))
  have g1 := HBG.out _ HK.out.grown
  have q4 := same_any (some ⟨p11, 0, none⟩) 16 16 T (subAt bd k bcap) 16 (bcap - k) G _ (HK.out.rd (.here _)) g1.1 HTO.out g1.2.1 (by decide) (by decide)
  rw [HR.out] at q4
  refine q4.mono ?_
  clear q4 g1
  rintro e w8 ⟨rfl, hg⟩
  have hkb := HK.out.grow hg
  clear hg
  clear HK
  have HK := Lib.hid hkb
  clear hkb
  cases r with
  | false =>
    go_wp2_with fail
    exact bodyPost_ret (results_tmp2 rfl _ _ _) rfl ⟨fun h => (by cases h), fun _ => rfl, HK.out.grown⟩
  | true =>
    go_upto_region 7 with fail
    refine wp_region_sep [] [.ints p11 .u8 40 16 T, .ints p .u8 22 32 key] [] [4] 7 (by kernel_rfl) (by kernel_rfl) (w0 := w) HK.out ?_
    (try simp only [Act.put, Act.eval, List.setIfInBounds_toArray, List.set_cons_zero, List.set_cons_succ, Array.getD_eq_getD_getElem?, List.getElem?_toArray, List.getElem?_cons_succ, List.getElem?_cons_zero, Option.getD_some, Nat.reduceAdd, List.nil_append, List.cons_append, En.get])
    refine fs_read rfl (fun f => rfl) rfl (fun _ => .agg (encK .u8 key)) ?_ (fun _ _ _ => rfl) ?_
    · intro f lof w1 Lf HF HK1
      clear HF
      (try simp only [itms, itm, usesOf, readsOf, takesOf, List.find?, Nat.reduceBEq, List.flatMap_cons, List.flatMap_nil, Nat.reduceLT, if_true, if_false, Nat.reduceSub, List.getD_cons_zero, List.getD_cons_succ, List.append_nil, List.cons_append, List.nil_append, List.append_nil] at HK1)
      exact run_loadr rfl rfl (HK1.rd (.next _ (.here _))) Try.underlying22 (by kernel_rfl)
    (try simp only [Act.put, Act.eval, List.setIfInBounds_toArray, List.set_cons_zero, List.set_cons_succ, Array.getD_eq_getD_getElem?, List.getElem?_toArray, List.getElem?_cons_succ, List.getElem?_cons_zero, Option.getD_some, Nat.reduceAdd, List.nil_append, List.cons_append, En.get])
    (repeat (first | (refine fs_skip rfl (fun f => rfl) ?_; (try simp only [Act.put, Act.eval, List.setIfInBounds_toArray, List.set_cons_zero, List.set_cons_succ, Array.getD_eq_getD_getElem?, List.getElem?_toArray, List.getElem?_cons_succ, List.getElem?_cons_zero, Option.getD_some, Nat.reduceAdd, List.nil_append, List.cons_append, En.get])) | (refine fs_move _ rfl rfl (fun f => rfl) rfl ?_ ?_; ((first | exact fun _ _ _ => rfl | exact fun f f' hcg => hcg _ (by kernel_rfl) | (intro f f' hcg; rw [hcg]; kernel_rfl) | (intro f f' hcg; rw [hcg, hcg]; (kernel_rfl; kernel_rfl)) | exact trivial)); (try simp only [Act.put, Act.eval, List.setIfInBounds_toArray, List.set_cons_zero, List.set_cons_succ, Array.getD_eq_getD_getElem?, List.getElem?_toArray, List.getElem?_cons_succ, List.getElem?_cons_zero, Option.getD_some, Nat.reduceAdd, List.nil_append, List.cons_append, En.get])) | (refine fs_assign _ rfl rfl (fun f => rfl) rfl ?_ ?_; ((first | exact fun _ _ _ => rfl | exact fun f f' hcg => hcg _ (by kernel_rfl) | (intro f f' hcg; rw [hcg]; kernel_rfl) | (intro f f' hcg; rw [hcg, hcg]; (kernel_rfl; kernel_rfl)) | exact trivial)); (try simp only [Act.put, Act.eval, List.setIfInBounds_toArray, List.set_cons_zero, List.set_cons_succ, Array.getD_eq_getD_getElem?, List.getElem?_toArray, List.getElem?_cons_succ, List.getElem?_cons_zero, Option.getD_some, Nat.reduceAdd, List.nil_append, List.cons_append, En.get])) | (fail) | (refine fs_pure rfl (fun f => rfl) rfl ?_ ?_ ?_ ?_; (rotate_left; (intro f w1; (skip); go_simp; (first | done | with_reducible rfl)); ((first | exact fun _ _ _ => rfl | exact fun f f' hcg => hcg _ (by kernel_rfl) | (intro f f' hcg; rw [hcg]; kernel_rfl) | (intro f f' hcg; rw [hcg, hcg]; (kernel_rfl; kernel_rfl)) | exact trivial)); (try simp only [Act.put, Act.eval, List.setIfInBounds_toArray, List.set_cons_zero, List.set_cons_succ, Array.getD_eq_getD_getElem?, List.getElem?_toArray, List.getElem?_cons_succ, List.getElem?_cons_zero, Option.getD_some, Nat.reduceAdd, List.nil_append, List.cons_append, En.get])))))
    refine fs_callv rfl (fun f => rfl) rfl 12 _ _ rfl (fun args w => by simp [callFunc, Try.func12]; rfl) (fun _ => .agg (encK .u8 (nonceL n))) ?_ (fun _ _ _ => rfl) ?_
    · intro f lof w1 Lf HF HK1
      simp only [List.map_toArray, List.map_cons, List.map_nil, Act.eval, Array.getD_eq_getD_getElem?, List.getElem?_toArray, List.getElem?_cons_succ, List.getElem?_cons_zero, Option.getD_some, List.append_nil]
      clear HF HK1
      have q4 := nonce_any n w1 HN0.out HN1.out
      exact q4
    (try simp only [Act.put, Act.eval, List.setIfInBounds_toArray, List.set_cons_zero, List.set_cons_succ, Array.getD_eq_getD_getElem?, List.getElem?_toArray, List.getElem?_cons_succ, List.getElem?_cons_zero, Option.getD_some, Nat.reduceAdd, List.nil_append, List.cons_append, En.get])
    (repeat (first | (refine fs_skip rfl (fun f => rfl) ?_; (try simp only [Act.put, Act.eval, List.setIfInBounds_toArray, List.set_cons_zero, List.set_cons_succ, Array.getD_eq_getD_getElem?, List.getElem?_toArray, List.getElem?_cons_succ, List.getElem?_cons_zero, Option.getD_some, Nat.reduceAdd, List.nil_append, List.cons_append, En.get])) | (refine fs_move _ rfl rfl (fun f => rfl) rfl ?_ ?_; ((first | exact fun _ _ _ => rfl | exact fun f f' hcg => hcg _ (by kernel_rfl) | (intro f f' hcg; rw [hcg]; kernel_rfl) | (intro f f' hcg; rw [hcg, hcg]; (kernel_rfl; kernel_rfl)) | exact trivial)); (try simp only [Act.put, Act.eval, List.setIfInBounds_toArray, List.set_cons_zero, List.set_cons_succ, Array.getD_eq_getD_getElem?, List.getElem?_toArray, List.getElem?_cons_succ, List.getElem?_cons_zero, Option.getD_some, Nat.reduceAdd, List.nil_append, List.cons_append, En.get])) | (refine fs_assign _ rfl rfl (fun f => rfl) rfl ?_ ?_; ((first | exact fun _ _ _ => rfl | exact fun f f' hcg => hcg _ (by kernel_rfl) | (intro f f' hcg; rw [hcg]; kernel_rfl) | (intro f f' hcg; rw [hcg, hcg]; (kernel_rfl; kernel_rfl)) | exact trivial)); (try simp only [Act.put, Act.eval, List.setIfInBounds_toArray, List.set_cons_zero, List.set_cons_succ, Array.getD_eq_getD_getElem?, List.getElem?_toArray, List.getElem?_cons_succ, List.getElem?_cons_zero, Option.getD_some, Nat.reduceAdd, List.nil_append, List.cons_append, En.get])) | (fail) | (refine fs_pure rfl (fun f => rfl) rfl ?_ ?_ ?_ ?_; (rotate_left; (intro f w1; (skip); go_simp; (first | done | with_reducible rfl)); ((first | exact fun _ _ _ => rfl | exact fun f f' hcg => hcg _ (by kernel_rfl) | (intro f f' hcg; rw [hcg]; kernel_rfl) | (intro f f' hcg; rw [hcg, hcg]; (kernel_rfl; kernel_rfl)) | exact trivial)); (try simp only [Act.put, Act.eval, List.setIfInBounds_toArray, List.set_cons_zero, List.set_cons_succ, Array.getD_eq_getD_getElem?, List.getElem?_toArray, List.getElem?_cons_succ, List.getElem?_cons_zero, Option.getD_some, Nat.reduceAdd, List.nil_append, List.cons_append, En.get])))))
    refine fs_call rfl (fun f => rfl) 11 _ _ rfl (fun args w => by simp [callFunc, Try.func11]; rfl) (.res (fun _ v it => ∃ a c, v = .slice a k c ∧ it = [.sl 5 .u8 a k c E])) ?_ (fun _ _ _ => rfl) ?_
    · intro f lof w1 Lf HF HK1
      (try simp only [itms, itm, usesOf, readsOf, takesOf, List.find?, Nat.reduceBEq, List.flatMap_cons, List.flatMap_nil, Nat.reduceLT, if_true, if_false, Nat.reduceSub, List.getD_cons_zero, List.getD_cons_succ, List.append_nil, List.cons_append, List.nil_append, List.append_nil] at HK1)
      simp only [List.map_toArray, List.map_cons, List.map_nil, Act.eval, Array.getD_eq_getD_getElem?, List.getElem?_toArray, List.getElem?_cons_succ, List.getElem?_cons_zero, Option.getD_some, List.append_nil]
      clear HF
      have q4 := enc_any key n ⟨bd, k, bcap, C⟩ w1 HKL.out HKO.out (HBC.out _ HK1.grown)
      rw [show encL key n (⟨bd, k, bcap, C⟩ : Bs).xs = E from HE.out.symm] at q4
      refine q4.mono ?_
      rintro e w2 ⟨a, c, rfl, ho, hg⟩
      exact ⟨_, _, rfl, ⟨a, c, rfl, rfl⟩, own_back HK1 hg ho⟩
    (try simp only [Act.put, Act.eval, List.setIfInBounds_toArray, List.set_cons_zero, List.set_cons_succ, Array.getD_eq_getD_getElem?, List.getElem?_toArray, List.getElem?_cons_succ, List.getElem?_cons_zero, Option.getD_some, Nat.reduceAdd, List.nil_append, List.cons_append, En.get])
    (repeat (first | (refine fs_skip rfl (fun f => rfl) ?_; (try simp only [Act.put, Act.eval, List.setIfInBounds_toArray, List.set_cons_zero, List.set_cons_succ, Array.getD_eq_getD_getElem?, List.getElem?_toArray, List.getElem?_cons_succ, List.getElem?_cons_zero, Option.getD_some, Nat.reduceAdd, List.nil_append, List.cons_append, En.get])) | (refine fs_move _ rfl rfl (fun f => rfl) rfl ?_ ?_; ((first | exact fun _ _ _ => rfl | exact fun f f' hcg => hcg _ (by kernel_rfl) | (intro f f' hcg; rw [hcg]; kernel_rfl) | (intro f f' hcg; rw [hcg, hcg]; (kernel_rfl; kernel_rfl)) | exact trivial)); (try simp only [Act.put, Act.eval, List.setIfInBounds_toArray, List.set_cons_zero, List.set_cons_succ, Array.getD_eq_getD_getElem?, List.getElem?_toArray, List.getElem?_cons_succ, List.getElem?_cons_zero, Option.getD_some, Nat.reduceAdd, List.nil_append, List.cons_append, En.get])) | (refine fs_assign _ rfl rfl (fun f => rfl) rfl ?_ ?_; ((first | exact fun _ _ _ => rfl | exact fun f f' hcg => hcg _ (by kernel_rfl) | (intro f f' hcg; rw [hcg]; kernel_rfl) | (intro f f' hcg; rw [hcg, hcg]; (kernel_rfl; kernel_rfl)) | exact trivial)); (try simp only [Act.put, Act.eval, List.setIfInBounds_toArray, List.set_cons_zero, List.set_cons_succ, Array.getD_eq_getD_getElem?, List.getElem?_toArray, List.getElem?_cons_succ, List.getElem?_cons_zero, Option.getD_some, Nat.reduceAdd, List.nil_append, List.cons_append, En.get])) | (fail) | (refine fs_pure rfl (fun f => rfl) rfl ?_ ?_ ?_ ?_; (rotate_left; (intro f w1; (skip); go_simp; (first | done | with_reducible rfl)); ((first | exact fun _ _ _ => rfl | exact fun f f' hcg => hcg _ (by kernel_rfl) | (intro f f' hcg; rw [hcg]; kernel_rfl) | (intro f f' hcg; rw [hcg, hcg]; (kernel_rfl; kernel_rfl)) | exact trivial)); (try simp only [Act.put, Act.eval, List.setIfInBounds_toArray, List.set_cons_zero, List.set_cons_succ, Array.getD_eq_getD_getElem?, List.getElem?_toArray, List.getElem?_cons_succ, List.getElem?_cons_zero, Option.getD_some, Nat.reduceAdd, List.nil_append, List.cons_append, En.get])))))
    refine fs_end ?_
    intro f lof wn HF hk
    obtain ⟨a, c, hv, hl⟩ := HF 4 (by decide)
    (try simp only [itms, itm, usesOf, readsOf, takesOf, List.find?, Nat.reduceBEq, List.flatMap_cons, List.flatMap_nil, Nat.reduceLT, if_true, if_false, Nat.reduceSub, List.getD_cons_zero, List.getD_cons_succ, List.append_nil, List.cons_append, List.nil_append, hl] at hk)
    rw [hv]
    clear HF hv hl f lof
    clear HK
    have HK := Lib.hid hk
    clear hk
    go_wp2_with fail
    exact bodyPost_ret (results_tmp2 rfl _ _ _) rfl ⟨fun _ => ⟨a, c, rfl, HK.out.get (.here _)⟩, fun h => (by cases h), HK.out.grown⟩
end Go.Proofs.Ythhijeokeljcjaa
