/- Addresses: their bytes, and what bytes are an address. -/
import Derived.Test.YtmankjhopfilaaaPkC
import Derived.Test.YtmankjhopfilaaaBlk
import Derived.Deep.Cut
import Derived.Deep.CutBlock
namespace Go.Proofs.Ytmankjhopfilaaa
set_option linter.unusedVariables false
set_option linter.unusedSimpArgs false
open Go.RowKit Go.Proofs.YtmankjhopfilaaaL

structure Ad where
  v6 : Bool
  hi : Int
  lo : Int
def Ad.val (A : Ad) : Value := .agg #[.bool A.v6, .int .u64 A.hi, .int .u64 A.lo]
structure Ad.ok (A : Ad) : Prop where
  h0 : 0 ≤ A.hi
  h1 : A.hi < 18446744073709551616
  l0 : 0 ≤ A.lo
  l1 : A.lo < 18446744073709551616
def Ad.len (A : Ad) : Nat := if A.v6 then 16 else 4
def Ad.bytes (A : Ad) : List Int := if A.v6 then beB A.hi 8 ++ beB A.lo 8 else beB (A.hi / 4294967296) 4

set_option maxHeartbeats 8000000 in
set_option maxRecDepth 100000 in
theorem addr_any (A : Ad) (w : World) (hA : A.ok) :
    Calls Try.prog 27 #[A.val] w fun e w' => ∃ a c, e = .returned (.slice a A.len c) ∧ w'.ownsRow w.heap.size 5 1 (.slice a A.len c) A.len (A.bytes.map (Value.int .u8)) ∧ w.grownBy w' none := by
  obtain ⟨v6, hi, lo⟩ := A
  obtain ⟨h0, h1, l0, l1⟩ := hA
  have HK := Lib.hid (own_start w)
  cases v6
  · show Calls Try.prog _ #[.agg #[.bool false, .int .u64 hi, .int .u64 lo]] w fun e w' => ∃ a c, e = .returned (.slice a 4 c) ∧ w'.ownsRow w.heap.size 5 1 (.slice a 4 c) 4 ((beB (hi / 4294967296) 4).map (Value.int .u8)) ∧ w.grownBy w' none
    go_enter Try.func27, Try.ntmps27
    go_wp2_with fail
    have hk := own_alloc HK.out (Obj.cells #[Value.bool false, Value.int IntKind.u64 hi, Value.int IntKind.u64 lo] 26 (0, 0))
    have q4 := number_any (hi / 4294967296) 4 (w.alloc (Obj.cells #[Value.bool false, Value.int IntKind.u64 hi, Value.int IntKind.u64 lo] 26 (0, 0))) (by omega) (by omega) (by decide)
    refine q4.mono ?_
    rintro e w1 ⟨a, c, rfl, ho, hg⟩
    have hk := own_back hk hg ho
    clear ho hg q4
    clear HK
    have HK := Lib.hid hk
    clear hk
    go_wp2_with fail
    exact bodyPost_ret (results_tmp rfl _ _ _) rfl ⟨_, _, rfl, HK.out.get (.here _), HK.out.grown⟩
  · show Calls Try.prog _ #[.agg #[.bool true, .int .u64 hi, .int .u64 lo]] w fun e w' => ∃ a c, e = .returned (.slice a 16 c) ∧ w'.ownsRow w.heap.size 5 1 (.slice a 16 c) 16 ((beB hi 8 ++ beB lo 8).map (Value.int .u8)) ∧ w.grownBy w' none
    go_enter Try.func27, Try.ntmps27
    go_upto_region 2 with fail
    have hk := own_alloc HK.out (Obj.cells #[Value.bool true, Value.int IntKind.u64 hi, Value.int IntKind.u64 lo] 26 (0, 0))
    obtain ⟨p, hp⟩ : ∃ p, p = w.heap.size := ⟨_, rfl⟩
    rw [← hp] at hk ⊢
    clear hp
    clear HK
    have HK := Lib.hid hk
    clear hk
    have h0' : 0 ≤ hi := h0
    have h1' : hi < 18446744073709551616 := h1
    have l0' : 0 ≤ lo := l0
    have l1' : lo < 18446744073709551616 := l1
    clear h0 h1 l0 l1
    refine wp_region_sep [] [.blk p (Obj.cells #[Value.bool true, Value.int IntKind.u64 hi, Value.int IntKind.u64 lo] 26 (0, 0))] [(6, [], [2, 5])] [6] 8 (by kernel_rfl) (by kernel_rfl) (w0 := w) HK.out ?_
    (try simp only [Act.put, Act.eval, List.setIfInBounds_toArray, List.set_cons_zero, List.set_cons_succ, Array.getD_eq_getD_getElem?, List.getElem?_toArray, List.getElem?_cons_succ, List.getElem?_cons_zero, Option.getD_some, Nat.reduceAdd, List.nil_append, List.cons_append, En.get])
    (repeat (first | (refine fs_skip rfl (fun f => rfl) ?_; (try simp only [Act.put, Act.eval, List.setIfInBounds_toArray, List.set_cons_zero, List.set_cons_succ, Array.getD_eq_getD_getElem?, List.getElem?_toArray, List.getElem?_cons_succ, List.getElem?_cons_zero, Option.getD_some, Nat.reduceAdd, List.nil_append, List.cons_append, En.get])) | (refine fs_move _ rfl rfl (fun f => rfl) rfl ?_ ?_; ((first | exact fun _ _ _ => rfl | exact fun f f' hcg => hcg _ (by kernel_rfl) | (intro f f' hcg; rw [hcg]; kernel_rfl) | (intro f f' hcg; rw [hcg, hcg]; (kernel_rfl; kernel_rfl)) | exact trivial)); (try simp only [Act.put, Act.eval, List.setIfInBounds_toArray, List.set_cons_zero, List.set_cons_succ, Array.getD_eq_getD_getElem?, List.getElem?_toArray, List.getElem?_cons_succ, List.getElem?_cons_zero, Option.getD_some, Nat.reduceAdd, List.nil_append, List.cons_append, En.get])) | (refine fs_assign _ rfl rfl (fun f => rfl) rfl ?_ ?_; ((first | exact fun _ _ _ => rfl | exact fun f f' hcg => hcg _ (by kernel_rfl) | (intro f f' hcg; rw [hcg]; kernel_rfl) | (intro f f' hcg; rw [hcg, hcg]; (kernel_rfl; kernel_rfl)) | exact trivial)); (try simp only [Act.put, Act.eval, List.setIfInBounds_toArray, List.set_cons_zero, List.set_cons_succ, Array.getD_eq_getD_getElem?, List.getElem?_toArray, List.getElem?_cons_succ, List.getElem?_cons_zero, Option.getD_some, Nat.reduceAdd, List.nil_append, List.cons_append, En.get])) | (fail) | (refine fs_pure rfl (fun f => rfl) rfl ?_ ?_ ?_ ?_; (rotate_left; (intro f w1; (skip); go_simp; (first | done | with_reducible rfl)); ((first | exact fun _ _ _ => rfl | exact fun f f' hcg => hcg _ (by kernel_rfl) | (intro f f' hcg; rw [hcg]; kernel_rfl) | (intro f f' hcg; rw [hcg, hcg]; (kernel_rfl; kernel_rfl)) | exact trivial)); (try simp only [Act.put, Act.eval, List.setIfInBounds_toArray, List.set_cons_zero, List.set_cons_succ, Array.getD_eq_getD_getElem?, List.getElem?_toArray, List.getElem?_cons_succ, List.getElem?_cons_zero, Option.getD_some, Nat.reduceAdd, List.nil_append, List.cons_append, En.get])))))
    refine fs_read rfl (fun f => rfl) rfl (fun _ => .int .u64 hi) ?_ (fun _ _ _ => rfl) ?_
    · intro f lof w1 Lf HF HK1
      clear HF
      (try simp only [itms, itm, usesOf, readsOf, takesOf, List.find?, Nat.reduceBEq, List.flatMap_cons, List.flatMap_nil, Nat.reduceLT, if_true, if_false, Nat.reduceSub, List.getD_cons_zero, List.getD_cons_succ, List.append_nil, List.cons_append, List.nil_append, List.append_nil] at HK1)
      have hg := HK1.at (.here _)
      clear HK1
      have hc : ∀ (b : Nat) (cs : Array Value) (T : TypeId) (fr : Nat × Nat) (i : Nat), w1.heap[b]? = some (.cells cs T fr) → w1.cell? ⟨b, i, none⟩ = cs[i]? := fun b cs T fr i h => by simp [World.cell?, h]
      have hc1 := hc _ _ _ _ 1 hg
      clear hc hg
      simp only [List.getElem?_toArray, List.getElem?_cons_succ, List.getElem?_cons_zero] at hc1
      go_simp
    (try simp only [Act.put, Act.eval, List.setIfInBounds_toArray, List.set_cons_zero, List.set_cons_succ, Array.getD_eq_getD_getElem?, List.getElem?_toArray, List.getElem?_cons_succ, List.getElem?_cons_zero, Option.getD_some, Nat.reduceAdd, List.nil_append, List.cons_append, En.get])
    refine fs_call rfl (fun f => rfl) 25 _ _ rfl (fun args w => by simp [callFunc, Try.func25]; rfl) (.res (fun _ v it => ∃ a c, v = .slice a 8 c ∧ it = [.sl 5 .u8 a 8 c (beB hi 8)])) ?_ (fun _ _ _ => rfl) ?_
    · intro f lof w1 Lf HF HK1
      (try simp only [itms, itm, usesOf, readsOf, takesOf, List.find?, Nat.reduceBEq, List.flatMap_cons, List.flatMap_nil, Nat.reduceLT, if_true, if_false, Nat.reduceSub, List.getD_cons_zero, List.getD_cons_succ, List.append_nil, List.cons_append, List.nil_append, List.append_nil] at HK1)
      simp only [List.map_toArray, List.map_cons, List.map_nil, Act.eval, Array.getD_eq_getD_getElem?, List.getElem?_toArray, List.getElem?_cons_succ, List.getElem?_cons_zero, Option.getD_some, List.append_nil]
      clear HF
      have q4 := number_any hi 8 w1 (by assumption) (by assumption) (by decide)
      refine q4.mono ?_
      rintro e w2 ⟨a, c, rfl, ho, hg⟩
      exact ⟨_, _, rfl, ⟨a, c, rfl, rfl⟩, own_back HK1 hg ho⟩
    (try simp only [Act.put, Act.eval, List.setIfInBounds_toArray, List.set_cons_zero, List.set_cons_succ, Array.getD_eq_getD_getElem?, List.getElem?_toArray, List.getElem?_cons_succ, List.getElem?_cons_zero, Option.getD_some, Nat.reduceAdd, List.nil_append, List.cons_append, En.get])
    (repeat (first | (refine fs_skip rfl (fun f => rfl) ?_; (try simp only [Act.put, Act.eval, List.setIfInBounds_toArray, List.set_cons_zero, List.set_cons_succ, Array.getD_eq_getD_getElem?, List.getElem?_toArray, List.getElem?_cons_succ, List.getElem?_cons_zero, Option.getD_some, Nat.reduceAdd, List.nil_append, List.cons_append, En.get])) | (refine fs_move _ rfl rfl (fun f => rfl) rfl ?_ ?_; ((first | exact fun _ _ _ => rfl | exact fun f f' hcg => hcg _ (by kernel_rfl) | (intro f f' hcg; rw [hcg]; kernel_rfl) | (intro f f' hcg; rw [hcg, hcg]; (kernel_rfl; kernel_rfl)) | exact trivial)); (try simp only [Act.put, Act.eval, List.setIfInBounds_toArray, List.set_cons_zero, List.set_cons_succ, Array.getD_eq_getD_getElem?, List.getElem?_toArray, List.getElem?_cons_succ, List.getElem?_cons_zero, Option.getD_some, Nat.reduceAdd, List.nil_append, List.cons_append, En.get])) | (refine fs_assign _ rfl rfl (fun f => rfl) rfl ?_ ?_; ((first | exact fun _ _ _ => rfl | exact fun f f' hcg => hcg _ (by kernel_rfl) | (intro f f' hcg; rw [hcg]; kernel_rfl) | (intro f f' hcg; rw [hcg, hcg]; (kernel_rfl; kernel_rfl)) | exact trivial)); (try simp only [Act.put, Act.eval, List.setIfInBounds_toArray, List.set_cons_zero, List.set_cons_succ, Array.getD_eq_getD_getElem?, List.getElem?_toArray, List.getElem?_cons_succ, List.getElem?_cons_zero, Option.getD_some, Nat.reduceAdd, List.nil_append, List.cons_append, En.get])) | (fail) | (refine fs_pure rfl (fun f => rfl) rfl ?_ ?_ ?_ ?_; (rotate_left; (intro f w1; (skip); go_simp; (first | done | with_reducible rfl)); ((first | exact fun _ _ _ => rfl | exact fun f f' hcg => hcg _ (by kernel_rfl) | (intro f f' hcg; rw [hcg]; kernel_rfl) | (intro f f' hcg; rw [hcg, hcg]; (kernel_rfl; kernel_rfl)) | exact trivial)); (try simp only [Act.put, Act.eval, List.setIfInBounds_toArray, List.set_cons_zero, List.set_cons_succ, Array.getD_eq_getD_getElem?, List.getElem?_toArray, List.getElem?_cons_succ, List.getElem?_cons_zero, Option.getD_some, Nat.reduceAdd, List.nil_append, List.cons_append, En.get])))))
    refine fs_read rfl (fun f => rfl) rfl (fun _ => .int .u64 lo) ?_ (fun _ _ _ => rfl) ?_
    · intro f lof w1 Lf HF HK1
      clear HF
      (try simp only [itms, itm, usesOf, readsOf, takesOf, List.find?, Nat.reduceBEq, List.flatMap_cons, List.flatMap_nil, Nat.reduceLT, if_true, if_false, Nat.reduceSub, List.getD_cons_zero, List.getD_cons_succ, List.append_nil, List.cons_append, List.nil_append, List.append_nil] at HK1)
      have hg := HK1.at (.here _)
      clear HK1
      have hc : ∀ (b : Nat) (cs : Array Value) (T : TypeId) (fr : Nat × Nat) (i : Nat), w1.heap[b]? = some (.cells cs T fr) → w1.cell? ⟨b, i, none⟩ = cs[i]? := fun b cs T fr i h => by simp [World.cell?, h]
      have hc1 := hc _ _ _ _ 2 hg
      clear hc hg
      simp only [List.getElem?_toArray, List.getElem?_cons_succ, List.getElem?_cons_zero] at hc1
      go_simp
    (try simp only [Act.put, Act.eval, List.setIfInBounds_toArray, List.set_cons_zero, List.set_cons_succ, Array.getD_eq_getD_getElem?, List.getElem?_toArray, List.getElem?_cons_succ, List.getElem?_cons_zero, Option.getD_some, Nat.reduceAdd, List.nil_append, List.cons_append, En.get])
    refine fs_call rfl (fun f => rfl) 25 _ _ rfl (fun args w => by simp [callFunc, Try.func25]; rfl) (.res (fun _ v it => ∃ a c, v = .slice a 8 c ∧ it = [.sl 5 .u8 a 8 c (beB lo 8)])) ?_ (fun _ _ _ => rfl) ?_
    · intro f lof w1 Lf HF HK1
      (try simp only [itms, itm, usesOf, readsOf, takesOf, List.find?, Nat.reduceBEq, List.flatMap_cons, List.flatMap_nil, Nat.reduceLT, if_true, if_false, Nat.reduceSub, List.getD_cons_zero, List.getD_cons_succ, List.append_nil, List.cons_append, List.nil_append, List.append_nil] at HK1)
      simp only [List.map_toArray, List.map_cons, List.map_nil, Act.eval, Array.getD_eq_getD_getElem?, List.getElem?_toArray, List.getElem?_cons_succ, List.getElem?_cons_zero, Option.getD_some, List.append_nil]
      clear HF
      have q4 := number_any lo 8 w1 (by assumption) (by assumption) (by decide)
      refine q4.mono ?_
      rintro e w2 ⟨a, c, rfl, ho, hg⟩
      exact ⟨_, _, rfl, ⟨a, c, rfl, rfl⟩, own_back HK1 hg ho⟩
    (try simp only [Act.put, Act.eval, List.setIfInBounds_toArray, List.set_cons_zero, List.set_cons_succ, Array.getD_eq_getD_getElem?, List.getElem?_toArray, List.getElem?_cons_succ, List.getElem?_cons_zero, Option.getD_some, Nat.reduceAdd, List.nil_append, List.cons_append, En.get])
    refine fs_list rfl (fun f => rfl) (.res (fun _ v it => ∃ a c, v = .slice a 16 c ∧ it = [.sl 5 .u8 a 16 c (beB hi 8 ++ beB lo 8)])) (fun f => ⟨_, rfl, Nat.le_of_ble_eq_true rfl⟩) ?_ (fun _ _ _ => rfl) ?_
    · intro f lof w1 Lf HF HK1 Q' hQ
      obtain ⟨a1, c1, hv1, hl1⟩ := HF 2 (by kernel_rfl)
      obtain ⟨a2, c2, hv2, hl2⟩ := HF 5 (by kernel_rfl)
      (try simp only [itms, itm, usesOf, readsOf, takesOf, List.find?, Nat.reduceBEq, List.flatMap_cons, List.flatMap_nil, Nat.reduceLT, if_true, if_false, Nat.reduceSub, List.getD_cons_zero, List.getD_cons_succ, List.append_nil, List.cons_append, List.nil_append, hl1, hl2] at HK1)
      clear HF
      have hs := Bs.src (own_bs HK1 (.next _ (.here _)) (ok_beB lo 8) (by decide))
      refine wpList_app_own rfl HK1 _ _ 27 rfl 5 (.int .u8 0) 1 Try.underlying27 (by kernel_rfl) rfl .u8 _ _ _ _ hv1 (.here _) _ 8 (beB lo 8) hv2 (length_beB _ _) hs (by unfold maxLen; decide) (by decide) ?_
      intro a' c' w' hk
      exact hQ _ _ ⟨_, ⟨a', c', rfl, rfl⟩, hk.sub (List.Sublist.cons_cons _ (List.sublist_cons_self _ _))⟩
    (try simp only [Act.put, Act.eval, List.setIfInBounds_toArray, List.set_cons_zero, List.set_cons_succ, Array.getD_eq_getD_getElem?, List.getElem?_toArray, List.getElem?_cons_succ, List.getElem?_cons_zero, Option.getD_some, Nat.reduceAdd, List.nil_append, List.cons_append, En.get])
    (repeat (first | (refine fs_skip rfl (fun f => rfl) ?_; (try simp only [Act.put, Act.eval, List.setIfInBounds_toArray, List.set_cons_zero, List.set_cons_succ, Array.getD_eq_getD_getElem?, List.getElem?_toArray, List.getElem?_cons_succ, List.getElem?_cons_zero, Option.getD_some, Nat.reduceAdd, List.nil_append, List.cons_append, En.get])) | (refine fs_move _ rfl rfl (fun f => rfl) rfl ?_ ?_; ((first | exact fun _ _ _ => rfl | exact fun f f' hcg => hcg _ (by kernel_rfl) | (intro f f' hcg; rw [hcg]; kernel_rfl) | (intro f f' hcg; rw [hcg, hcg]; (kernel_rfl; kernel_rfl)) | exact trivial)); (try simp only [Act.put, Act.eval, List.setIfInBounds_toArray, List.set_cons_zero, List.set_cons_succ, Array.getD_eq_getD_getElem?, List.getElem?_toArray, List.getElem?_cons_succ, List.getElem?_cons_zero, Option.getD_some, Nat.reduceAdd, List.nil_append, List.cons_append, En.get])) | (refine fs_assign _ rfl rfl (fun f => rfl) rfl ?_ ?_; ((first | exact fun _ _ _ => rfl | exact fun f f' hcg => hcg _ (by kernel_rfl) | (intro f f' hcg; rw [hcg]; kernel_rfl) | (intro f f' hcg; rw [hcg, hcg]; (kernel_rfl; kernel_rfl)) | exact trivial)); (try simp only [Act.put, Act.eval, List.setIfInBounds_toArray, List.set_cons_zero, List.set_cons_succ, Array.getD_eq_getD_getElem?, List.getElem?_toArray, List.getElem?_cons_succ, List.getElem?_cons_zero, Option.getD_some, Nat.reduceAdd, List.nil_append, List.cons_append, En.get])) | (fail) | (refine fs_pure rfl (fun f => rfl) rfl ?_ ?_ ?_ ?_; (rotate_left; (intro f w1; (skip); go_simp; (first | done | with_reducible rfl)); ((first | exact fun _ _ _ => rfl | exact fun f f' hcg => hcg _ (by kernel_rfl) | (intro f f' hcg; rw [hcg]; kernel_rfl) | (intro f f' hcg; rw [hcg, hcg]; (kernel_rfl; kernel_rfl)) | exact trivial)); (try simp only [Act.put, Act.eval, List.setIfInBounds_toArray, List.set_cons_zero, List.set_cons_succ, Array.getD_eq_getD_getElem?, List.getElem?_toArray, List.getElem?_cons_succ, List.getElem?_cons_zero, Option.getD_some, Nat.reduceAdd, List.nil_append, List.cons_append, En.get])))))
    refine fs_end ?_
    intro f lof wn HF hk
    obtain ⟨a, c, hv, hl⟩ := HF 6 (by decide)
    (try simp only [itms, itm, usesOf, readsOf, takesOf, List.find?, Nat.reduceBEq, List.flatMap_cons, List.flatMap_nil, Nat.reduceLT, if_true, if_false, Nat.reduceSub, List.getD_cons_zero, List.getD_cons_succ, List.append_nil, List.cons_append, List.nil_append, hl] at hk)
    rw [hv]
    generalize f 2 = x2
    generalize f 5 = x5
    clear HF hv hl f lof
    clear HK
    have HK := Lib.hid hk
    clear hk
    go_wp2_with fail
    exact bodyPost_ret (results_tmp rfl _ _ _) rfl ⟨_, _, rfl, HK.out.get (.here _), HK.out.grown⟩
end Go.Proofs.Ytmankjhopfilaaa
