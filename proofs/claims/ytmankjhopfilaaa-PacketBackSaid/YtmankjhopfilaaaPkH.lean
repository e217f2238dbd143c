/- Put of version 6, the program's. -/
import Derived.Test.YtmankjhopfilaaaPkG
namespace Go.Proofs.Ytmankjhopfilaaa
set_option linter.unusedVariables false
set_option linter.unusedSimpArgs false
open Go.RowKit Go.Proofs.YtmankjhopfilaaaL

def head6 (p : Pk) (n : Nat) : List Int := beB (1610612736 + p.cls * 1048576 + p.flow) 4 ++ beB n 2 ++ [p.proto, p.ttl]
def put6L (p : Pk) (xs : List Int) : List Int := head6 p xs.length ++ (p.src.bytes ++ (p.dst.bytes ++ xs))
theorem four_ok {a b c d : Bs} {w : World} (ha : a.ok w) (hb : b.ok w) (hc : c.ok w) (hd : d.ok w) : ∀ x ∈ [a, b, c, d], x.ok w := fun x hx => by
  rcases List.mem_cons.1 hx with rfl | hx
  · exact ha
  rcases List.mem_cons.1 hx with rfl | hx
  · exact hb
  rcases List.mem_cons.1 hx with rfl | hx
  · exact hc
  rw [List.mem_singleton.1 hx]; exact hd
theorem word6 (cls flow : Int) (h0 : 0 ≤ cls) (h1 : cls < 256) (f0 : 0 ≤ flow) (f1 : flow ≤ 1048575) : bits .or .u64 (bits .or .u64 1610612736 (cls * 1048576)) flow = 1610612736 + cls * 1048576 + flow := by
  have e1 := u64_or_add (cls * 1048576) 6 28 (by omega) (by rw [show (2 : Int) ^ 28 = 268435456 from rfl]; omega) (by omega) (by decide) (by decide)
  have e2 := u64_or_add flow (1536 + cls) 20 f0 (by rw [show (2 : Int) ^ 20 = 1048576 from rfl]; omega) (by omega) (by omega) (by rw [show (2 : Int) ^ 20 = 1048576 from rfl]; omega)
  rw [show (2 : Int) ^ 28 = 268435456 from rfl, show (6 : Int) * 268435456 = 1610612736 from rfl] at e1
  rw [show (2 : Int) ^ 20 = 1048576 from rfl] at e2
  rw [show bits .or .u64 1610612736 (cls * 1048576) = cls * 1048576 + 1610612736 from ?_]
  · rw [show cls * 1048576 + 1610612736 = (1536 + cls) * 1048576 by omega, u64_or _ _ (by omega) (by omega) f0 (by omega), Nat.or_comm, ← u64_or _ _ f0 (by omega) (by omega) (by omega), e2]
    omega
  · rw [u64_or _ _ (by decide) (by decide) (by omega) (by omega), Nat.or_comm, ← u64_or _ _ (by omega) (by omega) (by decide) (by decide), e1]

set_option maxHeartbeats 8000000 in
set_option maxRecDepth 100000 in
theorem put6_any (cls flow id frag ttl proto sh sl dh dl : Int) (ad : Option Addr) (n cp : Nat) (xs : List Int) (w : World) (hp : (⟨true, cls, flow, id, frag, ttl, proto, ⟨true, sh, sl⟩, ⟨true, dh, dl⟩⟩ : Pk).ok) (hr : (⟨true, cls, flow, id, frag, ttl, proto, ⟨true, sh, sl⟩, ⟨true, dh, dl⟩⟩ : Pk).right = true) (hb : (⟨ad, n, cp, xs⟩ : Bs).ok w) (hn : 40 + n ≤ 1400) :
    Calls Try.prog 12 #[.agg #[Value.bool true, .int .u8 cls, .int .u32 flow, .int .u16 id, .int .u16 frag, .int .u8 ttl, .int .u8 proto, .bool true, .int .u64 sh, .int .u64 sl, .bool true, .int .u64 dh, .int .u64 dl, .slice ad n cp]] w fun e w' => ∃ a c, e = .returned (.tuple #[.slice a (40 + n) c, .int .i64 0]) ∧ w'.ownsRow w.heap.size 5 1 (.slice a (40 + n) c) (40 + n) ((put6L ⟨true, cls, flow, id, frag, ttl, proto, ⟨true, sh, sl⟩, ⟨true, dh, dl⟩⟩ xs).map (Value.int .u8)) ∧ w.grownBy w' none := by
  have HB := Lib.hid (fun (w' : World) (g : w.grownBy w' none) => Bs.ok_keep hb g)
  have HP := Lib.hid hp
  have q4 := right_any ⟨true, cls, flow, id, frag, ttl, proto, ⟨true, sh, sl⟩, ⟨true, dh, dl⟩⟩ ad n cp (w.alloc (Obj.cells #[Value.bool true, .int .u8 cls, .int .u32 flow, .int .u16 id, .int .u16 frag, .int .u8 ttl, .int .u8 proto, .bool true, .int .u64 sh, .int .u64 sl, .bool true, .int .u64 dh, .int .u64 dl, .slice ad n cp] 29 (0, 0))) hp
  rw [hr] at q4
  have HRT := Lib.hid q4
  obtain ⟨y, hy⟩ : ∃ y, y = put6L ⟨true, cls, flow, id, frag, ttl, proto, ⟨true, sh, sl⟩, ⟨true, dh, dl⟩⟩ xs := ⟨_, rfl⟩
  have HY := Lib.hid hy
  rw [← hy]
  have hcls : 0 ≤ cls ∧ cls < 256 := hp.cls
  have hflow : 0 ≤ flow := hp.flow.1
  have hflow1 : flow ≤ 1048575 := by
    have h := hr
    simp [Pk.right] at h
    exact h.2.1.1
  obtain ⟨hc0, hc1⟩ := hcls
  have hor := word6 cls flow hc0 hc1 hflow hflow1
  clear hb hp hr q4 hy
  have hn1 : (n : Int) ≤ 1360 := by omega
  have HK := Lib.hid (own_start w)
  go_enter Try.func12, Try.ntmps12
  go_wp2_with fail
  have hk := own_alloc HK.out (Obj.cells #[Value.bool true, .int .u8 cls, .int .u32 flow, .int .u16 id, .int .u16 frag, .int .u8 ttl, .int .u8 proto, .bool true, .int .u64 sh, .int .u64 sl, .bool true, .int .u64 dh, .int .u64 dl, .slice ad n cp] 29 (0, 0))
  obtain ⟨p, hp⟩ : ∃ p, p = w.heap.size := ⟨_, rfl⟩
  rw [← hp] at hk ⊢
  clear hp
  clear HK
  have HK := Lib.hid hk
  clear hk
  refine HRT.out.mono ?_
  rintro e w1 ⟨rfl, hg⟩
  have hk := HK.out.grow hg
  clear hg HRT
  clear HK
  have HK := Lib.hid hk
  clear hk
  have hb := HK.out.at (.here _)
  have c0 : w1.cell? ⟨p, 0, none⟩ = some (.bool true) := cell_blk hb 0
  have c1 : w1.cell? ⟨p, 1, none⟩ = some (.int .u8 cls) := cell_blk hb 1
  have c2 : w1.cell? ⟨p, 2, none⟩ = some (.int .u32 flow) := cell_blk hb 2
  have c13 : w1.cell? ⟨p, 13, none⟩ = some (.slice ad n cp) := cell_blk hb 13
  clear hb
  go_wp2_with fail
  clear c0 c1 c2 c13
  have q4 := number_any (1610612736 + cls * 1048576 + flow) 4 w1 (by omega) (by omega) (by decide)
  refine q4.mono ?_
  rintro e w2 ⟨a4, c4, rfl, ho, hg⟩
  have hk := own_back HK.out hg ho
  clear q4 ho hg
  clear HK
  have HK := Lib.hid hk
  clear hk
  go_upto_region 10 with fail
  obtain ⟨W, hW⟩ : ∃ W, W = beB (1610612736 + cls * 1048576 + flow) 4 := ⟨_, rfl⟩
  have HW := Lib.hid hW
  have hk := HK.out
  rw [← hW] at hk
  clear hW hor
  clear HK
  have HK := Lib.hid hk
  clear hk
  have HPT := Lib.hid (show okB 256 [proto, ttl] from fun x hx => by
    rcases List.mem_cons.1 hx with rfl | hx
    · exact HP.out.proto
    · rw [List.mem_singleton.1 hx]; exact HP.out.ttl)
  have HWN := Lib.hid (show IntKind.u64.wrap (n : Int) = n by rw [IntKind.wrap_u64]; omega)
  refine wp_region_sep [[.sl 5 .u8 a4 4 c4 W]] [.blk p (Obj.cells #[Value.bool true, .int .u8 cls, .int .u32 flow, .int .u16 id, .int .u16 frag, .int .u8 ttl, .int .u8 proto, .bool true, .int .u64 sh, .int .u64 sl, .bool true, .int .u64 dh, .int .u64 dl, .slice ad n cp] 29 (0, 0))] [(6, [], [5, 14]), (12, [], [6, 11])] [12] 14 (by kernel_rfl) (by kernel_rfl) (w0 := w) HK.out ?_
  (try simp only [Act.put, Act.eval, List.setIfInBounds_toArray, List.set_cons_zero, List.set_cons_succ, Array.getD_eq_getD_getElem?, List.getElem?_toArray, List.getElem?_cons_succ, List.getElem?_cons_zero, Option.getD_some, Nat.reduceAdd, List.nil_append, List.cons_append, En.get])
  (repeat (first | (refine fs_skip rfl (fun f => rfl) ?_; (try simp only [Act.put, Act.eval, List.setIfInBounds_toArray, List.set_cons_zero, List.set_cons_succ, Array.getD_eq_getD_getElem?, List.getElem?_toArray, List.getElem?_cons_succ, List.getElem?_cons_zero, Option.getD_some, Nat.reduceAdd, List.nil_append, List.cons_append, En.get])) | (refine fs_move _ rfl rfl (fun f => rfl) rfl ?_ ?_; ((first | exact fun _ _ _ => rfl | exact fun f f' hcg => hcg _ (by kernel_rfl) | (intro f f' hcg; rw [hcg]; kernel_rfl) | (intro f f' hcg; rw [hcg, hcg]; (kernel_rfl; kernel_rfl)) | exact trivial)); (try simp only [Act.put, Act.eval, List.setIfInBounds_toArray, List.set_cons_zero, List.set_cons_succ, Array.getD_eq_getD_getElem?, List.getElem?_toArray, List.getElem?_cons_succ, List.getElem?_cons_zero, Option.getD_some, Nat.reduceAdd, List.nil_append, List.cons_append, En.get])) | (refine fs_assign _ rfl rfl (fun f => rfl) rfl ?_ ?_; ((first | exact fun _ _ _ => rfl | exact fun f f' hcg => hcg _ (by kernel_rfl) | (intro f f' hcg; rw [hcg]; kernel_rfl) | (intro f f' hcg; rw [hcg, hcg]; (kernel_rfl; kernel_rfl)) | exact trivial)); (try simp only [Act.put, Act.eval, List.setIfInBounds_toArray, List.set_cons_zero, List.set_cons_succ, Array.getD_eq_getD_getElem?, List.getElem?_toArray, List.getElem?_cons_succ, List.getElem?_cons_zero, Option.getD_some, Nat.reduceAdd, List.nil_append, List.cons_append, En.get])) | (fail) | (refine fs_pure rfl (fun f => rfl) rfl ?_ ?_ ?_ ?_; (rotate_left; (intro f w1; (skip); go_simp; (first | done | with_reducible rfl)); ((first | exact fun _ _ _ => rfl | exact fun f f' hcg => hcg _ (by kernel_rfl) | (intro f f' hcg; rw [hcg]; kernel_rfl) | (intro f f' hcg; rw [hcg, hcg]; (kernel_rfl; kernel_rfl)) | exact trivial)); (try simp only [Act.put, Act.eval, List.setIfInBounds_toArray, List.set_cons_zero, List.set_cons_succ, Array.getD_eq_getD_getElem?, List.getElem?_toArray, List.getElem?_cons_succ, List.getElem?_cons_zero, Option.getD_some, Nat.reduceAdd, List.nil_append, List.cons_append, En.get])))))
  refine fs_read rfl (fun f => rfl) rfl (fun _ => .slice ad n cp) ?_ (fun _ _ _ => rfl) ?_
  · intro f lof w1 Lf HF HK1
    clear HF
    (try simp only [itms, itm, usesOf, readsOf, takesOf, List.find?, Nat.reduceBEq, List.flatMap_cons, List.flatMap_nil, Nat.reduceLT, if_true, if_false, Nat.reduceSub, List.getD_cons_zero, List.getD_cons_succ, List.append_nil, List.cons_append, List.nil_append, List.append_nil] at HK1)
    have hg := HK1.at (.here _)
    clear HK1
    have hc : ∀ (b : Nat) (cs : Array Value) (T : TypeId) (fr : Nat × Nat) (i : Nat), w1.heap[b]? = some (.cells cs T fr) → w1.cell? ⟨b, i, none⟩ = cs[i]? := fun b cs T fr i h => by simp [World.cell?, h]
    have hc1 := hc _ _ _ _ 13 hg
    clear hc hg
    simp only [List.getElem?_toArray, List.getElem?_cons_succ, List.getElem?_cons_zero] at hc1
    go_simp
  (try simp only [Act.put, Act.eval, List.setIfInBounds_toArray, List.set_cons_zero, List.set_cons_succ, Array.getD_eq_getD_getElem?, List.getElem?_toArray, List.getElem?_cons_succ, List.getElem?_cons_zero, Option.getD_some, Nat.reduceAdd, List.nil_append, List.cons_append, En.get])
  (repeat (first | (refine fs_skip rfl (fun f => rfl) ?_; (try simp only [Act.put, Act.eval, List.setIfInBounds_toArray, List.set_cons_zero, List.set_cons_succ, Array.getD_eq_getD_getElem?, List.getElem?_toArray, List.getElem?_cons_succ, List.getElem?_cons_zero, Option.getD_some, Nat.reduceAdd, List.nil_append, List.cons_append, En.get])) | (refine fs_move _ rfl rfl (fun f => rfl) rfl ?_ ?_; ((first | exact fun _ _ _ => rfl | exact fun f f' hcg => hcg _ (by kernel_rfl) | (intro f f' hcg; rw [hcg]; kernel_rfl) | (intro f f' hcg; rw [hcg, hcg]; (kernel_rfl; kernel_rfl)) | exact trivial)); (try simp only [Act.put, Act.eval, List.setIfInBounds_toArray, List.set_cons_zero, List.set_cons_succ, Array.getD_eq_getD_getElem?, List.getElem?_toArray, List.getElem?_cons_succ, List.getElem?_cons_zero, Option.getD_some, Nat.reduceAdd, List.nil_append, List.cons_append, En.get])) | (refine fs_assign _ rfl rfl (fun f => rfl) rfl ?_ ?_; ((first | exact fun _ _ _ => rfl | exact fun f f' hcg => hcg _ (by kernel_rfl) | (intro f f' hcg; rw [hcg]; kernel_rfl) | (intro f f' hcg; rw [hcg, hcg]; (kernel_rfl; kernel_rfl)) | exact trivial)); (try simp only [Act.put, Act.eval, List.setIfInBounds_toArray, List.set_cons_zero, List.set_cons_succ, Array.getD_eq_getD_getElem?, List.getElem?_toArray, List.getElem?_cons_succ, List.getElem?_cons_zero, Option.getD_some, Nat.reduceAdd, List.nil_append, List.cons_append, En.get])) | (fail) | (refine fs_pure rfl (fun f => rfl) rfl ?_ ?_ ?_ ?_; (rotate_left; (intro f w1; ((have hwn := HWN.out)); go_simp; (first | done | with_reducible rfl)); ((first | exact fun _ _ _ => rfl | exact fun f f' hcg => hcg _ (by kernel_rfl) | (intro f f' hcg; rw [hcg]; kernel_rfl) | (intro f f' hcg; rw [hcg, hcg]; (kernel_rfl; kernel_rfl)) | exact trivial)); (try simp only [Act.put, Act.eval, List.setIfInBounds_toArray, List.set_cons_zero, List.set_cons_succ, Array.getD_eq_getD_getElem?, List.getElem?_toArray, List.getElem?_cons_succ, List.getElem?_cons_zero, Option.getD_some, Nat.reduceAdd, List.nil_append, List.cons_append, En.get])))))
  refine fs_call rfl (fun f => rfl) 25 _ _ rfl (fun args w => by simp [callFunc, Try.func25]; rfl) (.res (fun _ v it => ∃ a c, v = .slice a 2 c ∧ it = [.sl 5 .u8 a 2 c (beB n 2)])) ?_ (fun _ _ _ => rfl) ?_
  · intro f lof w1 Lf HF HK1
    (try simp only [itms, itm, usesOf, readsOf, takesOf, List.find?, Nat.reduceBEq, List.flatMap_cons, List.flatMap_nil, Nat.reduceLT, if_true, if_false, Nat.reduceSub, List.getD_cons_zero, List.getD_cons_succ, List.append_nil, List.cons_append, List.nil_append, List.append_nil] at HK1)
    simp only [List.map_toArray, List.map_cons, List.map_nil, Act.eval, Array.getD_eq_getD_getElem?, List.getElem?_toArray, List.getElem?_cons_succ, List.getElem?_cons_zero, Option.getD_some, List.append_nil]
    clear HF
    have q4 := number_any (n : Int) 2 w1 (by omega) (by omega) (by decide)
    refine q4.mono ?_
    rintro e w2 ⟨a, c, rfl, ho, hg⟩
    exact ⟨_, _, rfl, ⟨a, c, rfl, rfl⟩, own_back HK1 hg ho⟩
  (try simp only [Act.put, Act.eval, List.setIfInBounds_toArray, List.set_cons_zero, List.set_cons_succ, Array.getD_eq_getD_getElem?, List.getElem?_toArray, List.getElem?_cons_succ, List.getElem?_cons_zero, Option.getD_some, Nat.reduceAdd, List.nil_append, List.cons_append, En.get])
  refine fs_list rfl (fun f => rfl) (.res (fun _ v it => ∃ a c, v = .slice a 6 c ∧ it = [.sl 5 .u8 a 6 c (W ++ beB n 2)])) (fun f => ⟨_, rfl, Nat.le_of_ble_eq_true rfl⟩) ?_ (fun _ _ _ => rfl) ?_
  · intro f lof w1 Lf HF HK1 Q' hQ
    obtain ⟨a5, c5, hv5, hl5⟩ := HF 5 (by kernel_rfl)
    clear HF
    (try simp only [itms, itm, usesOf, readsOf, takesOf, List.find?, Nat.reduceBEq, List.flatMap_cons, List.flatMap_nil, Nat.reduceLT, if_true, if_false, Nat.reduceSub, List.getD_cons_zero, List.getD_cons_succ, List.append_nil, List.cons_append, List.nil_append, hl5] at HK1)
    have hs := Bs.src (own_bs HK1 (.here _) (ok_beB n 2) (by decide))
    refine wpList_app_own rfl HK1 _ _ 27 rfl 5 (.int .u8 0) 1 Try.underlying27 (by kernel_rfl) rfl .u8 _ _ _ _ rfl (.next _ (.here _)) _ 2 (beB n 2) hv5 (length_beB _ _) hs (by unfold maxLen; decide) (by decide) ?_
    intro a' c' w' hk
    exact hQ _ _ ⟨_, ⟨a', c', rfl, rfl⟩, hk.sub (List.Sublist.cons_cons _ (List.sublist_cons_self _ _))⟩
  (try simp only [Act.put, Act.eval, List.setIfInBounds_toArray, List.set_cons_zero, List.set_cons_succ, Array.getD_eq_getD_getElem?, List.getElem?_toArray, List.getElem?_cons_succ, List.getElem?_cons_zero, Option.getD_some, Nat.reduceAdd, List.nil_append, List.cons_append, En.get])
  (repeat (first | (refine fs_skip rfl (fun f => rfl) ?_; (try simp only [Act.put, Act.eval, List.setIfInBounds_toArray, List.set_cons_zero, List.set_cons_succ, Array.getD_eq_getD_getElem?, List.getElem?_toArray, List.getElem?_cons_succ, List.getElem?_cons_zero, Option.getD_some, Nat.reduceAdd, List.nil_append, List.cons_append, En.get])) | (refine fs_move _ rfl rfl (fun f => rfl) rfl ?_ ?_; ((first | exact fun _ _ _ => rfl | exact fun f f' hcg => hcg _ (by kernel_rfl) | (intro f f' hcg; rw [hcg]; kernel_rfl) | (intro f f' hcg; rw [hcg, hcg]; (kernel_rfl; kernel_rfl)) | exact trivial)); (try simp only [Act.put, Act.eval, List.setIfInBounds_toArray, List.set_cons_zero, List.set_cons_succ, Array.getD_eq_getD_getElem?, List.getElem?_toArray, List.getElem?_cons_succ, List.getElem?_cons_zero, Option.getD_some, Nat.reduceAdd, List.nil_append, List.cons_append, En.get])) | (refine fs_assign _ rfl rfl (fun f => rfl) rfl ?_ ?_; ((first | exact fun _ _ _ => rfl | exact fun f f' hcg => hcg _ (by kernel_rfl) | (intro f f' hcg; rw [hcg]; kernel_rfl) | (intro f f' hcg; rw [hcg, hcg]; (kernel_rfl; kernel_rfl)) | exact trivial)); (try simp only [Act.put, Act.eval, List.setIfInBounds_toArray, List.set_cons_zero, List.set_cons_succ, Array.getD_eq_getD_getElem?, List.getElem?_toArray, List.getElem?_cons_succ, List.getElem?_cons_zero, Option.getD_some, Nat.reduceAdd, List.nil_append, List.cons_append, En.get])) | (fail) | (refine fs_pure rfl (fun f => rfl) rfl ?_ ?_ ?_ ?_; (rotate_left; (intro f w1; (skip); go_simp; (first | done | with_reducible rfl)); ((first | exact fun _ _ _ => rfl | exact fun f f' hcg => hcg _ (by kernel_rfl) | (intro f f' hcg; rw [hcg]; kernel_rfl) | (intro f f' hcg; rw [hcg, hcg]; (kernel_rfl; kernel_rfl)) | exact trivial)); (try simp only [Act.put, Act.eval, List.setIfInBounds_toArray, List.set_cons_zero, List.set_cons_succ, Array.getD_eq_getD_getElem?, List.getElem?_toArray, List.getElem?_cons_succ, List.getElem?_cons_zero, Option.getD_some, Nat.reduceAdd, List.nil_append, List.cons_append, En.get])))))
  refine fs_read rfl (fun f => rfl) rfl (fun _ => .int .u8 proto) ?_ (fun _ _ _ => rfl) ?_
  · intro f lof w1 Lf HF HK1
    clear HF
    (try simp only [itms, itm, usesOf, readsOf, takesOf, List.find?, Nat.reduceBEq, List.flatMap_cons, List.flatMap_nil, Nat.reduceLT, if_true, if_false, Nat.reduceSub, List.getD_cons_zero, List.getD_cons_succ, List.append_nil, List.cons_append, List.nil_append, List.append_nil] at HK1)
    have hg := HK1.at (.here _)
    clear HK1
    have hc : ∀ (b : Nat) (cs : Array Value) (T : TypeId) (fr : Nat × Nat) (i : Nat), w1.heap[b]? = some (.cells cs T fr) → w1.cell? ⟨b, i, none⟩ = cs[i]? := fun b cs T fr i h => by simp [World.cell?, h]
    have hc1 := hc _ _ _ _ 6 hg
    clear hc hg
    simp only [List.getElem?_toArray, List.getElem?_cons_succ, List.getElem?_cons_zero] at hc1
    go_simp
  (try simp only [Act.put, Act.eval, List.setIfInBounds_toArray, List.set_cons_zero, List.set_cons_succ, Array.getD_eq_getD_getElem?, List.getElem?_toArray, List.getElem?_cons_succ, List.getElem?_cons_zero, Option.getD_some, Nat.reduceAdd, List.nil_append, List.cons_append, En.get])
  (repeat (first | (refine fs_skip rfl (fun f => rfl) ?_; (try simp only [Act.put, Act.eval, List.setIfInBounds_toArray, List.set_cons_zero, List.set_cons_succ, Array.getD_eq_getD_getElem?, List.getElem?_toArray, List.getElem?_cons_succ, List.getElem?_cons_zero, Option.getD_some, Nat.reduceAdd, List.nil_append, List.cons_append, En.get])) | (refine fs_move _ rfl rfl (fun f => rfl) rfl ?_ ?_; ((first | exact fun _ _ _ => rfl | exact fun f f' hcg => hcg _ (by kernel_rfl) | (intro f f' hcg; rw [hcg]; kernel_rfl) | (intro f f' hcg; rw [hcg, hcg]; (kernel_rfl; kernel_rfl)) | exact trivial)); (try simp only [Act.put, Act.eval, List.setIfInBounds_toArray, List.set_cons_zero, List.set_cons_succ, Array.getD_eq_getD_getElem?, List.getElem?_toArray, List.getElem?_cons_succ, List.getElem?_cons_zero, Option.getD_some, Nat.reduceAdd, List.nil_append, List.cons_append, En.get])) | (refine fs_assign _ rfl rfl (fun f => rfl) rfl ?_ ?_; ((first | exact fun _ _ _ => rfl | exact fun f f' hcg => hcg _ (by kernel_rfl) | (intro f f' hcg; rw [hcg]; kernel_rfl) | (intro f f' hcg; rw [hcg, hcg]; (kernel_rfl; kernel_rfl)) | exact trivial)); (try simp only [Act.put, Act.eval, List.setIfInBounds_toArray, List.set_cons_zero, List.set_cons_succ, Array.getD_eq_getD_getElem?, List.getElem?_toArray, List.getElem?_cons_succ, List.getElem?_cons_zero, Option.getD_some, Nat.reduceAdd, List.nil_append, List.cons_append, En.get])) | (fail) | (refine fs_pure rfl (fun f => rfl) rfl ?_ ?_ ?_ ?_; (rotate_left; (intro f w1; (skip); go_simp; (first | done | with_reducible rfl)); ((first | exact fun _ _ _ => rfl | exact fun f f' hcg => hcg _ (by kernel_rfl) | (intro f f' hcg; rw [hcg]; kernel_rfl) | (intro f f' hcg; rw [hcg, hcg]; (kernel_rfl; kernel_rfl)) | exact trivial)); (try simp only [Act.put, Act.eval, List.setIfInBounds_toArray, List.set_cons_zero, List.set_cons_succ, Array.getD_eq_getD_getElem?, List.getElem?_toArray, List.getElem?_cons_succ, List.getElem?_cons_zero, Option.getD_some, Nat.reduceAdd, List.nil_append, List.cons_append, En.get])))))
  refine fs_read rfl (fun f => rfl) rfl (fun _ => .int .u8 ttl) ?_ (fun _ _ _ => rfl) ?_
  · intro f lof w1 Lf HF HK1
    clear HF
    (try simp only [itms, itm, usesOf, readsOf, takesOf, List.find?, Nat.reduceBEq, List.flatMap_cons, List.flatMap_nil, Nat.reduceLT, if_true, if_false, Nat.reduceSub, List.getD_cons_zero, List.getD_cons_succ, List.append_nil, List.cons_append, List.nil_append, List.append_nil] at HK1)
    have hg := HK1.at (.here _)
    clear HK1
    have hc : ∀ (b : Nat) (cs : Array Value) (T : TypeId) (fr : Nat × Nat) (i : Nat), w1.heap[b]? = some (.cells cs T fr) → w1.cell? ⟨b, i, none⟩ = cs[i]? := fun b cs T fr i h => by simp [World.cell?, h]
    have hc1 := hc _ _ _ _ 5 hg
    clear hc hg
    simp only [List.getElem?_toArray, List.getElem?_cons_succ, List.getElem?_cons_zero] at hc1
    go_simp
  (try simp only [Act.put, Act.eval, List.setIfInBounds_toArray, List.set_cons_zero, List.set_cons_succ, Array.getD_eq_getD_getElem?, List.getElem?_toArray, List.getElem?_cons_succ, List.getElem?_cons_zero, Option.getD_some, Nat.reduceAdd, List.nil_append, List.cons_append, En.get])
  refine fs_lit rfl (fun f => rfl) rfl 2 #[.int .u8 proto, .int .u8 ttl] 5 (fun f w1 => by go_simp; first | done | exact ⟨rfl, rfl⟩ | rfl) ?_
  (try simp only [Act.put, Act.eval, List.setIfInBounds_toArray, List.set_cons_zero, List.set_cons_succ, Array.getD_eq_getD_getElem?, List.getElem?_toArray, List.getElem?_cons_succ, List.getElem?_cons_zero, Option.getD_some, Nat.reduceAdd, List.nil_append, List.cons_append, En.get])
  refine fs_list rfl (fun f => rfl) (.res (fun _ v it => ∃ a c, v = .slice a 8 c ∧ it = [.sl 5 .u8 a 8 c (W ++ beB n 2 ++ [proto, ttl])])) (fun f => ⟨_, rfl, Nat.le_of_ble_eq_true rfl⟩) ?_ (fun _ _ _ => rfl) ?_
  · intro f lof w1 Lf HF HK1 Q' hQ
    obtain ⟨a6, c6, hv6, hl6⟩ := HF 6 (by kernel_rfl)
    obtain ⟨q, hv11, hl11⟩ := HF 11 (by kernel_rfl)
    clear HF
    (try simp only [itms, itm, usesOf, readsOf, takesOf, List.find?, Nat.reduceBEq, List.flatMap_cons, List.flatMap_nil, Nat.reduceLT, if_true, if_false, Nat.reduceSub, List.getD_cons_zero, List.getD_cons_succ, List.append_nil, List.cons_append, List.nil_append, hl6, hl11] at HK1)
    have hs := Bs.src (own_lit HK1 (xs := [proto, ttl]) (n := 2) (.next _ (.here _)) rfl HPT.out (by decide))
    refine wpList_app_own rfl HK1 _ _ 27 rfl 5 (.int .u8 0) 1 Try.underlying27 (by kernel_rfl) rfl .u8 _ _ _ _ hv6 (.here _) _ 2 [proto, ttl] hv11 rfl hs (by unfold maxLen; decide) (by decide) ?_
    intro a' c' w' hk
    exact hQ _ _ ⟨_, ⟨a', c', rfl, rfl⟩, hk.sub (List.Sublist.cons_cons _ (List.sublist_cons_self _ _))⟩
  (try simp only [Act.put, Act.eval, List.setIfInBounds_toArray, List.set_cons_zero, List.set_cons_succ, Array.getD_eq_getD_getElem?, List.getElem?_toArray, List.getElem?_cons_succ, List.getElem?_cons_zero, Option.getD_some, Nat.reduceAdd, List.nil_append, List.cons_append, En.get])
  (repeat (first | (refine fs_skip rfl (fun f => rfl) ?_; (try simp only [Act.put, Act.eval, List.setIfInBounds_toArray, List.set_cons_zero, List.set_cons_succ, Array.getD_eq_getD_getElem?, List.getElem?_toArray, List.getElem?_cons_succ, List.getElem?_cons_zero, Option.getD_some, Nat.reduceAdd, List.nil_append, List.cons_append, En.get])) | (refine fs_move _ rfl rfl (fun f => rfl) rfl ?_ ?_; ((first | exact fun _ _ _ => rfl | exact fun f f' hcg => hcg _ (by kernel_rfl) | (intro f f' hcg; rw [hcg]; kernel_rfl) | (intro f f' hcg; rw [hcg, hcg]; (kernel_rfl; kernel_rfl)) | exact trivial)); (try simp only [Act.put, Act.eval, List.setIfInBounds_toArray, List.set_cons_zero, List.set_cons_succ, Array.getD_eq_getD_getElem?, List.getElem?_toArray, List.getElem?_cons_succ, List.getElem?_cons_zero, Option.getD_some, Nat.reduceAdd, List.nil_append, List.cons_append, En.get])) | (refine fs_assign _ rfl rfl (fun f => rfl) rfl ?_ ?_; ((first | exact fun _ _ _ => rfl | exact fun f f' hcg => hcg _ (by kernel_rfl) | (intro f f' hcg; rw [hcg]; kernel_rfl) | (intro f f' hcg; rw [hcg, hcg]; (kernel_rfl; kernel_rfl)) | exact trivial)); (try simp only [Act.put, Act.eval, List.setIfInBounds_toArray, List.set_cons_zero, List.set_cons_succ, Array.getD_eq_getD_getElem?, List.getElem?_toArray, List.getElem?_cons_succ, List.getElem?_cons_zero, Option.getD_some, Nat.reduceAdd, List.nil_append, List.cons_append, En.get])) | (fail) | (refine fs_pure rfl (fun f => rfl) rfl ?_ ?_ ?_ ?_; (rotate_left; (intro f w1; (skip); go_simp; (first | done | with_reducible rfl)); ((first | exact fun _ _ _ => rfl | exact fun f f' hcg => hcg _ (by kernel_rfl) | (intro f f' hcg; rw [hcg]; kernel_rfl) | (intro f f' hcg; rw [hcg, hcg]; (kernel_rfl; kernel_rfl)) | exact trivial)); (try simp only [Act.put, Act.eval, List.setIfInBounds_toArray, List.set_cons_zero, List.set_cons_succ, Array.getD_eq_getD_getElem?, List.getElem?_toArray, List.getElem?_cons_succ, List.getElem?_cons_zero, Option.getD_some, Nat.reduceAdd, List.nil_append, List.cons_append, En.get])))))
  refine fs_end ?_
  intro f lof wn HF hk
  obtain ⟨a8, c8, hv, hl⟩ := HF 12 (by decide)
  (try simp only [itms, itm, usesOf, readsOf, takesOf, List.find?, Nat.reduceBEq, List.flatMap_cons, List.flatMap_nil, Nat.reduceLT, if_true, if_false, Nat.reduceSub, List.getD_cons_zero, List.getD_cons_succ, List.append_nil, List.cons_append, List.nil_append, hl] at hk)
  rw [hv]
  generalize f 5 = x5
  generalize f 6 = x6
  generalize f 11 = x11
  clear HF hv hl f lof
  obtain ⟨H, hH⟩ : ∃ H, H = W ++ beB n 2 ++ [proto, ttl] := ⟨_, rfl⟩
  have HH := Lib.hid hH
  have HHO := Lib.hid (show okB 256 H by rw [hH, HW.out]; exact ok_app (ok_app (ok_beB _ _) (ok_beB _ _)) HPT.out)
  have HY2 := Lib.hid (show y = H ++ ((beB sh 8 ++ beB sl 8) ++ ((beB dh 8 ++ beB dl 8) ++ xs)) by rw [HY.out, put6L, head6, (HB.out w (grown_refl _ _)).1.1, hH, HW.out]; rfl)
  rw [← hH] at hk
  clear hH
  clear HK
  have HK := Lib.hid hk
  clear hk
  go_upto_region 11 with fail
  refine wp_region_sep [[.sl 5 .u8 a8 8 c8 H]] [.blk p (Obj.cells #[Value.bool true, .int .u8 cls, .int .u32 flow, .int .u16 id, .int .u16 frag, .int .u8 ttl, .int .u8 proto, .bool true, .int .u64 sh, .int .u64 sl, .bool true, .int .u64 dh, .int .u64 dl, .slice ad n cp] 29 (0, 0))] [(9, [], [3, 6]), (10, [9, 13], [])] [10] 13 (by kernel_rfl) (by kernel_rfl) (w0 := w) HK.out ?_
  (try simp only [Act.put, Act.eval, List.setIfInBounds_toArray, List.set_cons_zero, List.set_cons_succ, Array.getD_eq_getD_getElem?, List.getElem?_toArray, List.getElem?_cons_succ, List.getElem?_cons_zero, Option.getD_some, Nat.reduceAdd, List.nil_append, List.cons_append, En.get])
  (repeat (first | (refine fs_skip rfl (fun f => rfl) ?_; (try simp only [Act.put, Act.eval, List.setIfInBounds_toArray, List.set_cons_zero, List.set_cons_succ, Array.getD_eq_getD_getElem?, List.getElem?_toArray, List.getElem?_cons_succ, List.getElem?_cons_zero, Option.getD_some, Nat.reduceAdd, List.nil_append, List.cons_append, En.get])) | (refine fs_move _ rfl rfl (fun f => rfl) rfl ?_ ?_; ((first | exact fun _ _ _ => rfl | exact fun f f' hcg => hcg _ (by kernel_rfl) | (intro f f' hcg; rw [hcg]; kernel_rfl) | (intro f f' hcg; rw [hcg, hcg]; (kernel_rfl; kernel_rfl)) | exact trivial)); (try simp only [Act.put, Act.eval, List.setIfInBounds_toArray, List.set_cons_zero, List.set_cons_succ, Array.getD_eq_getD_getElem?, List.getElem?_toArray, List.getElem?_cons_succ, List.getElem?_cons_zero, Option.getD_some, Nat.reduceAdd, List.nil_append, List.cons_append, En.get])) | (refine fs_assign _ rfl rfl (fun f => rfl) rfl ?_ ?_; ((first | exact fun _ _ _ => rfl | exact fun f f' hcg => hcg _ (by kernel_rfl) | (intro f f' hcg; rw [hcg]; kernel_rfl) | (intro f f' hcg; rw [hcg, hcg]; (kernel_rfl; kernel_rfl)) | exact trivial)); (try simp only [Act.put, Act.eval, List.setIfInBounds_toArray, List.set_cons_zero, List.set_cons_succ, Array.getD_eq_getD_getElem?, List.getElem?_toArray, List.getElem?_cons_succ, List.getElem?_cons_zero, Option.getD_some, Nat.reduceAdd, List.nil_append, List.cons_append, En.get])) | (fail) | (refine fs_pure rfl (fun f => rfl) rfl ?_ ?_ ?_ ?_; (rotate_left; (intro f w1; (skip); go_simp; (first | done | with_reducible rfl)); ((first | exact fun _ _ _ => rfl | exact fun f f' hcg => hcg _ (by kernel_rfl) | (intro f f' hcg; rw [hcg]; kernel_rfl) | (intro f f' hcg; rw [hcg, hcg]; (kernel_rfl; kernel_rfl)) | exact trivial)); (try simp only [Act.put, Act.eval, List.setIfInBounds_toArray, List.set_cons_zero, List.set_cons_succ, Array.getD_eq_getD_getElem?, List.getElem?_toArray, List.getElem?_cons_succ, List.getElem?_cons_zero, Option.getD_some, Nat.reduceAdd, List.nil_append, List.cons_append, En.get])))))
  refine fs_read rfl (fun f => rfl) rfl (fun _ => .agg #[.bool true, .int .u64 sh, .int .u64 sl]) ?_ (fun _ _ _ => rfl) ?_
  · intro f lof w1 Lf HF HK1
    clear HF
    (try simp only [itms, itm, usesOf, readsOf, takesOf, List.find?, Nat.reduceBEq, List.flatMap_cons, List.flatMap_nil, Nat.reduceLT, if_true, if_false, Nat.reduceSub, List.getD_cons_zero, List.getD_cons_succ, List.append_nil, List.cons_append, List.nil_append, List.append_nil] at HK1)
    have hg := HK1.at (.here _)
    clear HK1
    refine run_mid rfl rfl [.bool true, .int .u64 sh, .int .u64 sl] (fun j v hj => ?_) Try.underlying26 rfl (by kernel_rfl)
    rw [cell_blk hg, ← hj]
    rcases j with _ | _ | _ | j
    · rfl
    · rfl
    · rfl
    · cases hj
  (try simp only [Act.put, Act.eval, List.setIfInBounds_toArray, List.set_cons_zero, List.set_cons_succ, Array.getD_eq_getD_getElem?, List.getElem?_toArray, List.getElem?_cons_succ, List.getElem?_cons_zero, Option.getD_some, Nat.reduceAdd, List.nil_append, List.cons_append, En.get])
  refine fs_call rfl (fun f => rfl) 27 _ _ rfl (fun args w => by simp [callFunc, Try.func27]; rfl) (.res (fun _ v it => ∃ a c, v = .slice a 16 c ∧ it = [.sl 5 .u8 a 16 c (beB sh 8 ++ beB sl 8)])) ?_ (fun _ _ _ => rfl) ?_
  · intro f lof w1 Lf HF HK1
    (try simp only [itms, itm, usesOf, readsOf, takesOf, List.find?, Nat.reduceBEq, List.flatMap_cons, List.flatMap_nil, Nat.reduceLT, if_true, if_false, Nat.reduceSub, List.getD_cons_zero, List.getD_cons_succ, List.append_nil, List.cons_append, List.nil_append, List.append_nil] at HK1)
    simp only [List.map_toArray, List.map_cons, List.map_nil, Act.eval, Array.getD_eq_getD_getElem?, List.getElem?_toArray, List.getElem?_cons_succ, List.getElem?_cons_zero, Option.getD_some, List.append_nil]
    clear HF
    have q4 := addr_any ⟨true, sh, sl⟩ w1 HP.out.src
    refine q4.mono ?_
    rintro e w2 ⟨a, c, rfl, ho, hg⟩
    exact ⟨_, _, rfl, ⟨a, c, rfl, rfl⟩, own_back HK1 hg ho⟩
  (try simp only [Act.put, Act.eval, List.setIfInBounds_toArray, List.set_cons_zero, List.set_cons_succ, Array.getD_eq_getD_getElem?, List.getElem?_toArray, List.getElem?_cons_succ, List.getElem?_cons_zero, Option.getD_some, Nat.reduceAdd, List.nil_append, List.cons_append, En.get])
  (repeat (first | (refine fs_skip rfl (fun f => rfl) ?_; (try simp only [Act.put, Act.eval, List.setIfInBounds_toArray, List.set_cons_zero, List.set_cons_succ, Array.getD_eq_getD_getElem?, List.getElem?_toArray, List.getElem?_cons_succ, List.getElem?_cons_zero, Option.getD_some, Nat.reduceAdd, List.nil_append, List.cons_append, En.get])) | (refine fs_move _ rfl rfl (fun f => rfl) rfl ?_ ?_; ((first | exact fun _ _ _ => rfl | exact fun f f' hcg => hcg _ (by kernel_rfl) | (intro f f' hcg; rw [hcg]; kernel_rfl) | (intro f f' hcg; rw [hcg, hcg]; (kernel_rfl; kernel_rfl)) | exact trivial)); (try simp only [Act.put, Act.eval, List.setIfInBounds_toArray, List.set_cons_zero, List.set_cons_succ, Array.getD_eq_getD_getElem?, List.getElem?_toArray, List.getElem?_cons_succ, List.getElem?_cons_zero, Option.getD_some, Nat.reduceAdd, List.nil_append, List.cons_append, En.get])) | (refine fs_assign _ rfl rfl (fun f => rfl) rfl ?_ ?_; ((first | exact fun _ _ _ => rfl | exact fun f f' hcg => hcg _ (by kernel_rfl) | (intro f f' hcg; rw [hcg]; kernel_rfl) | (intro f f' hcg; rw [hcg, hcg]; (kernel_rfl; kernel_rfl)) | exact trivial)); (try simp only [Act.put, Act.eval, List.setIfInBounds_toArray, List.set_cons_zero, List.set_cons_succ, Array.getD_eq_getD_getElem?, List.getElem?_toArray, List.getElem?_cons_succ, List.getElem?_cons_zero, Option.getD_some, Nat.reduceAdd, List.nil_append, List.cons_append, En.get])) | (fail) | (refine fs_pure rfl (fun f => rfl) rfl ?_ ?_ ?_ ?_; (rotate_left; (intro f w1; (skip); go_simp; (first | done | with_reducible rfl)); ((first | exact fun _ _ _ => rfl | exact fun f f' hcg => hcg _ (by kernel_rfl) | (intro f f' hcg; rw [hcg]; kernel_rfl) | (intro f f' hcg; rw [hcg, hcg]; (kernel_rfl; kernel_rfl)) | exact trivial)); (try simp only [Act.put, Act.eval, List.setIfInBounds_toArray, List.set_cons_zero, List.set_cons_succ, Array.getD_eq_getD_getElem?, List.getElem?_toArray, List.getElem?_cons_succ, List.getElem?_cons_zero, Option.getD_some, Nat.reduceAdd, List.nil_append, List.cons_append, En.get])))))
  refine fs_read rfl (fun f => rfl) rfl (fun _ => .agg #[.bool true, .int .u64 dh, .int .u64 dl]) ?_ (fun _ _ _ => rfl) ?_
  · intro f lof w1 Lf HF HK1
    clear HF
    (try simp only [itms, itm, usesOf, readsOf, takesOf, List.find?, Nat.reduceBEq, List.flatMap_cons, List.flatMap_nil, Nat.reduceLT, if_true, if_false, Nat.reduceSub, List.getD_cons_zero, List.getD_cons_succ, List.append_nil, List.cons_append, List.nil_append, List.append_nil] at HK1)
    have hg := HK1.at (.here _)
    clear HK1
    refine run_mid rfl rfl [.bool true, .int .u64 dh, .int .u64 dl] (fun j v hj => ?_) Try.underlying26 rfl (by kernel_rfl)
    rw [cell_blk hg, ← hj]
    rcases j with _ | _ | _ | j
    · rfl
    · rfl
    · rfl
    · cases hj
  (try simp only [Act.put, Act.eval, List.setIfInBounds_toArray, List.set_cons_zero, List.set_cons_succ, Array.getD_eq_getD_getElem?, List.getElem?_toArray, List.getElem?_cons_succ, List.getElem?_cons_zero, Option.getD_some, Nat.reduceAdd, List.nil_append, List.cons_append, En.get])
  refine fs_call rfl (fun f => rfl) 27 _ _ rfl (fun args w => by simp [callFunc, Try.func27]; rfl) (.res (fun _ v it => ∃ a c, v = .slice a 16 c ∧ it = [.sl 5 .u8 a 16 c (beB dh 8 ++ beB dl 8)])) ?_ (fun _ _ _ => rfl) ?_
  · intro f lof w1 Lf HF HK1
    (try simp only [itms, itm, usesOf, readsOf, takesOf, List.find?, Nat.reduceBEq, List.flatMap_cons, List.flatMap_nil, Nat.reduceLT, if_true, if_false, Nat.reduceSub, List.getD_cons_zero, List.getD_cons_succ, List.append_nil, List.cons_append, List.nil_append, List.append_nil] at HK1)
    simp only [List.map_toArray, List.map_cons, List.map_nil, Act.eval, Array.getD_eq_getD_getElem?, List.getElem?_toArray, List.getElem?_cons_succ, List.getElem?_cons_zero, Option.getD_some, List.append_nil]
    clear HF
    have q4 := addr_any ⟨true, dh, dl⟩ w1 HP.out.dst
    refine q4.mono ?_
    rintro e w2 ⟨a, c, rfl, ho, hg⟩
    exact ⟨_, _, rfl, ⟨a, c, rfl, rfl⟩, own_back HK1 hg ho⟩
  (try simp only [Act.put, Act.eval, List.setIfInBounds_toArray, List.set_cons_zero, List.set_cons_succ, Array.getD_eq_getD_getElem?, List.getElem?_toArray, List.getElem?_cons_succ, List.getElem?_cons_zero, Option.getD_some, Nat.reduceAdd, List.nil_append, List.cons_append, En.get])
  (repeat (first | (refine fs_skip rfl (fun f => rfl) ?_; (try simp only [Act.put, Act.eval, List.setIfInBounds_toArray, List.set_cons_zero, List.set_cons_succ, Array.getD_eq_getD_getElem?, List.getElem?_toArray, List.getElem?_cons_succ, List.getElem?_cons_zero, Option.getD_some, Nat.reduceAdd, List.nil_append, List.cons_append, En.get])) | (refine fs_move _ rfl rfl (fun f => rfl) rfl ?_ ?_; ((first | exact fun _ _ _ => rfl | exact fun f f' hcg => hcg _ (by kernel_rfl) | (intro f f' hcg; rw [hcg]; kernel_rfl) | (intro f f' hcg; rw [hcg, hcg]; (kernel_rfl; kernel_rfl)) | exact trivial)); (try simp only [Act.put, Act.eval, List.setIfInBounds_toArray, List.set_cons_zero, List.set_cons_succ, Array.getD_eq_getD_getElem?, List.getElem?_toArray, List.getElem?_cons_succ, List.getElem?_cons_zero, Option.getD_some, Nat.reduceAdd, List.nil_append, List.cons_append, En.get])) | (refine fs_assign _ rfl rfl (fun f => rfl) rfl ?_ ?_; ((first | exact fun _ _ _ => rfl | exact fun f f' hcg => hcg _ (by kernel_rfl) | (intro f f' hcg; rw [hcg]; kernel_rfl) | (intro f f' hcg; rw [hcg, hcg]; (kernel_rfl; kernel_rfl)) | exact trivial)); (try simp only [Act.put, Act.eval, List.setIfInBounds_toArray, List.set_cons_zero, List.set_cons_succ, Array.getD_eq_getD_getElem?, List.getElem?_toArray, List.getElem?_cons_succ, List.getElem?_cons_zero, Option.getD_some, Nat.reduceAdd, List.nil_append, List.cons_append, En.get])) | (fail) | (refine fs_pure rfl (fun f => rfl) rfl ?_ ?_ ?_ ?_; (rotate_left; (intro f w1; (skip); go_simp; (first | done | with_reducible rfl)); ((first | exact fun _ _ _ => rfl | exact fun f f' hcg => hcg _ (by kernel_rfl) | (intro f f' hcg; rw [hcg]; kernel_rfl) | (intro f f' hcg; rw [hcg, hcg]; (kernel_rfl; kernel_rfl)) | exact trivial)); (try simp only [Act.put, Act.eval, List.setIfInBounds_toArray, List.set_cons_zero, List.set_cons_succ, Array.getD_eq_getD_getElem?, List.getElem?_toArray, List.getElem?_cons_succ, List.getElem?_cons_zero, Option.getD_some, Nat.reduceAdd, List.nil_append, List.cons_append, En.get])))))
  refine fs_read rfl (fun f => rfl) rfl (fun _ => .slice ad n cp) ?_ (fun _ _ _ => rfl) ?_
  · intro f lof w1 Lf HF HK1
    clear HF
    (try simp only [itms, itm, usesOf, readsOf, takesOf, List.find?, Nat.reduceBEq, List.flatMap_cons, List.flatMap_nil, Nat.reduceLT, if_true, if_false, Nat.reduceSub, List.getD_cons_zero, List.getD_cons_succ, List.append_nil, List.cons_append, List.nil_append, List.append_nil] at HK1)
    have hg := HK1.at (.here _)
    clear HK1
    have hc : ∀ (b : Nat) (cs : Array Value) (T : TypeId) (fr : Nat × Nat) (i : Nat), w1.heap[b]? = some (.cells cs T fr) → w1.cell? ⟨b, i, none⟩ = cs[i]? := fun b cs T fr i h => by simp [World.cell?, h]
    have hc1 := hc _ _ _ _ 13 hg
    clear hc hg
    simp only [List.getElem?_toArray, List.getElem?_cons_succ, List.getElem?_cons_zero] at hc1
    go_simp
  (try simp only [Act.put, Act.eval, List.setIfInBounds_toArray, List.set_cons_zero, List.set_cons_succ, Array.getD_eq_getD_getElem?, List.getElem?_toArray, List.getElem?_cons_succ, List.getElem?_cons_zero, Option.getD_some, Nat.reduceAdd, List.nil_append, List.cons_append, En.get])
  refine fs_build rfl (fun f => rfl) 4 27 (.res (fun _ v it => ∃ q a1 c1 a2 c2, v = .slice (some ⟨q, 0, none⟩) 4 4 ∧ it = [.blk q (.cells #[.slice a8 8 c8, .slice a1 16 c1, .slice a2 16 c2, .slice ad n cp] 27 (0, 0)), .sl 5 .u8 a1 16 c1 (beB sh 8 ++ beB sl 8), .sl 5 .u8 a2 16 c2 (beB dh 8 ++ beB dl 8)])) ?_ (fun _ _ _ => rfl) ?_
  · intro f lof w1 Lf HF HK1
    obtain ⟨a1, c1, hv3, hl3⟩ := HF 3 (by kernel_rfl)
    obtain ⟨a2, c2, hv6, hl6⟩ := HF 6 (by kernel_rfl)
    clear HF HK1
    refine ⟨#[.slice a8 8 c8, .slice a1 16 c1, .slice a2 16 c2, .slice ad n cp], ?_, ?_⟩
    · rw [hv3, hv6]
      clear hv3 hv6 hl3 hl6
      go_simp; first | done | exact ⟨rfl, rfl⟩ | rfl
    · intro q w' hk
      (try simp only [itms, itm, usesOf, readsOf, takesOf, List.find?, Nat.reduceBEq, List.flatMap_cons, List.flatMap_nil, Nat.reduceLT, if_true, if_false, Nat.reduceSub, List.getD_cons_zero, List.getD_cons_succ, List.append_nil, List.cons_append, List.nil_append, hl3, hl6] at hk)
      exact ⟨_, ⟨q, a1, c1, a2, c2, rfl, rfl⟩, hk⟩
  (try simp only [Act.put, Act.eval, List.setIfInBounds_toArray, List.set_cons_zero, List.set_cons_succ, Array.getD_eq_getD_getElem?, List.getElem?_toArray, List.getElem?_cons_succ, List.getElem?_cons_zero, Option.getD_some, Nat.reduceAdd, List.nil_append, List.cons_append, En.get])
  refine fs_call rfl (fun f => rfl) 26 _ _ rfl (fun args w => by simp [callFunc, Try.func26]; rfl) (.res (fun _ v it => ∃ a c, v = .slice a (40 + n) c ∧ it = [.sl 5 .u8 a (40 + n) c y])) ?_ (fun _ _ _ => rfl) ?_
  · intro f lof w1 Lf HF HK1
    obtain ⟨q, a1, c1, a2, c2, hv, hl⟩ := HF 9 (by kernel_rfl)
    (try simp only [itms, itm, usesOf, readsOf, takesOf, List.find?, Nat.reduceBEq, List.flatMap_cons, List.flatMap_nil, Nat.reduceLT, if_true, if_false, Nat.reduceSub, List.getD_cons_zero, List.getD_cons_succ, List.append_nil, List.cons_append, List.nil_append, hl] at HK1)
    simp only [List.map_toArray, List.map_cons, List.map_nil, Act.eval, Array.getD_eq_getD_getElem?, List.getElem?_toArray, List.getElem?_cons_succ, List.getElem?_cons_zero, Option.getD_some, hv]
    clear HF hv
    have b1 := own_bs HK1 (.next _ (.next _ (.next _ (.here _)))) HHO.out (by decide)
    have b2 := own_bs HK1 (.next _ (.here _)) (ok_app (ok_beB sh 8) (ok_beB sl 8)) (by decide)
    have b3 := own_bs HK1 (.next _ (.next _ (.here _))) (ok_app (ok_beB dh 8) (ok_beB dl 8)) (by decide)
    have b4 := HB.out w1 HK1.grown
    have q4 := concat_any _ 4 4 [⟨a8, 8, c8, H⟩, ⟨a1, 16, c1, beB sh 8 ++ beB sl 8⟩, ⟨a2, 16, c2, beB dh 8 ++ beB dl 8⟩, ⟨ad, n, cp, xs⟩] w1 rfl (own_parts (bs := [⟨a8, 8, c8, H⟩, ⟨a1, 16, c1, beB sh 8 ++ beB sl 8⟩, ⟨a2, 16, c2, beB dh 8 ++ beB dl 8⟩, ⟨ad, n, cp, xs⟩]) HK1 (.here _) rfl) (four_ok b1 b2 b3 b4) (by decide)
    rw [show lenB [⟨a8, 8, c8, H⟩, ⟨a1, 16, c1, beB sh 8 ++ beB sl 8⟩, ⟨a2, 16, c2, beB dh 8 ++ beB dl 8⟩, ⟨ad, n, cp, xs⟩] = 40 + n by simp [lenB]; omega, show catB [⟨a8, 8, c8, H⟩, ⟨a1, 16, c1, beB sh 8 ++ beB sl 8⟩, ⟨a2, 16, c2, beB dh 8 ++ beB dl 8⟩, ⟨ad, n, cp, xs⟩] = y by rw [HY2.out]; simp [catB]] at q4
    refine q4.mono ?_
    rintro e w2 ⟨v, rfl, ho, hg⟩
    obtain ⟨a3, c3, rfl⟩ := own_slice ho
    refine ⟨_, _, rfl, ⟨a3, c3, rfl, rfl⟩, ?_⟩
    (try simp only [itms, itm, usesOf, readsOf, takesOf, List.find?, Nat.reduceBEq, List.flatMap_cons, List.flatMap_nil, Nat.reduceLT, if_true, if_false, Nat.reduceSub, List.getD_cons_zero, List.getD_cons_succ, List.append_nil, List.cons_append, List.nil_append, hl] at ⊢)
    exact own_back HK1 hg ho
  (try simp only [Act.put, Act.eval, List.setIfInBounds_toArray, List.set_cons_zero, List.set_cons_succ, Array.getD_eq_getD_getElem?, List.getElem?_toArray, List.getElem?_cons_succ, List.getElem?_cons_zero, Option.getD_some, Nat.reduceAdd, List.nil_append, List.cons_append, En.get])
  (repeat (first | (refine fs_skip rfl (fun f => rfl) ?_; (try simp only [Act.put, Act.eval, List.setIfInBounds_toArray, List.set_cons_zero, List.set_cons_succ, Array.getD_eq_getD_getElem?, List.getElem?_toArray, List.getElem?_cons_succ, List.getElem?_cons_zero, Option.getD_some, Nat.reduceAdd, List.nil_append, List.cons_append, En.get])) | (refine fs_move _ rfl rfl (fun f => rfl) rfl ?_ ?_; ((first | exact fun _ _ _ => rfl | exact fun f f' hcg => hcg _ (by kernel_rfl) | (intro f f' hcg; rw [hcg]; kernel_rfl) | (intro f f' hcg; rw [hcg, hcg]; (kernel_rfl; kernel_rfl)) | exact trivial)); (try simp only [Act.put, Act.eval, List.setIfInBounds_toArray, List.set_cons_zero, List.set_cons_succ, Array.getD_eq_getD_getElem?, List.getElem?_toArray, List.getElem?_cons_succ, List.getElem?_cons_zero, Option.getD_some, Nat.reduceAdd, List.nil_append, List.cons_append, En.get])) | (refine fs_assign _ rfl rfl (fun f => rfl) rfl ?_ ?_; ((first | exact fun _ _ _ => rfl | exact fun f f' hcg => hcg _ (by kernel_rfl) | (intro f f' hcg; rw [hcg]; kernel_rfl) | (intro f f' hcg; rw [hcg, hcg]; (kernel_rfl; kernel_rfl)) | exact trivial)); (try simp only [Act.put, Act.eval, List.setIfInBounds_toArray, List.set_cons_zero, List.set_cons_succ, Array.getD_eq_getD_getElem?, List.getElem?_toArray, List.getElem?_cons_succ, List.getElem?_cons_zero, Option.getD_some, Nat.reduceAdd, List.nil_append, List.cons_append, En.get])) | (fail) | (refine fs_pure rfl (fun f => rfl) rfl ?_ ?_ ?_ ?_; (rotate_left; (intro f w1; (skip); go_simp; (first | done | with_reducible rfl)); ((first | exact fun _ _ _ => rfl | exact fun f f' hcg => hcg _ (by kernel_rfl) | (intro f f' hcg; rw [hcg]; kernel_rfl) | (intro f f' hcg; rw [hcg, hcg]; (kernel_rfl; kernel_rfl)) | exact trivial)); (try simp only [Act.put, Act.eval, List.setIfInBounds_toArray, List.set_cons_zero, List.set_cons_succ, Array.getD_eq_getD_getElem?, List.getElem?_toArray, List.getElem?_cons_succ, List.getElem?_cons_zero, Option.getD_some, Nat.reduceAdd, List.nil_append, List.cons_append, En.get])))))
  refine fs_end ?_
  intro f lof wn HF hk
  obtain ⟨a9, c9, hv, hl⟩ := HF 10 (by decide)
  (try simp only [itms, itm, usesOf, readsOf, takesOf, List.find?, Nat.reduceBEq, List.flatMap_cons, List.flatMap_nil, Nat.reduceLT, if_true, if_false, Nat.reduceSub, List.getD_cons_zero, List.getD_cons_succ, List.append_nil, List.cons_append, List.nil_append, hl] at hk)
  rw [hv]
  generalize f 3 = y3
  generalize f 6 = y6
  generalize f 9 = y9
  clear HF hv hl f lof
  clear HK
  have HK := Lib.hid hk
  clear hk
  go_wp2_with fail
  exact bodyPost_ret (results_tmp2 rfl _ _ _) rfl ⟨a9, c9, rfl, HK.out.get (.here _), HK.out.grown⟩

end Go.Proofs.Ytmankjhopfilaaa
