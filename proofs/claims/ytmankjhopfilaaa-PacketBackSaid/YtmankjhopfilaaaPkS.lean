/- Put of version 6, the reference's. -/
import Derived.Test.YtmankjhopfilaaaPkR
namespace Go.Proofs.Ytmankjhopfilaaa
set_option linter.unusedVariables false
set_option linter.unusedSimpArgs false
open Go.RowKit Go.Proofs.YtmankjhopfilaaaL

set_option maxHeartbeats 8000000 in
set_option maxRecDepth 100000 in
theorem rput6_any (cls flow ttl proto sh sl dh dl : Int) (ad : Option Addr) (n cp : Nat) (xs : List Int) (w : World) (hp : (⟨true, cls, flow, 0, 0, ttl, proto, ⟨true, sh, sl⟩, ⟨true, dh, dl⟩⟩ : Pk).ok) (h1 : (⟨true, sh, sl⟩ : Ad).right = true) (h2 : (⟨true, dh, dl⟩ : Ad).right = true) (hf : flow ≤ 1048575) (hb : (⟨ad, n, cp, xs⟩ : Bs).ok w) (hn : 40 + n ≤ 1400) :
    Calls Try.prog 13 #[(⟨true, cls, flow, 0, 0, ttl, proto, ⟨true, sh, sl⟩, ⟨true, dh, dl⟩⟩ : Pk).val (.slice ad n cp)] w fun e w' => ∃ a c, e = .returned (.tuple #[.slice a (40 + n) c, .int .i64 0]) ∧ w'.ownsRow w.heap.size 5 1 (.slice a (40 + n) c) (40 + n) ((put6L (⟨true, cls, flow, 0, 0, ttl, proto, ⟨true, sh, sl⟩, ⟨true, dh, dl⟩⟩ : Pk) xs).map (Value.int .u8)) ∧ w.grownBy w' none := by
  have HB := Lib.hid (fun (w' : World) (g : w.grownBy w' none) => Bs.ok_keep hb g)
  have HP := Lib.hid hp
  obtain ⟨y, hy⟩ : ∃ y, y = put6L (⟨true, cls, flow, 0, 0, ttl, proto, ⟨true, sh, sl⟩, ⟨true, dh, dl⟩⟩ : Pk) xs := ⟨_, rfl⟩
  have HY := Lib.hid hy
  rw [← hy]
  obtain ⟨hc0, hc1⟩ : 0 ≤ cls ∧ cls < 256 := hp.cls
  have hflow : 0 ≤ flow := hp.flow.1
  have hf2 : ¬ 1048576 ≤ flow := by omega
  have hor := word6 cls flow hc0 hc1 hflow hf
  clear hb hp hy
  have hn1 : (n : Int) ≤ 1360 := by omega
  have HK := Lib.hid (own_start w)
  show Calls Try.prog _ #[.agg #[Value.bool true, .int .u8 cls, .int .u32 flow, .int .u16 0, .int .u16 0, .int .u8 ttl, .int .u8 proto, .bool true, .int .u64 sh, .int .u64 sl, .bool true, .int .u64 dh, .int .u64 dl, .slice ad n cp]] w fun e w' => ∃ a c, e = .returned (.tuple #[.slice a (40 + n) c, .int .i64 0]) ∧ w'.ownsRow w.heap.size 5 1 (.slice a (40 + n) c) (40 + n) (y.map (Value.int .u8)) ∧ w.grownBy w' none
  go_enter Try.func13, Try.ntmps13
  go_wp2_with fail
  have hk := own_alloc HK.out (Obj.cells #[Value.bool true, .int .u8 cls, .int .u32 flow, .int .u16 0, .int .u16 0, .int .u8 ttl, .int .u8 proto, .bool true, .int .u64 sh, .int .u64 sl, .bool true, .int .u64 dh, .int .u64 dl, .slice ad n cp] 29 (0, 0))
  obtain ⟨p, hp⟩ : ∃ p, p = w.heap.size := ⟨_, rfl⟩
  rw [← hp] at hk ⊢
  clear hp
  clear HK
  have HK := Lib.hid hk
  clear hk
  refine (rrightAddr_any ⟨true, sh, sl⟩ (w.alloc (Obj.cells #[Value.bool true, .int .u8 cls, .int .u32 flow, .int .u16 0, .int .u16 0, .int .u8 ttl, .int .u8 proto, .bool true, .int .u64 sh, .int .u64 sl, .bool true, .int .u64 dh, .int .u64 dl, .slice ad n cp] 29 (0, 0))) HP.out.src).mono ?_
  rintro e w1 ⟨rfl, hg⟩
  rw [h1]
  have hk := HK.out.grow hg
  clear hg
  clear HK
  have HK := Lib.hid hk
  clear hk
  have hb := HK.out.at (.here _)
  have c0 : w1.cell? ⟨p, 0, none⟩ = some (.bool true) := cell_blk hb 0
  have c1 : w1.cell? ⟨p, 1, none⟩ = some (.int .u8 cls) := cell_blk hb 1
  have c2 : w1.cell? ⟨p, 2, none⟩ = some (.int .u32 flow) := cell_blk hb 2
  have c3 : w1.cell? ⟨p, 3, none⟩ = some (.int .u16 0) := cell_blk hb 3
  have c4 : w1.cell? ⟨p, 4, none⟩ = some (.int .u16 0) := cell_blk hb 4
  have c10 : w1.cell? ⟨p, 10, none⟩ = some (.bool true) := cell_blk hb 10
  have c11 : w1.cell? ⟨p, 11, none⟩ = some (.int .u64 dh) := cell_blk hb 11
  have c12 : w1.cell? ⟨p, 12, none⟩ = some (.int .u64 dl) := cell_blk hb 12
  have c13 : w1.cell? ⟨p, 13, none⟩ = some (.slice ad n cp) := cell_blk hb 13
  clear hb
  go_wp2_with fail
  clear c0 c1 c2 c3 c4 c10 c11 c12 c13
  refine (rrightAddr_any ⟨true, dh, dl⟩ w1 HP.out.dst).mono ?_
  rintro e w2 ⟨rfl, hg⟩
  rw [h2]
  have hk := HK.out.grow hg
  clear hg
  clear HK
  have HK := Lib.hid hk
  clear hk
  have hb := HK.out.at (.here _)
  have c0 : w2.cell? ⟨p, 0, none⟩ = some (.bool true) := cell_blk hb 0
  have c1 : w2.cell? ⟨p, 1, none⟩ = some (.int .u8 cls) := cell_blk hb 1
  have c2 : w2.cell? ⟨p, 2, none⟩ = some (.int .u32 flow) := cell_blk hb 2
  have c3 : w2.cell? ⟨p, 3, none⟩ = some (.int .u16 0) := cell_blk hb 3
  have c4 : w2.cell? ⟨p, 4, none⟩ = some (.int .u16 0) := cell_blk hb 4
  have c10 : w2.cell? ⟨p, 10, none⟩ = some (.bool true) := cell_blk hb 10
  have c11 : w2.cell? ⟨p, 11, none⟩ = some (.int .u64 dh) := cell_blk hb 11
  have c12 : w2.cell? ⟨p, 12, none⟩ = some (.int .u64 dl) := cell_blk hb 12
  have c13 : w2.cell? ⟨p, 13, none⟩ = some (.slice ad n cp) := cell_blk hb 13
  clear hb
  go_wp2_with fail
  clear c0 c1 c2 c3 c4 c10 c11 c12 c13
  have hk := HK.out.nil 5 .u8
  have q4 := putU_own (1610612736 + cls * 1048576 + flow) 4 hk (by omega) (by omega) (by decide) (by decide)
  simp only [Nat.zero_add, List.nil_append] at q4
  refine q4.mono ?_
  rintro e w3 ⟨a4, c4, rfl, hk⟩
  clear q4
  obtain ⟨W, hW⟩ : ∃ W, W = beB (1610612736 + cls * 1048576 + flow) 4 := ⟨_, rfl⟩
  have HW := Lib.hid hW
  rw [← hW] at hk
  clear hW hor
  clear HK
  have HK := Lib.hid hk
  clear hk
  go_upto_region 8 with fail
  have HPT := Lib.hid (show okB 256 [proto, ttl] from fun x hx => by
    rcases List.mem_cons.1 hx with rfl | hx
    · exact HP.out.proto
    · rw [List.mem_singleton.1 hx]; exact HP.out.ttl)
  have HWN := Lib.hid (show IntKind.u64.wrap (n : Int) = n by rw [IntKind.wrap_u64]; omega)
  refine wp_region_sep [[.sl 5 .u8 a4 4 c4 W]] [.blk p (Obj.cells #[Value.bool true, .int .u8 cls, .int .u32 flow, .int .u16 0, .int .u16 0, .int .u8 ttl, .int .u8 proto, .bool true, .int .u64 sh, .int .u64 sl, .bool true, .int .u64 dh, .int .u64 dl, .slice ad n cp] 29 (0, 0))] [(5, [], [13]), (11, [], [5, 10])] [11] 13 (by kernel_rfl) (by kernel_rfl) (w0 := w) HK.out ?_
  (try simp only [Act.put, Act.eval, List.setIfInBounds_toArray, List.set_cons_zero, List.set_cons_succ, Array.getD_eq_getD_getElem?, List.getElem?_toArray, List.getElem?_cons_succ, List.getElem?_cons_zero, Option.getD_some, Nat.reduceAdd, List.nil_append, List.cons_append, En.get])
  (repeat (first | (refine fs_skip rfl (fun f => rfl) ?_; (try simp only [Act.put, Act.eval, List.setIfInBounds_toArray, List.set_cons_zero, List.set_cons_succ, Array.getD_eq_getD_getElem?, List.getElem?_toArray, List.getElem?_cons_succ, List.getElem?_cons_zero, Option.getD_some, Nat.reduceAdd, List.nil_append, List.cons_append, En.get])) | (refine fs_move _ rfl rfl (fun f => rfl) rfl ?_ ?_; ((first | exact fun _ _ _ => rfl | exact fun f f' hcg => hcg _ (by kernel_rfl) | (intro f f' hcg; rw [hcg]; kernel_rfl) | (intro f f' hcg; rw [hcg, hcg]; (kernel_rfl; kernel_rfl)) | exact trivial)); (try simp only [Act.put, Act.eval, List.setIfInBounds_toArray, List.set_cons_zero, List.set_cons_succ, Array.getD_eq_getD_getElem?, List.getElem?_toArray, List.getElem?_cons_succ, List.getElem?_cons_zero, Option.getD_some, Nat.reduceAdd, List.nil_append, List.cons_append, En.get])) | (refine fs_assign _ rfl rfl (fun f => rfl) rfl ?_ ?_; ((first | exact fun _ _ _ => rfl | exact fun f f' hcg => hcg _ (by kernel_rfl) | (intro f f' hcg; rw [hcg]; kernel_rfl) | (intro f f' hcg; rw [hcg, hcg]; (kernel_rfl; kernel_rfl)) | exact trivial)); (try simp only [Act.put, Act.eval, List.setIfInBounds_toArray, List.set_cons_zero, List.set_cons_succ, Array.getD_eq_getD_getElem?, List.getElem?_toArray, List.getElem?_cons_succ, List.getElem?_cons_zero, Option.getD_some, Nat.reduceAdd, List.nil_append, List.cons_append, En.get])) | (fail) | (refine fs_pure rfl (fun f => rfl) rfl ?_ ?_ ?_ ?_; (rotate_left; (intro f w1; (skip); go_simp; (first | done | with_reducible rfl)); ((first | exact fun _ _ _ => rfl | exact fun f f' hcg => hcg _ (by kernel_rfl) | (intro f f' hcg; rw [hcg]; kernel_rfl) | (intro f f' hcg; rw [hcg, hcg]; (kernel_rfl; kernel_rfl)) | exact trivial)); (try simp only [Act.put, Act.eval, List.setIfInBounds_toArray, List.set_cons_zero, List.set_cons_succ, Array.getD_eq_getD_getElem?, List.getElem?_toArray, List.getElem?_cons_succ, List.getElem?_cons_zero, Option.getD_some, Nat.reduceAdd, List.nil_append, List.cons_append, En.get])))))
  refine fs_read rfl (fun f => rfl) rfl (fun _ => .slice ad n cp) ?_ (fun _ _ _ => rfl) ?_
  · intro f lof w1 Lf HF HK1
    clear HF
    (try simp only [itms, itm, usesOf, readsOf, takesOf, List.find?, Nat.reduceBEq, List.flatMap_cons, List.flatMap_nil, Nat.reduceLT, if_true, if_false, Nat.reduceSub, List.getD_cons_zero, List.getD_cons_succ, List.append_nil, List.cons_append, List.nil_append, List.append_nil] at HK1)
    have hg := HK1.at (.here _)
    clear HK1
    have hc : ∀ (b : Nat) (cs : Array Value) (T : TypeId) (fr : Nat × Nat) (i : Nat), w1.heap[b]? = some (.cells cs T fr) → w1.cell? ⟨b, i, none⟩ = cs[i]? := fun b cs T fr i h => by simp [World.cell?, h]
    have hc1 := hc _ _ _ _ 13 hg
    clear hc hg
    simp only [List.getElem?_toArray, List.getElem?_cons_succ, List.getElem?_cons_zero] at hc1
    go_simp
  (try simp only [Act.put, Act.eval, List.setIfInBounds_toArray, List.set_cons_zero, List.set_cons_succ, Array.getD_eq_getD_getElem?, List.getElem?_toArray, List.getElem?_cons_succ, List.getElem?_cons_zero, Option.getD_some, Nat.reduceAdd, List.nil_append, List.cons_append, En.get])
  (repeat (first | (refine fs_skip rfl (fun f => rfl) ?_; (try simp only [Act.put, Act.eval, List.setIfInBounds_toArray, List.set_cons_zero, List.set_cons_succ, Array.getD_eq_getD_getElem?, List.getElem?_toArray, List.getElem?_cons_succ, List.getElem?_cons_zero, Option.getD_some, Nat.reduceAdd, List.nil_append, List.cons_append, En.get])) | (refine fs_move _ rfl rfl (fun f => rfl) rfl ?_ ?_; ((first | exact fun _ _ _ => rfl | exact fun f f' hcg => hcg _ (by kernel_rfl) | (intro f f' hcg; rw [hcg]; kernel_rfl) | (intro f f' hcg; rw [hcg, hcg]; (kernel_rfl; kernel_rfl)) | exact trivial)); (try simp only [Act.put, Act.eval, List.setIfInBounds_toArray, List.set_cons_zero, List.set_cons_succ, Array.getD_eq_getD_getElem?, List.getElem?_toArray, List.getElem?_cons_succ, List.getElem?_cons_zero, Option.getD_some, Nat.reduceAdd, List.nil_append, List.cons_append, En.get])) | (refine fs_assign _ rfl rfl (fun f => rfl) rfl ?_ ?_; ((first | exact fun _ _ _ => rfl | exact fun f f' hcg => hcg _ (by kernel_rfl) | (intro f f' hcg; rw [hcg]; kernel_rfl) | (intro f f' hcg; rw [hcg, hcg]; (kernel_rfl; kernel_rfl)) | exact trivial)); (try simp only [Act.put, Act.eval, List.setIfInBounds_toArray, List.set_cons_zero, List.set_cons_succ, Array.getD_eq_getD_getElem?, List.getElem?_toArray, List.getElem?_cons_succ, List.getElem?_cons_zero, Option.getD_some, Nat.reduceAdd, List.nil_append, List.cons_append, En.get])) | (fail) | (refine fs_pure rfl (fun f => rfl) rfl ?_ ?_ ?_ ?_; (rotate_left; (intro f w1; ((have hwn := HWN.out)); go_simp; (first | done | with_reducible rfl)); ((first | exact fun _ _ _ => rfl | exact fun f f' hcg => hcg _ (by kernel_rfl) | (intro f f' hcg; rw [hcg]; kernel_rfl) | (intro f f' hcg; rw [hcg, hcg]; (kernel_rfl; kernel_rfl)) | exact trivial)); (try simp only [Act.put, Act.eval, List.setIfInBounds_toArray, List.set_cons_zero, List.set_cons_succ, Array.getD_eq_getD_getElem?, List.getElem?_toArray, List.getElem?_cons_succ, List.getElem?_cons_zero, Option.getD_some, Nat.reduceAdd, List.nil_append, List.cons_append, En.get])))))
  refine fs_call rfl (fun f => rfl) 30 _ _ rfl (fun args w => by simp [callFunc, Try.func30]; rfl) (.res (fun _ v it => ∃ a c, v = .slice a 6 c ∧ it = [.sl 5 .u8 a 6 c (W ++ beB n 2)])) ?_ (fun _ _ _ => rfl) ?_
  · intro f lof w1 Lf HF HK1
    (try simp only [itms, itm, usesOf, readsOf, takesOf, List.find?, Nat.reduceBEq, List.flatMap_cons, List.flatMap_nil, Nat.reduceLT, if_true, if_false, Nat.reduceSub, List.getD_cons_zero, List.getD_cons_succ, List.append_nil, List.cons_append, List.nil_append, List.append_nil] at HK1)
    simp only [List.map_toArray, List.map_cons, List.map_nil, Act.eval, Array.getD_eq_getD_getElem?, List.getElem?_toArray, List.getElem?_cons_succ, List.getElem?_cons_zero, Option.getD_some, List.append_nil]
    clear HF
    have q4 := putU_own ((n : Int)) 2 HK1 (by omega) (by omega) (by decide) (by decide)
    refine q4.mono ?_
    rintro e w2 ⟨a, c, rfl, hk⟩
    exact ⟨_, _, rfl, ⟨a, c, rfl, rfl⟩, hk⟩
  (try simp only [Act.put, Act.eval, List.setIfInBounds_toArray, List.set_cons_zero, List.set_cons_succ, Array.getD_eq_getD_getElem?, List.getElem?_toArray, List.getElem?_cons_succ, List.getElem?_cons_zero, Option.getD_some, Nat.reduceAdd, List.nil_append, List.cons_append, En.get])
  (repeat (first | (refine fs_skip rfl (fun f => rfl) ?_; (try simp only [Act.put, Act.eval, List.setIfInBounds_toArray, List.set_cons_zero, List.set_cons_succ, Array.getD_eq_getD_getElem?, List.getElem?_toArray, List.getElem?_cons_succ, List.getElem?_cons_zero, Option.getD_some, Nat.reduceAdd, List.nil_append, List.cons_append, En.get])) | (refine fs_move _ rfl rfl (fun f => rfl) rfl ?_ ?_; ((first | exact fun _ _ _ => rfl | exact fun f f' hcg => hcg _ (by kernel_rfl) | (intro f f' hcg; rw [hcg]; kernel_rfl) | (intro f f' hcg; rw [hcg, hcg]; (kernel_rfl; kernel_rfl)) | exact trivial)); (try simp only [Act.put, Act.eval, List.setIfInBounds_toArray, List.set_cons_zero, List.set_cons_succ, Array.getD_eq_getD_getElem?, List.getElem?_toArray, List.getElem?_cons_succ, List.getElem?_cons_zero, Option.getD_some, Nat.reduceAdd, List.nil_append, List.cons_append, En.get])) | (refine fs_assign _ rfl rfl (fun f => rfl) rfl ?_ ?_; ((first | exact fun _ _ _ => rfl | exact fun f f' hcg => hcg _ (by kernel_rfl) | (intro f f' hcg; rw [hcg]; kernel_rfl) | (intro f f' hcg; rw [hcg, hcg]; (kernel_rfl; kernel_rfl)) | exact trivial)); (try simp only [Act.put, Act.eval, List.setIfInBounds_toArray, List.set_cons_zero, List.set_cons_succ, Array.getD_eq_getD_getElem?, List.getElem?_toArray, List.getElem?_cons_succ, List.getElem?_cons_zero, Option.getD_some, Nat.reduceAdd, List.nil_append, List.cons_append, En.get])) | (fail) | (refine fs_pure rfl (fun f => rfl) rfl ?_ ?_ ?_ ?_; (rotate_left; (intro f w1; (skip); go_simp; (first | done | with_reducible rfl)); ((first | exact fun _ _ _ => rfl | exact fun f f' hcg => hcg _ (by kernel_rfl) | (intro f f' hcg; rw [hcg]; kernel_rfl) | (intro f f' hcg; rw [hcg, hcg]; (kernel_rfl; kernel_rfl)) | exact trivial)); (try simp only [Act.put, Act.eval, List.setIfInBounds_toArray, List.set_cons_zero, List.set_cons_succ, Array.getD_eq_getD_getElem?, List.getElem?_toArray, List.getElem?_cons_succ, List.getElem?_cons_zero, Option.getD_some, Nat.reduceAdd, List.nil_append, List.cons_append, En.get])))))
  refine fs_read rfl (fun f => rfl) rfl (fun _ => .int .u8 proto) ?_ (fun _ _ _ => rfl) ?_
  · intro f lof w1 Lf HF HK1
    clear HF
    (try simp only [itms, itm, usesOf, readsOf, takesOf, List.find?, Nat.reduceBEq, List.flatMap_cons, List.flatMap_nil, Nat.reduceLT, if_true, if_false, Nat.reduceSub, List.getD_cons_zero, List.getD_cons_succ, List.append_nil, List.cons_append, List.nil_append, List.append_nil] at HK1)
    have hg := HK1.at (.here _)
    clear HK1
    have hc : ∀ (b : Nat) (cs : Array Value) (T : TypeId) (fr : Nat × Nat) (i : Nat), w1.heap[b]? = some (.cells cs T fr) → w1.cell? ⟨b, i, none⟩ = cs[i]? := fun b cs T fr i h => by simp [World.cell?, h]
    have hc1 := hc _ _ _ _ 6 hg
    clear hc hg
    simp only [List.getElem?_toArray, List.getElem?_cons_succ, List.getElem?_cons_zero] at hc1
    go_simp
  (try simp only [Act.put, Act.eval, List.setIfInBounds_toArray, List.set_cons_zero, List.set_cons_succ, Array.getD_eq_getD_getElem?, List.getElem?_toArray, List.getElem?_cons_succ, List.getElem?_cons_zero, Option.getD_some, Nat.reduceAdd, List.nil_append, List.cons_append, En.get])
  (repeat (first | (refine fs_skip rfl (fun f => rfl) ?_; (try simp only [Act.put, Act.eval, List.setIfInBounds_toArray, List.set_cons_zero, List.set_cons_succ, Array.getD_eq_getD_getElem?, List.getElem?_toArray, List.getElem?_cons_succ, List.getElem?_cons_zero, Option.getD_some, Nat.reduceAdd, List.nil_append, List.cons_append, En.get])) | (refine fs_move _ rfl rfl (fun f => rfl) rfl ?_ ?_; ((first | exact fun _ _ _ => rfl | exact fun f f' hcg => hcg _ (by kernel_rfl) | (intro f f' hcg; rw [hcg]; kernel_rfl) | (intro f f' hcg; rw [hcg, hcg]; (kernel_rfl; kernel_rfl)) | exact trivial)); (try simp only [Act.put, Act.eval, List.setIfInBounds_toArray, List.set_cons_zero, List.set_cons_succ, Array.getD_eq_getD_getElem?, List.getElem?_toArray, List.getElem?_cons_succ, List.getElem?_cons_zero, Option.getD_some, Nat.reduceAdd, List.nil_append, List.cons_append, En.get])) | (refine fs_assign _ rfl rfl (fun f => rfl) rfl ?_ ?_; ((first | exact fun _ _ _ => rfl | exact fun f f' hcg => hcg _ (by kernel_rfl) | (intro f f' hcg; rw [hcg]; kernel_rfl) | (intro f f' hcg; rw [hcg, hcg]; (kernel_rfl; kernel_rfl)) | exact trivial)); (try simp only [Act.put, Act.eval, List.setIfInBounds_toArray, List.set_cons_zero, List.set_cons_succ, Array.getD_eq_getD_getElem?, List.getElem?_toArray, List.getElem?_cons_succ, List.getElem?_cons_zero, Option.getD_some, Nat.reduceAdd, List.nil_append, List.cons_append, En.get])) | (fail) | (refine fs_pure rfl (fun f => rfl) rfl ?_ ?_ ?_ ?_; (rotate_left; (intro f w1; (skip); go_simp; (first | done | with_reducible rfl)); ((first | exact fun _ _ _ => rfl | exact fun f f' hcg => hcg _ (by kernel_rfl) | (intro f f' hcg; rw [hcg]; kernel_rfl) | (intro f f' hcg; rw [hcg, hcg]; (kernel_rfl; kernel_rfl)) | exact trivial)); (try simp only [Act.put, Act.eval, List.setIfInBounds_toArray, List.set_cons_zero, List.set_cons_succ, Array.getD_eq_getD_getElem?, List.getElem?_toArray, List.getElem?_cons_succ, List.getElem?_cons_zero, Option.getD_some, Nat.reduceAdd, List.nil_append, List.cons_append, En.get])))))
  refine fs_read rfl (fun f => rfl) rfl (fun _ => .int .u8 ttl) ?_ (fun _ _ _ => rfl) ?_
  · intro f lof w1 Lf HF HK1
    clear HF
    (try simp only [itms, itm, usesOf, readsOf, takesOf, List.find?, Nat.reduceBEq, List.flatMap_cons, List.flatMap_nil, Nat.reduceLT, if_true, if_false, Nat.reduceSub, List.getD_cons_zero, List.getD_cons_succ, List.append_nil, List.cons_append, List.nil_append, List.append_nil] at HK1)
    have hg := HK1.at (.here _)
    clear HK1
    have hc : ∀ (b : Nat) (cs : Array Value) (T : TypeId) (fr : Nat × Nat) (i : Nat), w1.heap[b]? = some (.cells cs T fr) → w1.cell? ⟨b, i, none⟩ = cs[i]? := fun b cs T fr i h => by simp [World.cell?, h]
    have hc1 := hc _ _ _ _ 5 hg
    clear hc hg
    simp only [List.getElem?_toArray, List.getElem?_cons_succ, List.getElem?_cons_zero] at hc1
    go_simp
  (try simp only [Act.put, Act.eval, List.setIfInBounds_toArray, List.set_cons_zero, List.set_cons_succ, Array.getD_eq_getD_getElem?, List.getElem?_toArray, List.getElem?_cons_succ, List.getElem?_cons_zero, Option.getD_some, Nat.reduceAdd, List.nil_append, List.cons_append, En.get])
  refine fs_lit rfl (fun f => rfl) rfl 2 #[.int .u8 proto, .int .u8 ttl] 5 (fun f w1 => by go_simp; first | done | exact ⟨rfl, rfl⟩ | rfl) ?_
  (try simp only [Act.put, Act.eval, List.setIfInBounds_toArray, List.set_cons_zero, List.set_cons_succ, Array.getD_eq_getD_getElem?, List.getElem?_toArray, List.getElem?_cons_succ, List.getElem?_cons_zero, Option.getD_some, Nat.reduceAdd, List.nil_append, List.cons_append, En.get])
  refine fs_list rfl (fun f => rfl) (.res (fun _ v it => ∃ a c, v = .slice a 8 c ∧ it = [.sl 5 .u8 a 8 c (W ++ beB n 2 ++ [proto, ttl])])) (fun f => ⟨_, rfl, Nat.le_of_ble_eq_true rfl⟩) ?_ (fun _ _ _ => rfl) ?_
  · intro f lof w1 Lf HF HK1 Q' hQ
    obtain ⟨a6, c6, hv6, hl6⟩ := HF 5 (by kernel_rfl)
    obtain ⟨q, hv11, hl11⟩ := HF 10 (by kernel_rfl)
    clear HF
    (try simp only [itms, itm, usesOf, readsOf, takesOf, List.find?, Nat.reduceBEq, List.flatMap_cons, List.flatMap_nil, Nat.reduceLT, if_true, if_false, Nat.reduceSub, List.getD_cons_zero, List.getD_cons_succ, List.append_nil, List.cons_append, List.nil_append, hl6, hl11] at HK1)
    have hs := Bs.src (own_lit HK1 (xs := [proto, ttl]) (n := 2) (.next _ (.here _)) rfl HPT.out (by decide))
    refine wpList_app_own rfl HK1 _ _ 27 rfl 5 (.int .u8 0) 1 Try.underlying27 (by kernel_rfl) rfl .u8 _ _ _ _ hv6 (.here _) _ 2 [proto, ttl] hv11 rfl hs (by unfold maxLen; decide) (by decide) ?_
    intro a' c' w' hk
    exact hQ _ _ ⟨_, ⟨a', c', rfl, rfl⟩, hk.sub (List.Sublist.cons_cons _ (List.sublist_cons_self _ _))⟩
  (try simp only [Act.put, Act.eval, List.setIfInBounds_toArray, List.set_cons_zero, List.set_cons_succ, Array.getD_eq_getD_getElem?, List.getElem?_toArray, List.getElem?_cons_succ, List.getElem?_cons_zero, Option.getD_some, Nat.reduceAdd, List.nil_append, List.cons_append, En.get])
  (repeat (first | (refine fs_skip rfl (fun f => rfl) ?_; (try simp only [Act.put, Act.eval, List.setIfInBounds_toArray, List.set_cons_zero, List.set_cons_succ, Array.getD_eq_getD_getElem?, List.getElem?_toArray, List.getElem?_cons_succ, List.getElem?_cons_zero, Option.getD_some, Nat.reduceAdd, List.nil_append, List.cons_append, En.get])) | (refine fs_move _ rfl rfl (fun f => rfl) rfl ?_ ?_; ((first | exact fun _ _ _ => rfl | exact fun f f' hcg => hcg _ (by kernel_rfl) | (intro f f' hcg; rw [hcg]; kernel_rfl) | (intro f f' hcg; rw [hcg, hcg]; (kernel_rfl; kernel_rfl)) | exact trivial)); (try simp only [Act.put, Act.eval, List.setIfInBounds_toArray, List.set_cons_zero, List.set_cons_succ, Array.getD_eq_getD_getElem?, List.getElem?_toArray, List.getElem?_cons_succ, List.getElem?_cons_zero, Option.getD_some, Nat.reduceAdd, List.nil_append, List.cons_append, En.get])) | (refine fs_assign _ rfl rfl (fun f => rfl) rfl ?_ ?_; ((first | exact fun _ _ _ => rfl | exact fun f f' hcg => hcg _ (by kernel_rfl) | (intro f f' hcg; rw [hcg]; kernel_rfl) | (intro f f' hcg; rw [hcg, hcg]; (kernel_rfl; kernel_rfl)) | exact trivial)); (try simp only [Act.put, Act.eval, List.setIfInBounds_toArray, List.set_cons_zero, List.set_cons_succ, Array.getD_eq_getD_getElem?, List.getElem?_toArray, List.getElem?_cons_succ, List.getElem?_cons_zero, Option.getD_some, Nat.reduceAdd, List.nil_append, List.cons_append, En.get])) | (fail) | (refine fs_pure rfl (fun f => rfl) rfl ?_ ?_ ?_ ?_; (rotate_left; (intro f w1; (skip); go_simp; (first | done | with_reducible rfl)); ((first | exact fun _ _ _ => rfl | exact fun f f' hcg => hcg _ (by kernel_rfl) | (intro f f' hcg; rw [hcg]; kernel_rfl) | (intro f f' hcg; rw [hcg, hcg]; (kernel_rfl; kernel_rfl)) | exact trivial)); (try simp only [Act.put, Act.eval, List.setIfInBounds_toArray, List.set_cons_zero, List.set_cons_succ, Array.getD_eq_getD_getElem?, List.getElem?_toArray, List.getElem?_cons_succ, List.getElem?_cons_zero, Option.getD_some, Nat.reduceAdd, List.nil_append, List.cons_append, En.get])))))
  refine fs_end ?_
  intro f lof wn HF hk
  obtain ⟨a8, c8, hv, hl⟩ := HF 11 (by decide)
  (try simp only [itms, itm, usesOf, readsOf, takesOf, List.find?, Nat.reduceBEq, List.flatMap_cons, List.flatMap_nil, Nat.reduceLT, if_true, if_false, Nat.reduceSub, List.getD_cons_zero, List.getD_cons_succ, List.append_nil, List.cons_append, List.nil_append, hl] at hk)
  rw [hv]
  generalize f 5 = x5
  generalize f 10 = x10
  generalize f 11 = x11
  clear HF hv hl f lof
  obtain ⟨H, hH⟩ : ∃ H, H = W ++ beB n 2 ++ [proto, ttl] := ⟨_, rfl⟩
  have HH := Lib.hid hH
  have HHO := Lib.hid (show okB 256 H by rw [hH, HW.out]; exact ok_app (ok_app (ok_beB _ _) (ok_beB _ _)) HPT.out)
  have HY2 := Lib.hid (show H ++ (beB sh 8 ++ beB sl 8) ++ (beB dh 8 ++ beB dl 8) ++ xs = y by rw [HY.out, put6L, head6, (HB.out w (grown_refl _ _)).1.1, hH, HW.out]; simp only [List.append_assoc]; rfl)
  rw [← hH] at hk
  clear hH
  clear HK
  have HK := Lib.hid hk
  clear hk
  go_upto_region 9 with fail
  refine wp_region_sep [[.sl 5 .u8 a8 8 c8 H]] [.blk p (Obj.cells #[Value.bool true, .int .u8 cls, .int .u32 flow, .int .u16 0, .int .u16 0, .int .u8 ttl, .int .u8 proto, .bool true, .int .u64 sh, .int .u64 sl, .bool true, .int .u64 dh, .int .u64 dl, .slice ad n cp] 29 (0, 0))] [(3, [], [12]), (6, [], [3]), (9, [], [6])] [9] 12 (by kernel_rfl) (by kernel_rfl) (w0 := w) HK.out ?_
  (try simp only [Act.put, Act.eval, List.setIfInBounds_toArray, List.set_cons_zero, List.set_cons_succ, Array.getD_eq_getD_getElem?, List.getElem?_toArray, List.getElem?_cons_succ, List.getElem?_cons_zero, Option.getD_some, Nat.reduceAdd, List.nil_append, List.cons_append, En.get])
  (repeat (first | (refine fs_skip rfl (fun f => rfl) ?_; (try simp only [Act.put, Act.eval, List.setIfInBounds_toArray, List.set_cons_zero, List.set_cons_succ, Array.getD_eq_getD_getElem?, List.getElem?_toArray, List.getElem?_cons_succ, List.getElem?_cons_zero, Option.getD_some, Nat.reduceAdd, List.nil_append, List.cons_append, En.get])) | (refine fs_move _ rfl rfl (fun f => rfl) rfl ?_ ?_; ((first | exact fun _ _ _ => rfl | exact fun f f' hcg => hcg _ (by kernel_rfl) | (intro f f' hcg; rw [hcg]; kernel_rfl) | (intro f f' hcg; rw [hcg, hcg]; (kernel_rfl; kernel_rfl)) | exact trivial)); (try simp only [Act.put, Act.eval, List.setIfInBounds_toArray, List.set_cons_zero, List.set_cons_succ, Array.getD_eq_getD_getElem?, List.getElem?_toArray, List.getElem?_cons_succ, List.getElem?_cons_zero, Option.getD_some, Nat.reduceAdd, List.nil_append, List.cons_append, En.get])) | (refine fs_assign _ rfl rfl (fun f => rfl) rfl ?_ ?_; ((first | exact fun _ _ _ => rfl | exact fun f f' hcg => hcg _ (by kernel_rfl) | (intro f f' hcg; rw [hcg]; kernel_rfl) | (intro f f' hcg; rw [hcg, hcg]; (kernel_rfl; kernel_rfl)) | exact trivial)); (try simp only [Act.put, Act.eval, List.setIfInBounds_toArray, List.set_cons_zero, List.set_cons_succ, Array.getD_eq_getD_getElem?, List.getElem?_toArray, List.getElem?_cons_succ, List.getElem?_cons_zero, Option.getD_some, Nat.reduceAdd, List.nil_append, List.cons_append, En.get])) | (fail) | (refine fs_pure rfl (fun f => rfl) rfl ?_ ?_ ?_ ?_; (rotate_left; (intro f w1; (skip); go_simp; (first | done | with_reducible rfl)); ((first | exact fun _ _ _ => rfl | exact fun f f' hcg => hcg _ (by kernel_rfl) | (intro f f' hcg; rw [hcg]; kernel_rfl) | (intro f f' hcg; rw [hcg, hcg]; (kernel_rfl; kernel_rfl)) | exact trivial)); (try simp only [Act.put, Act.eval, List.setIfInBounds_toArray, List.set_cons_zero, List.set_cons_succ, Array.getD_eq_getD_getElem?, List.getElem?_toArray, List.getElem?_cons_succ, List.getElem?_cons_zero, Option.getD_some, Nat.reduceAdd, List.nil_append, List.cons_append, En.get])))))
  refine fs_read rfl (fun f => rfl) rfl (fun _ => .agg #[.bool true, .int .u64 sh, .int .u64 sl]) ?_ (fun _ _ _ => rfl) ?_
  · intro f lof w1 Lf HF HK1
    clear HF
    (try simp only [itms, itm, usesOf, readsOf, takesOf, List.find?, Nat.reduceBEq, List.flatMap_cons, List.flatMap_nil, Nat.reduceLT, if_true, if_false, Nat.reduceSub, List.getD_cons_zero, List.getD_cons_succ, List.append_nil, List.cons_append, List.nil_append, List.append_nil] at HK1)
    have hg := HK1.at (.here _)
    clear HK1
    refine run_mid rfl rfl [.bool true, .int .u64 sh, .int .u64 sl] (fun j v hj => ?_) Try.underlying26 rfl (by kernel_rfl)
    rw [cell_blk hg, ← hj]
    rcases j with _ | _ | _ | j
    · rfl
    · rfl
    · rfl
    · cases hj
  (try simp only [Act.put, Act.eval, List.setIfInBounds_toArray, List.set_cons_zero, List.set_cons_succ, Array.getD_eq_getD_getElem?, List.getElem?_toArray, List.getElem?_cons_succ, List.getElem?_cons_zero, Option.getD_some, Nat.reduceAdd, List.nil_append, List.cons_append, En.get])
  refine fs_call rfl (fun f => rfl) 31 _ _ rfl (fun args w => by simp [callFunc, Try.func31]; rfl) (.res (fun _ v it => ∃ a c, v = .slice a 24 c ∧ it = [.sl 5 .u8 a 24 c (H ++ (beB sh 8 ++ beB sl 8))])) ?_ (fun _ _ _ => rfl) ?_
  · intro f lof w1 Lf HF HK1
    (try simp only [itms, itm, usesOf, readsOf, takesOf, List.find?, Nat.reduceBEq, List.flatMap_cons, List.flatMap_nil, Nat.reduceLT, if_true, if_false, Nat.reduceSub, List.getD_cons_zero, List.getD_cons_succ, List.append_nil, List.cons_append, List.nil_append, List.append_nil] at HK1)
    simp only [List.map_toArray, List.map_cons, List.map_nil, Act.eval, Array.getD_eq_getD_getElem?, List.getElem?_toArray, List.getElem?_cons_succ, List.getElem?_cons_zero, Option.getD_some, List.append_nil]
    clear HF
    have q4 := putAddr_own ⟨true, sh, sl⟩ HP.out.src HK1 (by decide)
    refine q4.mono ?_
    rintro e w2 ⟨a, c, rfl, hk⟩
    exact ⟨_, _, rfl, ⟨a, c, rfl, rfl⟩, hk⟩
  (try simp only [Act.put, Act.eval, List.setIfInBounds_toArray, List.set_cons_zero, List.set_cons_succ, Array.getD_eq_getD_getElem?, List.getElem?_toArray, List.getElem?_cons_succ, List.getElem?_cons_zero, Option.getD_some, Nat.reduceAdd, List.nil_append, List.cons_append, En.get])
  (repeat (first | (refine fs_skip rfl (fun f => rfl) ?_; (try simp only [Act.put, Act.eval, List.setIfInBounds_toArray, List.set_cons_zero, List.set_cons_succ, Array.getD_eq_getD_getElem?, List.getElem?_toArray, List.getElem?_cons_succ, List.getElem?_cons_zero, Option.getD_some, Nat.reduceAdd, List.nil_append, List.cons_append, En.get])) | (refine fs_move _ rfl rfl (fun f => rfl) rfl ?_ ?_; ((first | exact fun _ _ _ => rfl | exact fun f f' hcg => hcg _ (by kernel_rfl) | (intro f f' hcg; rw [hcg]; kernel_rfl) | (intro f f' hcg; rw [hcg, hcg]; (kernel_rfl; kernel_rfl)) | exact trivial)); (try simp only [Act.put, Act.eval, List.setIfInBounds_toArray, List.set_cons_zero, List.set_cons_succ, Array.getD_eq_getD_getElem?, List.getElem?_toArray, List.getElem?_cons_succ, List.getElem?_cons_zero, Option.getD_some, Nat.reduceAdd, List.nil_append, List.cons_append, En.get])) | (refine fs_assign _ rfl rfl (fun f => rfl) rfl ?_ ?_; ((first | exact fun _ _ _ => rfl | exact fun f f' hcg => hcg _ (by kernel_rfl) | (intro f f' hcg; rw [hcg]; kernel_rfl) | (intro f f' hcg; rw [hcg, hcg]; (kernel_rfl; kernel_rfl)) | exact trivial)); (try simp only [Act.put, Act.eval, List.setIfInBounds_toArray, List.set_cons_zero, List.set_cons_succ, Array.getD_eq_getD_getElem?, List.getElem?_toArray, List.getElem?_cons_succ, List.getElem?_cons_zero, Option.getD_some, Nat.reduceAdd, List.nil_append, List.cons_append, En.get])) | (fail) | (refine fs_pure rfl (fun f => rfl) rfl ?_ ?_ ?_ ?_; (rotate_left; (intro f w1; (skip); go_simp; (first | done | with_reducible rfl)); ((first | exact fun _ _ _ => rfl | exact fun f f' hcg => hcg _ (by kernel_rfl) | (intro f f' hcg; rw [hcg]; kernel_rfl) | (intro f f' hcg; rw [hcg, hcg]; (kernel_rfl; kernel_rfl)) | exact trivial)); (try simp only [Act.put, Act.eval, List.setIfInBounds_toArray, List.set_cons_zero, List.set_cons_succ, Array.getD_eq_getD_getElem?, List.getElem?_toArray, List.getElem?_cons_succ, List.getElem?_cons_zero, Option.getD_some, Nat.reduceAdd, List.nil_append, List.cons_append, En.get])))))
  refine fs_read rfl (fun f => rfl) rfl (fun _ => .agg #[.bool true, .int .u64 dh, .int .u64 dl]) ?_ (fun _ _ _ => rfl) ?_
  · intro f lof w1 Lf HF HK1
    clear HF
    (try simp only [itms, itm, usesOf, readsOf, takesOf, List.find?, Nat.reduceBEq, List.flatMap_cons, List.flatMap_nil, Nat.reduceLT, if_true, if_false, Nat.reduceSub, List.getD_cons_zero, List.getD_cons_succ, List.append_nil, List.cons_append, List.nil_append, List.append_nil] at HK1)
    have hg := HK1.at (.here _)
    clear HK1
    refine run_mid rfl rfl [.bool true, .int .u64 dh, .int .u64 dl] (fun j v hj => ?_) Try.underlying26 rfl (by kernel_rfl)
    rw [cell_blk hg, ← hj]
    rcases j with _ | _ | _ | j
    · rfl
    · rfl
    · rfl
    · cases hj
  (try simp only [Act.put, Act.eval, List.setIfInBounds_toArray, List.set_cons_zero, List.set_cons_succ, Array.getD_eq_getD_getElem?, List.getElem?_toArray, List.getElem?_cons_succ, List.getElem?_cons_zero, Option.getD_some, Nat.reduceAdd, List.nil_append, List.cons_append, En.get])
  refine fs_call rfl (fun f => rfl) 31 _ _ rfl (fun args w => by simp [callFunc, Try.func31]; rfl) (.res (fun _ v it => ∃ a c, v = .slice a 40 c ∧ it = [.sl 5 .u8 a 40 c (H ++ (beB sh 8 ++ beB sl 8) ++ (beB dh 8 ++ beB dl 8))])) ?_ (fun _ _ _ => rfl) ?_
  · intro f lof w1 Lf HF HK1
    obtain ⟨a5, c5, hv5, hl5⟩ := HF 3 (by kernel_rfl)
    (try simp only [itms, itm, usesOf, readsOf, takesOf, List.find?, Nat.reduceBEq, List.flatMap_cons, List.flatMap_nil, Nat.reduceLT, if_true, if_false, Nat.reduceSub, List.getD_cons_zero, List.getD_cons_succ, List.append_nil, List.cons_append, List.nil_append, hl5] at HK1)
    simp only [List.map_toArray, List.map_cons, List.map_nil, Act.eval, Array.getD_eq_getD_getElem?, List.getElem?_toArray, List.getElem?_cons_succ, List.getElem?_cons_zero, Option.getD_some, hv5]
    clear HF
    have q4 := putAddr_own ⟨true, dh, dl⟩ HP.out.dst HK1 (by decide)
    refine q4.mono ?_
    rintro e w2 ⟨a, c, rfl, hk⟩
    exact ⟨_, _, rfl, ⟨a, c, rfl, rfl⟩, hk⟩
  (try simp only [Act.put, Act.eval, List.setIfInBounds_toArray, List.set_cons_zero, List.set_cons_succ, Array.getD_eq_getD_getElem?, List.getElem?_toArray, List.getElem?_cons_succ, List.getElem?_cons_zero, Option.getD_some, Nat.reduceAdd, List.nil_append, List.cons_append, En.get])
  (repeat (first | (refine fs_skip rfl (fun f => rfl) ?_; (try simp only [Act.put, Act.eval, List.setIfInBounds_toArray, List.set_cons_zero, List.set_cons_succ, Array.getD_eq_getD_getElem?, List.getElem?_toArray, List.getElem?_cons_succ, List.getElem?_cons_zero, Option.getD_some, Nat.reduceAdd, List.nil_append, List.cons_append, En.get])) | (refine fs_move _ rfl rfl (fun f => rfl) rfl ?_ ?_; ((first | exact fun _ _ _ => rfl | exact fun f f' hcg => hcg _ (by kernel_rfl) | (intro f f' hcg; rw [hcg]; kernel_rfl) | (intro f f' hcg; rw [hcg, hcg]; (kernel_rfl; kernel_rfl)) | exact trivial)); (try simp only [Act.put, Act.eval, List.setIfInBounds_toArray, List.set_cons_zero, List.set_cons_succ, Array.getD_eq_getD_getElem?, List.getElem?_toArray, List.getElem?_cons_succ, List.getElem?_cons_zero, Option.getD_some, Nat.reduceAdd, List.nil_append, List.cons_append, En.get])) | (refine fs_assign _ rfl rfl (fun f => rfl) rfl ?_ ?_; ((first | exact fun _ _ _ => rfl | exact fun f f' hcg => hcg _ (by kernel_rfl) | (intro f f' hcg; rw [hcg]; kernel_rfl) | (intro f f' hcg; rw [hcg, hcg]; (kernel_rfl; kernel_rfl)) | exact trivial)); (try simp only [Act.put, Act.eval, List.setIfInBounds_toArray, List.set_cons_zero, List.set_cons_succ, Array.getD_eq_getD_getElem?, List.getElem?_toArray, List.getElem?_cons_succ, List.getElem?_cons_zero, Option.getD_some, Nat.reduceAdd, List.nil_append, List.cons_append, En.get])) | (fail) | (refine fs_pure rfl (fun f => rfl) rfl ?_ ?_ ?_ ?_; (rotate_left; (intro f w1; (skip); go_simp; (first | done | with_reducible rfl)); ((first | exact fun _ _ _ => rfl | exact fun f f' hcg => hcg _ (by kernel_rfl) | (intro f f' hcg; rw [hcg]; kernel_rfl) | (intro f f' hcg; rw [hcg, hcg]; (kernel_rfl; kernel_rfl)) | exact trivial)); (try simp only [Act.put, Act.eval, List.setIfInBounds_toArray, List.set_cons_zero, List.set_cons_succ, Array.getD_eq_getD_getElem?, List.getElem?_toArray, List.getElem?_cons_succ, List.getElem?_cons_zero, Option.getD_some, Nat.reduceAdd, List.nil_append, List.cons_append, En.get])))))
  refine fs_read rfl (fun f => rfl) rfl (fun _ => .slice ad n cp) ?_ (fun _ _ _ => rfl) ?_
  · intro f lof w1 Lf HF HK1
    clear HF
    (try simp only [itms, itm, usesOf, readsOf, takesOf, List.find?, Nat.reduceBEq, List.flatMap_cons, List.flatMap_nil, Nat.reduceLT, if_true, if_false, Nat.reduceSub, List.getD_cons_zero, List.getD_cons_succ, List.append_nil, List.cons_append, List.nil_append, List.append_nil] at HK1)
    have hg := HK1.at (.here _)
    clear HK1
    have hc : ∀ (b : Nat) (cs : Array Value) (T : TypeId) (fr : Nat × Nat) (i : Nat), w1.heap[b]? = some (.cells cs T fr) → w1.cell? ⟨b, i, none⟩ = cs[i]? := fun b cs T fr i h => by simp [World.cell?, h]
    have hc1 := hc _ _ _ _ 13 hg
    clear hc hg
    simp only [List.getElem?_toArray, List.getElem?_cons_succ, List.getElem?_cons_zero] at hc1
    go_simp
  (try simp only [Act.put, Act.eval, List.setIfInBounds_toArray, List.set_cons_zero, List.set_cons_succ, Array.getD_eq_getD_getElem?, List.getElem?_toArray, List.getElem?_cons_succ, List.getElem?_cons_zero, Option.getD_some, Nat.reduceAdd, List.nil_append, List.cons_append, En.get])
  refine fs_list rfl (fun f => rfl) (.res (fun _ v it => ∃ a c, v = .slice a (40 + n) c ∧ it = [.sl 5 .u8 a (40 + n) c y])) (fun f => ⟨_, rfl, Nat.le_of_ble_eq_true rfl⟩) ?_ (fun _ _ _ => rfl) ?_
  · intro f lof w1 Lf HF HK1 Q' hQ
    obtain ⟨a6, c6, hv6, hl6⟩ := HF 6 (by kernel_rfl)
    clear HF
    (try simp only [itms, itm, usesOf, readsOf, takesOf, List.find?, Nat.reduceBEq, List.flatMap_cons, List.flatMap_nil, Nat.reduceLT, if_true, if_false, Nat.reduceSub, List.getD_cons_zero, List.getD_cons_succ, List.append_nil, List.cons_append, List.nil_append, hl6] at HK1)
    have hb := HB.out w1 HK1.grown
    have hs := Bs.src hb
    refine wpList_app_own rfl HK1 _ _ 27 rfl 5 (.int .u8 0) 1 Try.underlying27 (by kernel_rfl) rfl .u8 _ _ _ _ hv6 (.here _) _ n xs rfl hb.1.1 hs (by unfold maxLen; omega) (by omega) ?_
    rw [HY2.out]
    intro a' c' w' hk
    exact hQ _ _ ⟨_, ⟨a', c', rfl, rfl⟩, hk⟩
  (try simp only [Act.put, Act.eval, List.setIfInBounds_toArray, List.set_cons_zero, List.set_cons_succ, Array.getD_eq_getD_getElem?, List.getElem?_toArray, List.getElem?_cons_succ, List.getElem?_cons_zero, Option.getD_some, Nat.reduceAdd, List.nil_append, List.cons_append, En.get])
  (repeat (first | (refine fs_skip rfl (fun f => rfl) ?_; (try simp only [Act.put, Act.eval, List.setIfInBounds_toArray, List.set_cons_zero, List.set_cons_succ, Array.getD_eq_getD_getElem?, List.getElem?_toArray, List.getElem?_cons_succ, List.getElem?_cons_zero, Option.getD_some, Nat.reduceAdd, List.nil_append, List.cons_append, En.get])) | (refine fs_move _ rfl rfl (fun f => rfl) rfl ?_ ?_; ((first | exact fun _ _ _ => rfl | exact fun f f' hcg => hcg _ (by kernel_rfl) | (intro f f' hcg; rw [hcg]; kernel_rfl) | (intro f f' hcg; rw [hcg, hcg]; (kernel_rfl; kernel_rfl)) | exact trivial)); (try simp only [Act.put, Act.eval, List.setIfInBounds_toArray, List.set_cons_zero, List.set_cons_succ, Array.getD_eq_getD_getElem?, List.getElem?_toArray, List.getElem?_cons_succ, List.getElem?_cons_zero, Option.getD_some, Nat.reduceAdd, List.nil_append, List.cons_append, En.get])) | (refine fs_assign _ rfl rfl (fun f => rfl) rfl ?_ ?_; ((first | exact fun _ _ _ => rfl | exact fun f f' hcg => hcg _ (by kernel_rfl) | (intro f f' hcg; rw [hcg]; kernel_rfl) | (intro f f' hcg; rw [hcg, hcg]; (kernel_rfl; kernel_rfl)) | exact trivial)); (try simp only [Act.put, Act.eval, List.setIfInBounds_toArray, List.set_cons_zero, List.set_cons_succ, Array.getD_eq_getD_getElem?, List.getElem?_toArray, List.getElem?_cons_succ, List.getElem?_cons_zero, Option.getD_some, Nat.reduceAdd, List.nil_append, List.cons_append, En.get])) | (fail) | (refine fs_pure rfl (fun f => rfl) rfl ?_ ?_ ?_ ?_; (rotate_left; (intro f w1; (skip); go_simp; (first | done | with_reducible rfl)); ((first | exact fun _ _ _ => rfl | exact fun f f' hcg => hcg _ (by kernel_rfl) | (intro f f' hcg; rw [hcg]; kernel_rfl) | (intro f f' hcg; rw [hcg, hcg]; (kernel_rfl; kernel_rfl)) | exact trivial)); (try simp only [Act.put, Act.eval, List.setIfInBounds_toArray, List.set_cons_zero, List.set_cons_succ, Array.getD_eq_getD_getElem?, List.getElem?_toArray, List.getElem?_cons_succ, List.getElem?_cons_zero, Option.getD_some, Nat.reduceAdd, List.nil_append, List.cons_append, En.get])))))
  refine fs_end ?_
  intro f lof wn HF hk
  obtain ⟨a9, c9, hv, hl⟩ := HF 9 (by decide)
  (try simp only [itms, itm, usesOf, readsOf, takesOf, List.find?, Nat.reduceBEq, List.flatMap_cons, List.flatMap_nil, Nat.reduceLT, if_true, if_false, Nat.reduceSub, List.getD_cons_zero, List.getD_cons_succ, List.append_nil, List.cons_append, List.nil_append, hl] at hk)
  rw [hv]
  generalize f 3 = y3
  generalize f 6 = y6
  generalize f 9 = y9
  clear HF hv hl f lof
  clear HK
  have HK := Lib.hid hk
  clear hk
  go_wp2_with fail
  exact bodyPost_ret (results_tmp2 rfl _ _ _) rfl ⟨a9, c9, rfl, HK.out.get (.here _), HK.out.grown⟩
end Go.Proofs.Ytmankjhopfilaaa
