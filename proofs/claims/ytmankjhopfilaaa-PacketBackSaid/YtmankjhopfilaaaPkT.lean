/- Put of version 4, the reference's. -/
import Derived.Test.YtmankjhopfilaaaPkR
namespace Go.Proofs.Ytmankjhopfilaaa
set_option linter.unusedVariables false
set_option linter.unusedSimpArgs false
open Go.RowKit Go.Proofs.YtmankjhopfilaaaL

theorem set_two (Y : List Int) (u v : Int) (h : 12 ≤ Y.length) : (Y.set 10 u).set 11 v = Y.take 10 ++ [u, v] ++ Y.drop 12 := by
  refine List.ext_getElem? fun i => ?_
  rw [List.append_assoc]
  by_cases h1 : i < 10
  · rw [List.getElem?_append_left (by rw [List.length_take]; omega), List.getElem?_take_of_lt h1, List.getElem?_set_ne (by omega), List.getElem?_set_ne (by omega)]
  · rw [List.getElem?_append_right (by rw [List.length_take]; omega), List.length_take, Nat.min_eq_left (by omega)]
    by_cases h2 : i = 10
    · subst h2
      rw [List.getElem?_set_ne (by omega), List.getElem?_set_self (by omega)]; rfl
    by_cases h3 : i = 11
    · subst h3
      rw [List.getElem?_set_self (by simp; omega)]; rfl
    rw [List.getElem?_set_ne (by omega), List.getElem?_set_ne (by omega), List.getElem?_append_right (by simp; omega), List.getElem?_drop]
    congr 1
    simp; omega
/-- The sum of a head of twenty bytes, whatever is behind it. -/
theorem sumdL_head (Y xs : List Int) (hl : Y.length = 20) (hz : zerd Y = Y) : sumdL (Y ++ xs) = (Y.set 10 (csum Y / 256)).set 11 (csum Y % 256) ++ xs := by
  have hz2 : zerd (Y ++ xs) = Y ++ xs := by
    unfold zerd
    rw [List.set_append_left _ _ (by omega), List.set_append_left _ _ (by rw [List.length_set]; omega)]
    have := hz
    unfold zerd at this
    rw [this]
  have hc := csum_range Y
  rw [sumdL, hz2, List.take_append_of_le_length (by omega), List.take_append_of_le_length (by omega), List.take_of_length_le (Nat.le_of_eq hl), List.drop_append_of_le_length (by omega), set_two _ _ _ (by omega)]
  simp only [beB, List.append_assoc]
  rw [show csum Y / 256 ^ 1 % 256 = csum Y / 256 by omega, show csum Y / 256 ^ 0 % 256 = csum Y % 256 by simp]

set_option maxHeartbeats 8000000 in
set_option maxRecDepth 100000 in
theorem rput4_any (cls id frag ttl proto sh sl dh dl : Int) (ad : Option Addr) (n cp : Nat) (xs : List Int) (w : World) (hp : (⟨false, cls, 0, id, frag, ttl, proto, ⟨false, sh, sl⟩, ⟨false, dh, dl⟩⟩ : Pk).ok) (h1 : (⟨false, sh, sl⟩ : Ad).right = true) (h2 : (⟨false, dh, dl⟩ : Ad).right = true) (hb : (⟨ad, n, cp, xs⟩ : Bs).ok w) (hn : 20 + n ≤ 1400) :
    Calls Try.prog 13 #[(⟨false, cls, 0, id, frag, ttl, proto, ⟨false, sh, sl⟩, ⟨false, dh, dl⟩⟩ : Pk).val (.slice ad n cp)] w fun e w' => ∃ a c, e = .returned (.tuple #[.slice a (20 + n) c, .int .i64 0]) ∧ w'.ownsRow w.heap.size 5 1 (.slice a (20 + n) c) (20 + n) ((put4L (⟨false, cls, 0, id, frag, ttl, proto, ⟨false, sh, sl⟩, ⟨false, dh, dl⟩⟩ : Pk) xs).map (Value.int .u8)) ∧ w.grownBy w' none := by
  have HB := Lib.hid (fun (w' : World) (g : w.grownBy w' none) => Bs.ok_keep hb g)
  have HP := Lib.hid hp
  obtain ⟨y, hy⟩ : ∃ y, y = put4L (⟨false, cls, 0, id, frag, ttl, proto, ⟨false, sh, sl⟩, ⟨false, dh, dl⟩⟩ : Pk) xs := ⟨_, rfl⟩
  have HY := Lib.hid hy
  rw [← hy]
  obtain ⟨hc0, hc1⟩ : 0 ≤ cls ∧ cls < 256 := hp.cls
  obtain ⟨hi0, hi1⟩ : 0 ≤ id ∧ id < 65536 := hp.id
  obtain ⟨hf0, hf1⟩ : 0 ≤ frag ∧ frag < 65536 := hp.frag
  clear hb hp hy
  have hn1 : (n : Int) ≤ 1380 := by omega
  have HK := Lib.hid (own_start w)
  show Calls Try.prog _ #[.agg #[Value.bool false, .int .u8 cls, .int .u32 0, .int .u16 id, .int .u16 frag, .int .u8 ttl, .int .u8 proto, .bool false, .int .u64 sh, .int .u64 sl, .bool false, .int .u64 dh, .int .u64 dl, .slice ad n cp]] w fun e w' => ∃ a c, e = .returned (.tuple #[.slice a (20 + n) c, .int .i64 0]) ∧ w'.ownsRow w.heap.size 5 1 (.slice a (20 + n) c) (20 + n) (y.map (Value.int .u8)) ∧ w.grownBy w' none
  go_enter Try.func13, Try.ntmps13
  go_wp2_with fail
  have hk := own_alloc HK.out (Obj.cells #[Value.bool false, .int .u8 cls, .int .u32 0, .int .u16 id, .int .u16 frag, .int .u8 ttl, .int .u8 proto, .bool false, .int .u64 sh, .int .u64 sl, .bool false, .int .u64 dh, .int .u64 dl, .slice ad n cp] 29 (0, 0))
  obtain ⟨p, hp⟩ : ∃ p, p = w.heap.size := ⟨_, rfl⟩
  rw [← hp] at hk ⊢
  clear hp
  clear HK
  have HK := Lib.hid hk
  clear hk
  refine (rrightAddr_any ⟨false, sh, sl⟩ (w.alloc (Obj.cells #[Value.bool false, .int .u8 cls, .int .u32 0, .int .u16 id, .int .u16 frag, .int .u8 ttl, .int .u8 proto, .bool false, .int .u64 sh, .int .u64 sl, .bool false, .int .u64 dh, .int .u64 dl, .slice ad n cp] 29 (0, 0))) HP.out.src).mono ?_
  rintro e w1 ⟨rfl, hg⟩
  rw [h1]
  have hk := HK.out.grow hg
  clear hg
  clear HK
  have HK := Lib.hid hk
  clear hk
  have hb := HK.out.at (.here _)
  have c0 : w1.cell? ⟨p, 0, none⟩ = some (.bool false) := cell_blk hb 0
  have c1 : w1.cell? ⟨p, 1, none⟩ = some (.int .u8 cls) := cell_blk hb 1
  have c2 : w1.cell? ⟨p, 2, none⟩ = some (.int .u32 0) := cell_blk hb 2
  have c3 : w1.cell? ⟨p, 3, none⟩ = some (.int .u16 id) := cell_blk hb 3
  have c4 : w1.cell? ⟨p, 4, none⟩ = some (.int .u16 frag) := cell_blk hb 4
  have c10 : w1.cell? ⟨p, 10, none⟩ = some (.bool false) := cell_blk hb 10
  have c11 : w1.cell? ⟨p, 11, none⟩ = some (.int .u64 dh) := cell_blk hb 11
  have c12 : w1.cell? ⟨p, 12, none⟩ = some (.int .u64 dl) := cell_blk hb 12
  have c13 : w1.cell? ⟨p, 13, none⟩ = some (.slice ad n cp) := cell_blk hb 13
  clear hb
  go_wp2_with fail
  clear c0 c1 c2 c3 c4 c10 c11 c12 c13
  refine (rrightAddr_any ⟨false, dh, dl⟩ w1 HP.out.dst).mono ?_
  rintro e w2 ⟨rfl, hg⟩
  rw [h2]
  have hk := HK.out.grow hg
  clear hg
  clear HK
  have HK := Lib.hid hk
  clear hk
  have hb := HK.out.at (.here _)
  have c0 : w2.cell? ⟨p, 0, none⟩ = some (.bool false) := cell_blk hb 0
  have c1 : w2.cell? ⟨p, 1, none⟩ = some (.int .u8 cls) := cell_blk hb 1
  have c2 : w2.cell? ⟨p, 2, none⟩ = some (.int .u32 0) := cell_blk hb 2
  have c3 : w2.cell? ⟨p, 3, none⟩ = some (.int .u16 id) := cell_blk hb 3
  have c4 : w2.cell? ⟨p, 4, none⟩ = some (.int .u16 frag) := cell_blk hb 4
  have c10 : w2.cell? ⟨p, 10, none⟩ = some (.bool false) := cell_blk hb 10
  have c11 : w2.cell? ⟨p, 11, none⟩ = some (.int .u64 dh) := cell_blk hb 11
  have c12 : w2.cell? ⟨p, 12, none⟩ = some (.int .u64 dl) := cell_blk hb 12
  have c13 : w2.cell? ⟨p, 13, none⟩ = some (.slice ad n cp) := cell_blk hb 13
  clear hb
  have d13 : (w2.alloc (Obj.cells #[Value.int .u8 69, .int .u8 cls] 5 (0, 0))).cell? ⟨p, 13, none⟩ = some (.slice ad n cp) := cell_blk ((own_alloc HK.out (Obj.cells #[Value.int .u8 69, .int .u8 cls] 5 (0, 0))).at (.next _ (.here _))) 13
  go_wp2_with fail
  clear d13
  clear c0 c1 c2 c3 c4 c10 c11 c12 c13
  have HPC := Lib.hid (show okB 256 [69, cls] from fun x hx => by
    rcases List.mem_cons.1 hx with rfl | hx
    · exact ⟨by decide, by decide⟩
    · rw [List.mem_singleton.1 hx]; exact ⟨hc0, hc1⟩)
  have HPT := Lib.hid (show okB 256 [ttl, proto, 0, 0] from fun x hx => by
    rcases List.mem_cons.1 hx with rfl | hx
    · exact HP.out.ttl
    rcases List.mem_cons.1 hx with rfl | hx
    · exact HP.out.proto
    rcases List.mem_cons.1 hx with rfl | hx
    · exact ⟨by decide, by decide⟩
    · rw [List.mem_singleton.1 hx]; exact ⟨by decide, by decide⟩)
  have HWI := Lib.hid (show IntKind.u64.wrap id = id by rw [IntKind.wrap_u64]; omega)
  have HWF := Lib.hid (show IntKind.u64.wrap frag = frag by rw [IntKind.wrap_u64]; omega)
  have hk := own_blk_sl (own_alloc HK.out (Obj.cells #[Value.int .u8 69, .int .u8 cls] 5 (0, 0))) .u8 2 [69, cls] rfl rfl (by unfold maxLen; decide)
  have q4 := putU_own (20 + (n : Int)) 2 hk (by omega) (by omega) (by decide) (by decide)
  refine q4.mono ?_
  rintro e w3 ⟨a4, c4, rfl, hk⟩
  clear q4
  obtain ⟨W, hW⟩ : ∃ W, W = [69, cls] ++ beB (20 + n) 2 := ⟨_, rfl⟩
  have HW := Lib.hid hW
  have HWO := Lib.hid (show okB 256 W by rw [hW]; exact ok_app HPC.out (ok_beB (20 + n) 2))
  rw [← hW] at hk
  clear hW
  clear HK
  have HK := Lib.hid hk
  clear hk
  go_upto_region 13 with fail
  refine wp_region_sep [[.sl 5 .u8 a4 4 c4 W]] [.blk p (Obj.cells #[Value.bool false, .int .u8 cls, .int .u32 0, .int .u16 id, .int .u16 frag, .int .u8 ttl, .int .u8 proto, .bool false, .int .u64 sh, .int .u64 sl, .bool false, .int .u64 dh, .int .u64 dl, .slice ad n cp] 29 (0, 0))] [(4, [], [10]), (8, [], [4])] [8] 10 (by kernel_rfl) (by kernel_rfl) (w0 := w) HK.out ?_
  (try simp only [Act.put, Act.eval, List.setIfInBounds_toArray, List.set_cons_zero, List.set_cons_succ, Array.getD_eq_getD_getElem?, List.getElem?_toArray, List.getElem?_cons_succ, List.getElem?_cons_zero, Option.getD_some, Nat.reduceAdd, List.nil_append, List.cons_append, En.get])
  (repeat (first | (refine fs_skip rfl (fun f => rfl) ?_; (try simp only [Act.put, Act.eval, List.setIfInBounds_toArray, List.set_cons_zero, List.set_cons_succ, Array.getD_eq_getD_getElem?, List.getElem?_toArray, List.getElem?_cons_succ, List.getElem?_cons_zero, Option.getD_some, Nat.reduceAdd, List.nil_append, List.cons_append, En.get])) | (refine fs_move _ rfl rfl (fun f => rfl) rfl ?_ ?_; ((first | exact fun _ _ _ => rfl | exact fun f f' hcg => hcg _ (by kernel_rfl) | (intro f f' hcg; rw [hcg]; kernel_rfl) | (intro f f' hcg; rw [hcg, hcg]; (kernel_rfl; kernel_rfl)) | exact trivial)); (try simp only [Act.put, Act.eval, List.setIfInBounds_toArray, List.set_cons_zero, List.set_cons_succ, Array.getD_eq_getD_getElem?, List.getElem?_toArray, List.getElem?_cons_succ, List.getElem?_cons_zero, Option.getD_some, Nat.reduceAdd, List.nil_append, List.cons_append, En.get])) | (refine fs_assign _ rfl rfl (fun f => rfl) rfl ?_ ?_; ((first | exact fun _ _ _ => rfl | exact fun f f' hcg => hcg _ (by kernel_rfl) | (intro f f' hcg; rw [hcg]; kernel_rfl) | (intro f f' hcg; rw [hcg, hcg]; (kernel_rfl; kernel_rfl)) | exact trivial)); (try simp only [Act.put, Act.eval, List.setIfInBounds_toArray, List.set_cons_zero, List.set_cons_succ, Array.getD_eq_getD_getElem?, List.getElem?_toArray, List.getElem?_cons_succ, List.getElem?_cons_zero, Option.getD_some, Nat.reduceAdd, List.nil_append, List.cons_append, En.get])) | (fail) | (refine fs_pure rfl (fun f => rfl) rfl ?_ ?_ ?_ ?_; (rotate_left; (intro f w1; (skip); go_simp; (first | done | with_reducible rfl)); ((first | exact fun _ _ _ => rfl | exact fun f f' hcg => hcg _ (by kernel_rfl) | (intro f f' hcg; rw [hcg]; kernel_rfl) | (intro f f' hcg; rw [hcg, hcg]; (kernel_rfl; kernel_rfl)) | exact trivial)); (try simp only [Act.put, Act.eval, List.setIfInBounds_toArray, List.set_cons_zero, List.set_cons_succ, Array.getD_eq_getD_getElem?, List.getElem?_toArray, List.getElem?_cons_succ, List.getElem?_cons_zero, Option.getD_some, Nat.reduceAdd, List.nil_append, List.cons_append, En.get])))))
  refine fs_read rfl (fun f => rfl) rfl (fun _ => .int .u16 id) ?_ (fun _ _ _ => rfl) ?_
  · intro f lof w1 Lf HF HK1
    clear HF
    (try simp only [itms, itm, usesOf, readsOf, takesOf, List.find?, Nat.reduceBEq, List.flatMap_cons, List.flatMap_nil, Nat.reduceLT, if_true, if_false, Nat.reduceSub, List.getD_cons_zero, List.getD_cons_succ, List.append_nil, List.cons_append, List.nil_append, List.append_nil] at HK1)
    have hg := HK1.at (.here _)
    clear HK1
    have hc : ∀ (b : Nat) (cs : Array Value) (T : TypeId) (fr : Nat × Nat) (i : Nat), w1.heap[b]? = some (.cells cs T fr) → w1.cell? ⟨b, i, none⟩ = cs[i]? := fun b cs T fr i h => by simp [World.cell?, h]
    have hc1 := hc _ _ _ _ 3 hg
    clear hc hg
    simp only [List.getElem?_toArray, List.getElem?_cons_succ, List.getElem?_cons_zero] at hc1
    go_simp
  (try simp only [Act.put, Act.eval, List.setIfInBounds_toArray, List.set_cons_zero, List.set_cons_succ, Array.getD_eq_getD_getElem?, List.getElem?_toArray, List.getElem?_cons_succ, List.getElem?_cons_zero, Option.getD_some, Nat.reduceAdd, List.nil_append, List.cons_append, En.get])
  (repeat (first | (refine fs_skip rfl (fun f => rfl) ?_; (try simp only [Act.put, Act.eval, List.setIfInBounds_toArray, List.set_cons_zero, List.set_cons_succ, Array.getD_eq_getD_getElem?, List.getElem?_toArray, List.getElem?_cons_succ, List.getElem?_cons_zero, Option.getD_some, Nat.reduceAdd, List.nil_append, List.cons_append, En.get])) | (refine fs_move _ rfl rfl (fun f => rfl) rfl ?_ ?_; ((first | exact fun _ _ _ => rfl | exact fun f f' hcg => hcg _ (by kernel_rfl) | (intro f f' hcg; rw [hcg]; kernel_rfl) | (intro f f' hcg; rw [hcg, hcg]; (kernel_rfl; kernel_rfl)) | exact trivial)); (try simp only [Act.put, Act.eval, List.setIfInBounds_toArray, List.set_cons_zero, List.set_cons_succ, Array.getD_eq_getD_getElem?, List.getElem?_toArray, List.getElem?_cons_succ, List.getElem?_cons_zero, Option.getD_some, Nat.reduceAdd, List.nil_append, List.cons_append, En.get])) | (refine fs_assign _ rfl rfl (fun f => rfl) rfl ?_ ?_; ((first | exact fun _ _ _ => rfl | exact fun f f' hcg => hcg _ (by kernel_rfl) | (intro f f' hcg; rw [hcg]; kernel_rfl) | (intro f f' hcg; rw [hcg, hcg]; (kernel_rfl; kernel_rfl)) | exact trivial)); (try simp only [Act.put, Act.eval, List.setIfInBounds_toArray, List.set_cons_zero, List.set_cons_succ, Array.getD_eq_getD_getElem?, List.getElem?_toArray, List.getElem?_cons_succ, List.getElem?_cons_zero, Option.getD_some, Nat.reduceAdd, List.nil_append, List.cons_append, En.get])) | (fail) | (refine fs_pure rfl (fun f => rfl) rfl ?_ ?_ ?_ ?_; (rotate_left; (intro f w1; ((have hwn := HWI.out)); go_simp; (first | done | with_reducible rfl)); ((first | exact fun _ _ _ => rfl | exact fun f f' hcg => hcg _ (by kernel_rfl) | (intro f f' hcg; rw [hcg]; kernel_rfl) | (intro f f' hcg; rw [hcg, hcg]; (kernel_rfl; kernel_rfl)) | exact trivial)); (try simp only [Act.put, Act.eval, List.setIfInBounds_toArray, List.set_cons_zero, List.set_cons_succ, Array.getD_eq_getD_getElem?, List.getElem?_toArray, List.getElem?_cons_succ, List.getElem?_cons_zero, Option.getD_some, Nat.reduceAdd, List.nil_append, List.cons_append, En.get])))))
  refine fs_call rfl (fun f => rfl) 30 _ _ rfl (fun args w => by simp [callFunc, Try.func30]; rfl) (.res (fun _ v it => ∃ a c, v = .slice a 6 c ∧ it = [.sl 5 .u8 a 6 c (W ++ beB id 2)])) ?_ (fun _ _ _ => rfl) ?_
  · intro f lof w1 Lf HF HK1
    (try simp only [itms, itm, usesOf, readsOf, takesOf, List.find?, Nat.reduceBEq, List.flatMap_cons, List.flatMap_nil, Nat.reduceLT, if_true, if_false, Nat.reduceSub, List.getD_cons_zero, List.getD_cons_succ, List.append_nil, List.cons_append, List.nil_append, List.append_nil] at HK1)
    simp only [List.map_toArray, List.map_cons, List.map_nil, Act.eval, Array.getD_eq_getD_getElem?, List.getElem?_toArray, List.getElem?_cons_succ, List.getElem?_cons_zero, Option.getD_some, List.append_nil]
    clear HF
    have q4 := putU_own (id) 2 HK1 hi0 (by omega) (by decide) (by decide)
    refine q4.mono ?_
    rintro e w2 ⟨a, c, rfl, hk⟩
    exact ⟨_, _, rfl, ⟨a, c, rfl, rfl⟩, hk⟩
  (try simp only [Act.put, Act.eval, List.setIfInBounds_toArray, List.set_cons_zero, List.set_cons_succ, Array.getD_eq_getD_getElem?, List.getElem?_toArray, List.getElem?_cons_succ, List.getElem?_cons_zero, Option.getD_some, Nat.reduceAdd, List.nil_append, List.cons_append, En.get])
  (repeat (first | (refine fs_skip rfl (fun f => rfl) ?_; (try simp only [Act.put, Act.eval, List.setIfInBounds_toArray, List.set_cons_zero, List.set_cons_succ, Array.getD_eq_getD_getElem?, List.getElem?_toArray, List.getElem?_cons_succ, List.getElem?_cons_zero, Option.getD_some, Nat.reduceAdd, List.nil_append, List.cons_append, En.get])) | (refine fs_move _ rfl rfl (fun f => rfl) rfl ?_ ?_; ((first | exact fun _ _ _ => rfl | exact fun f f' hcg => hcg _ (by kernel_rfl) | (intro f f' hcg; rw [hcg]; kernel_rfl) | (intro f f' hcg; rw [hcg, hcg]; (kernel_rfl; kernel_rfl)) | exact trivial)); (try simp only [Act.put, Act.eval, List.setIfInBounds_toArray, List.set_cons_zero, List.set_cons_succ, Array.getD_eq_getD_getElem?, List.getElem?_toArray, List.getElem?_cons_succ, List.getElem?_cons_zero, Option.getD_some, Nat.reduceAdd, List.nil_append, List.cons_append, En.get])) | (refine fs_assign _ rfl rfl (fun f => rfl) rfl ?_ ?_; ((first | exact fun _ _ _ => rfl | exact fun f f' hcg => hcg _ (by kernel_rfl) | (intro f f' hcg; rw [hcg]; kernel_rfl) | (intro f f' hcg; rw [hcg, hcg]; (kernel_rfl; kernel_rfl)) | exact trivial)); (try simp only [Act.put, Act.eval, List.setIfInBounds_toArray, List.set_cons_zero, List.set_cons_succ, Array.getD_eq_getD_getElem?, List.getElem?_toArray, List.getElem?_cons_succ, List.getElem?_cons_zero, Option.getD_some, Nat.reduceAdd, List.nil_append, List.cons_append, En.get])) | (fail) | (refine fs_pure rfl (fun f => rfl) rfl ?_ ?_ ?_ ?_; (rotate_left; (intro f w1; (skip); go_simp; (first | done | with_reducible rfl)); ((first | exact fun _ _ _ => rfl | exact fun f f' hcg => hcg _ (by kernel_rfl) | (intro f f' hcg; rw [hcg]; kernel_rfl) | (intro f f' hcg; rw [hcg, hcg]; (kernel_rfl; kernel_rfl)) | exact trivial)); (try simp only [Act.put, Act.eval, List.setIfInBounds_toArray, List.set_cons_zero, List.set_cons_succ, Array.getD_eq_getD_getElem?, List.getElem?_toArray, List.getElem?_cons_succ, List.getElem?_cons_zero, Option.getD_some, Nat.reduceAdd, List.nil_append, List.cons_append, En.get])))))
  refine fs_read rfl (fun f => rfl) rfl (fun _ => .int .u16 frag) ?_ (fun _ _ _ => rfl) ?_
  · intro f lof w1 Lf HF HK1
    clear HF
    (try simp only [itms, itm, usesOf, readsOf, takesOf, List.find?, Nat.reduceBEq, List.flatMap_cons, List.flatMap_nil, Nat.reduceLT, if_true, if_false, Nat.reduceSub, List.getD_cons_zero, List.getD_cons_succ, List.append_nil, List.cons_append, List.nil_append, List.append_nil] at HK1)
    have hg := HK1.at (.here _)
    clear HK1
    have hc : ∀ (b : Nat) (cs : Array Value) (T : TypeId) (fr : Nat × Nat) (i : Nat), w1.heap[b]? = some (.cells cs T fr) → w1.cell? ⟨b, i, none⟩ = cs[i]? := fun b cs T fr i h => by simp [World.cell?, h]
    have hc1 := hc _ _ _ _ 4 hg
    clear hc hg
    simp only [List.getElem?_toArray, List.getElem?_cons_succ, List.getElem?_cons_zero] at hc1
    go_simp
  (try simp only [Act.put, Act.eval, List.setIfInBounds_toArray, List.set_cons_zero, List.set_cons_succ, Array.getD_eq_getD_getElem?, List.getElem?_toArray, List.getElem?_cons_succ, List.getElem?_cons_zero, Option.getD_some, Nat.reduceAdd, List.nil_append, List.cons_append, En.get])
  (repeat (first | (refine fs_skip rfl (fun f => rfl) ?_; (try simp only [Act.put, Act.eval, List.setIfInBounds_toArray, List.set_cons_zero, List.set_cons_succ, Array.getD_eq_getD_getElem?, List.getElem?_toArray, List.getElem?_cons_succ, List.getElem?_cons_zero, Option.getD_some, Nat.reduceAdd, List.nil_append, List.cons_append, En.get])) | (refine fs_move _ rfl rfl (fun f => rfl) rfl ?_ ?_; ((first | exact fun _ _ _ => rfl | exact fun f f' hcg => hcg _ (by kernel_rfl) | (intro f f' hcg; rw [hcg]; kernel_rfl) | (intro f f' hcg; rw [hcg, hcg]; (kernel_rfl; kernel_rfl)) | exact trivial)); (try simp only [Act.put, Act.eval, List.setIfInBounds_toArray, List.set_cons_zero, List.set_cons_succ, Array.getD_eq_getD_getElem?, List.getElem?_toArray, List.getElem?_cons_succ, List.getElem?_cons_zero, Option.getD_some, Nat.reduceAdd, List.nil_append, List.cons_append, En.get])) | (refine fs_assign _ rfl rfl (fun f => rfl) rfl ?_ ?_; ((first | exact fun _ _ _ => rfl | exact fun f f' hcg => hcg _ (by kernel_rfl) | (intro f f' hcg; rw [hcg]; kernel_rfl) | (intro f f' hcg; rw [hcg, hcg]; (kernel_rfl; kernel_rfl)) | exact trivial)); (try simp only [Act.put, Act.eval, List.setIfInBounds_toArray, List.set_cons_zero, List.set_cons_succ, Array.getD_eq_getD_getElem?, List.getElem?_toArray, List.getElem?_cons_succ, List.getElem?_cons_zero, Option.getD_some, Nat.reduceAdd, List.nil_append, List.cons_append, En.get])) | (fail) | (refine fs_pure rfl (fun f => rfl) rfl ?_ ?_ ?_ ?_; (rotate_left; (intro f w1; ((have hwn := HWF.out)); go_simp; (first | done | with_reducible rfl)); ((first | exact fun _ _ _ => rfl | exact fun f f' hcg => hcg _ (by kernel_rfl) | (intro f f' hcg; rw [hcg]; kernel_rfl) | (intro f f' hcg; rw [hcg, hcg]; (kernel_rfl; kernel_rfl)) | exact trivial)); (try simp only [Act.put, Act.eval, List.setIfInBounds_toArray, List.set_cons_zero, List.set_cons_succ, Array.getD_eq_getD_getElem?, List.getElem?_toArray, List.getElem?_cons_succ, List.getElem?_cons_zero, Option.getD_some, Nat.reduceAdd, List.nil_append, List.cons_append, En.get])))))
  refine fs_call rfl (fun f => rfl) 30 _ _ rfl (fun args w => by simp [callFunc, Try.func30]; rfl) (.res (fun _ v it => ∃ a c, v = .slice a 8 c ∧ it = [.sl 5 .u8 a 8 c (W ++ beB id 2 ++ beB frag 2)])) ?_ (fun _ _ _ => rfl) ?_
  · intro f lof w1 Lf HF HK1
    obtain ⟨a5, c5, hv5, hl5⟩ := HF 4 (by kernel_rfl)
    (try simp only [itms, itm, usesOf, readsOf, takesOf, List.find?, Nat.reduceBEq, List.flatMap_cons, List.flatMap_nil, Nat.reduceLT, if_true, if_false, Nat.reduceSub, List.getD_cons_zero, List.getD_cons_succ, List.append_nil, List.cons_append, List.nil_append, hl5] at HK1)
    simp only [List.map_toArray, List.map_cons, List.map_nil, Act.eval, Array.getD_eq_getD_getElem?, List.getElem?_toArray, List.getElem?_cons_succ, List.getElem?_cons_zero, Option.getD_some, hv5]
    clear HF
    have q4 := putU_own (frag) 2 HK1 hf0 (by omega) (by decide) (by decide)
    refine q4.mono ?_
    rintro e w2 ⟨a, c, rfl, hk⟩
    exact ⟨_, _, rfl, ⟨a, c, rfl, rfl⟩, hk⟩
  (try simp only [Act.put, Act.eval, List.setIfInBounds_toArray, List.set_cons_zero, List.set_cons_succ, Array.getD_eq_getD_getElem?, List.getElem?_toArray, List.getElem?_cons_succ, List.getElem?_cons_zero, Option.getD_some, Nat.reduceAdd, List.nil_append, List.cons_append, En.get])
  (repeat (first | (refine fs_skip rfl (fun f => rfl) ?_; (try simp only [Act.put, Act.eval, List.setIfInBounds_toArray, List.set_cons_zero, List.set_cons_succ, Array.getD_eq_getD_getElem?, List.getElem?_toArray, List.getElem?_cons_succ, List.getElem?_cons_zero, Option.getD_some, Nat.reduceAdd, List.nil_append, List.cons_append, En.get])) | (refine fs_move _ rfl rfl (fun f => rfl) rfl ?_ ?_; ((first | exact fun _ _ _ => rfl | exact fun f f' hcg => hcg _ (by kernel_rfl) | (intro f f' hcg; rw [hcg]; kernel_rfl) | (intro f f' hcg; rw [hcg, hcg]; (kernel_rfl; kernel_rfl)) | exact trivial)); (try simp only [Act.put, Act.eval, List.setIfInBounds_toArray, List.set_cons_zero, List.set_cons_succ, Array.getD_eq_getD_getElem?, List.getElem?_toArray, List.getElem?_cons_succ, List.getElem?_cons_zero, Option.getD_some, Nat.reduceAdd, List.nil_append, List.cons_append, En.get])) | (refine fs_assign _ rfl rfl (fun f => rfl) rfl ?_ ?_; ((first | exact fun _ _ _ => rfl | exact fun f f' hcg => hcg _ (by kernel_rfl) | (intro f f' hcg; rw [hcg]; kernel_rfl) | (intro f f' hcg; rw [hcg, hcg]; (kernel_rfl; kernel_rfl)) | exact trivial)); (try simp only [Act.put, Act.eval, List.setIfInBounds_toArray, List.set_cons_zero, List.set_cons_succ, Array.getD_eq_getD_getElem?, List.getElem?_toArray, List.getElem?_cons_succ, List.getElem?_cons_zero, Option.getD_some, Nat.reduceAdd, List.nil_append, List.cons_append, En.get])) | (fail) | (refine fs_pure rfl (fun f => rfl) rfl ?_ ?_ ?_ ?_; (rotate_left; (intro f w1; (skip); go_simp; (first | done | with_reducible rfl)); ((first | exact fun _ _ _ => rfl | exact fun f f' hcg => hcg _ (by kernel_rfl) | (intro f f' hcg; rw [hcg]; kernel_rfl) | (intro f f' hcg; rw [hcg, hcg]; (kernel_rfl; kernel_rfl)) | exact trivial)); (try simp only [Act.put, Act.eval, List.setIfInBounds_toArray, List.set_cons_zero, List.set_cons_succ, Array.getD_eq_getD_getElem?, List.getElem?_toArray, List.getElem?_cons_succ, List.getElem?_cons_zero, Option.getD_some, Nat.reduceAdd, List.nil_append, List.cons_append, En.get])))))
  refine fs_end ?_
  intro f lof wn HF hk
  obtain ⟨a8, c8, hv, hl⟩ := HF 8 (by decide)
  (try simp only [itms, itm, usesOf, readsOf, takesOf, List.find?, Nat.reduceBEq, List.flatMap_cons, List.flatMap_nil, Nat.reduceLT, if_true, if_false, Nat.reduceSub, List.getD_cons_zero, List.getD_cons_succ, List.append_nil, List.cons_append, List.nil_append, hl] at hk)
  rw [hv]
  generalize f 4 = y4
  generalize f 8 = y8
  clear HF hv hl f lof
  obtain ⟨V, hV⟩ : ∃ V, V = W ++ beB id 2 ++ beB frag 2 := ⟨_, rfl⟩
  have HV := Lib.hid hV
  have HVO := Lib.hid (show okB 256 V by rw [hV]; exact ok_app (ok_app HWO.out (ok_beB _ _)) (ok_beB _ _))
  rw [← hV] at hk
  clear hV
  clear HK
  have HK := Lib.hid hk
  clear hk
  have hb := HK.out.at (.next _ (.here _))
  have c5 : wn.cell? ⟨p, 5, none⟩ = some (.int .u8 ttl) := cell_blk hb 5
  have c6 : wn.cell? ⟨p, 6, none⟩ = some (.int .u8 proto) := cell_blk hb 6
  clear hb
  have hk := own_alloc HK.out (Obj.cells #[Value.int .u8 ttl, .int .u8 proto, .int .u8 0, .int .u8 0] 5 (0, 0))
  have hs := Bs.src (own_lit hk (xs := [ttl, proto, 0, 0]) (n := 4) (.here _) rfl HPT.out (by decide))
  have HS := Lib.hid hs
  clear hs
  clear HK
  have HK := Lib.hid hk
  clear hk
  go_wp2_with (at_builtin; refine wpList_app_own rfl HK.out _ _ 27 rfl 5 (.int .u8 0) 1 Try.underlying27 (by kernel_rfl) rfl .u8 _ _ _ _ rfl (by first | exact Del.here _ | exact Del.next _ (Del.here _) | exact Del.next _ (Del.next _ (Del.here _)) | exact Del.next _ (Del.next _ (Del.next _ (Del.here _))) | exact Del.next _ (Del.next _ (Del.next _ (Del.next _ (Del.here _)))) | exact Del.next _ (Del.next _ (Del.next _ (Del.next _ (Del.next _ (Del.here _))))) | exact Del.next _ (Del.next _ (Del.next _ (Del.next _ (Del.next _ (Del.next _ (Del.here _)))))) | exact Del.next _ (Del.next _ (Del.next _ (Del.next _ (Del.next _ (Del.next _ (Del.next _ (Del.here _))))))) | exact Del.next _ (Del.next _ (Del.next _ (Del.next _ (Del.next _ (Del.next _ (Del.next _ (Del.next _ (Del.here _)))))))) | exact Del.next _ (Del.next _ (Del.next _ (Del.next _ (Del.next _ (Del.next _ (Del.next _ (Del.next _ (Del.next _ (Del.here _)))))))))) _ 4 [ttl, proto, 0, 0] rfl rfl HS.out (by unfold maxLen; omega) (by omega) ?_)
  intro a12 c12 w4 hk
  clear c5 c6 HS
  obtain ⟨H, hH⟩ : ∃ H, H = V ++ [ttl, proto, 0, 0] := ⟨_, rfl⟩
  have HHO := Lib.hid (show okB 256 H by rw [hH]; exact ok_app HVO.out HPT.out)
  have HHL := Lib.hid (show H = head4 (⟨false, cls, 0, id, frag, ttl, proto, ⟨false, sh, sl⟩, ⟨false, dh, dl⟩⟩ : Pk) n by rw [hH, HV.out, HW.out]; rfl)
  rw [← hH] at hk
  clear hH
  have hk := hk.sub (List.Sublist.cons_cons _ (List.sublist_cons_self _ _))
  clear HK
  have HK := Lib.hid hk
  clear hk
  go_upto_region 15 with fail
  refine wp_region_sep [[.sl 5 .u8 a12 12 c12 H]] [.blk p (Obj.cells #[Value.bool false, .int .u8 cls, .int .u32 0, .int .u16 id, .int .u16 frag, .int .u8 ttl, .int .u8 proto, .bool false, .int .u64 sh, .int .u64 sl, .bool false, .int .u64 dh, .int .u64 dl, .slice ad n cp] 29 (0, 0))] [(3, [], [8]), (6, [], [3])] [6] 8 (by kernel_rfl) (by kernel_rfl) (w0 := w) HK.out ?_
  (try simp only [Act.put, Act.eval, List.setIfInBounds_toArray, List.set_cons_zero, List.set_cons_succ, Array.getD_eq_getD_getElem?, List.getElem?_toArray, List.getElem?_cons_succ, List.getElem?_cons_zero, Option.getD_some, Nat.reduceAdd, List.nil_append, List.cons_append, En.get])
  (repeat (first | (refine fs_skip rfl (fun f => rfl) ?_; (try simp only [Act.put, Act.eval, List.setIfInBounds_toArray, List.set_cons_zero, List.set_cons_succ, Array.getD_eq_getD_getElem?, List.getElem?_toArray, List.getElem?_cons_succ, List.getElem?_cons_zero, Option.getD_some, Nat.reduceAdd, List.nil_append, List.cons_append, En.get])) | (refine fs_move _ rfl rfl (fun f => rfl) rfl ?_ ?_; ((first | exact fun _ _ _ => rfl | exact fun f f' hcg => hcg _ (by kernel_rfl) | (intro f f' hcg; rw [hcg]; kernel_rfl) | (intro f f' hcg; rw [hcg, hcg]; (kernel_rfl; kernel_rfl)) | exact trivial)); (try simp only [Act.put, Act.eval, List.setIfInBounds_toArray, List.set_cons_zero, List.set_cons_succ, Array.getD_eq_getD_getElem?, List.getElem?_toArray, List.getElem?_cons_succ, List.getElem?_cons_zero, Option.getD_some, Nat.reduceAdd, List.nil_append, List.cons_append, En.get])) | (refine fs_assign _ rfl rfl (fun f => rfl) rfl ?_ ?_; ((first | exact fun _ _ _ => rfl | exact fun f f' hcg => hcg _ (by kernel_rfl) | (intro f f' hcg; rw [hcg]; kernel_rfl) | (intro f f' hcg; rw [hcg, hcg]; (kernel_rfl; kernel_rfl)) | exact trivial)); (try simp only [Act.put, Act.eval, List.setIfInBounds_toArray, List.set_cons_zero, List.set_cons_succ, Array.getD_eq_getD_getElem?, List.getElem?_toArray, List.getElem?_cons_succ, List.getElem?_cons_zero, Option.getD_some, Nat.reduceAdd, List.nil_append, List.cons_append, En.get])) | (fail) | (refine fs_pure rfl (fun f => rfl) rfl ?_ ?_ ?_ ?_; (rotate_left; (intro f w1; (skip); go_simp; (first | done | with_reducible rfl)); ((first | exact fun _ _ _ => rfl | exact fun f f' hcg => hcg _ (by kernel_rfl) | (intro f f' hcg; rw [hcg]; kernel_rfl) | (intro f f' hcg; rw [hcg, hcg]; (kernel_rfl; kernel_rfl)) | exact trivial)); (try simp only [Act.put, Act.eval, List.setIfInBounds_toArray, List.set_cons_zero, List.set_cons_succ, Array.getD_eq_getD_getElem?, List.getElem?_toArray, List.getElem?_cons_succ, List.getElem?_cons_zero, Option.getD_some, Nat.reduceAdd, List.nil_append, List.cons_append, En.get])))))
  refine fs_read rfl (fun f => rfl) rfl (fun _ => .agg #[.bool false, .int .u64 sh, .int .u64 sl]) ?_ (fun _ _ _ => rfl) ?_
  · intro f lof w1 Lf HF HK1
    clear HF
    (try simp only [itms, itm, usesOf, readsOf, takesOf, List.find?, Nat.reduceBEq, List.flatMap_cons, List.flatMap_nil, Nat.reduceLT, if_true, if_false, Nat.reduceSub, List.getD_cons_zero, List.getD_cons_succ, List.append_nil, List.cons_append, List.nil_append, List.append_nil] at HK1)
    have hg := HK1.at (.here _)
    clear HK1
    refine run_mid rfl rfl [.bool false, .int .u64 sh, .int .u64 sl] (fun j v hj => ?_) Try.underlying26 rfl (by kernel_rfl)
    rw [cell_blk hg, ← hj]
    rcases j with _ | _ | _ | j
    · rfl
    · rfl
    · rfl
    · cases hj
  (try simp only [Act.put, Act.eval, List.setIfInBounds_toArray, List.set_cons_zero, List.set_cons_succ, Array.getD_eq_getD_getElem?, List.getElem?_toArray, List.getElem?_cons_succ, List.getElem?_cons_zero, Option.getD_some, Nat.reduceAdd, List.nil_append, List.cons_append, En.get])
  refine fs_call rfl (fun f => rfl) 31 _ _ rfl (fun args w => by simp [callFunc, Try.func31]; rfl) (.res (fun _ v it => ∃ a c, v = .slice a 16 c ∧ it = [.sl 5 .u8 a 16 c (H ++ beB (sh / 4294967296) 4)])) ?_ (fun _ _ _ => rfl) ?_
  · intro f lof w1 Lf HF HK1
    (try simp only [itms, itm, usesOf, readsOf, takesOf, List.find?, Nat.reduceBEq, List.flatMap_cons, List.flatMap_nil, Nat.reduceLT, if_true, if_false, Nat.reduceSub, List.getD_cons_zero, List.getD_cons_succ, List.append_nil, List.cons_append, List.nil_append, List.append_nil] at HK1)
    simp only [List.map_toArray, List.map_cons, List.map_nil, Act.eval, Array.getD_eq_getD_getElem?, List.getElem?_toArray, List.getElem?_cons_succ, List.getElem?_cons_zero, Option.getD_some, List.append_nil]
    clear HF
    have q4 := putAddr_own ⟨false, sh, sl⟩ HP.out.src HK1 (by decide)
    refine q4.mono ?_
    rintro e w2 ⟨a, c, rfl, hk⟩
    exact ⟨_, _, rfl, ⟨a, c, rfl, rfl⟩, hk⟩
  (try simp only [Act.put, Act.eval, List.setIfInBounds_toArray, List.set_cons_zero, List.set_cons_succ, Array.getD_eq_getD_getElem?, List.getElem?_toArray, List.getElem?_cons_succ, List.getElem?_cons_zero, Option.getD_some, Nat.reduceAdd, List.nil_append, List.cons_append, En.get])
  (repeat (first | (refine fs_skip rfl (fun f => rfl) ?_; (try simp only [Act.put, Act.eval, List.setIfInBounds_toArray, List.set_cons_zero, List.set_cons_succ, Array.getD_eq_getD_getElem?, List.getElem?_toArray, List.getElem?_cons_succ, List.getElem?_cons_zero, Option.getD_some, Nat.reduceAdd, List.nil_append, List.cons_append, En.get])) | (refine fs_move _ rfl rfl (fun f => rfl) rfl ?_ ?_; ((first | exact fun _ _ _ => rfl | exact fun f f' hcg => hcg _ (by kernel_rfl) | (intro f f' hcg; rw [hcg]; kernel_rfl) | (intro f f' hcg; rw [hcg, hcg]; (kernel_rfl; kernel_rfl)) | exact trivial)); (try simp only [Act.put, Act.eval, List.setIfInBounds_toArray, List.set_cons_zero, List.set_cons_succ, Array.getD_eq_getD_getElem?, List.getElem?_toArray, List.getElem?_cons_succ, List.getElem?_cons_zero, Option.getD_some, Nat.reduceAdd, List.nil_append, List.cons_append, En.get])) | (refine fs_assign _ rfl rfl (fun f => rfl) rfl ?_ ?_; ((first | exact fun _ _ _ => rfl | exact fun f f' hcg => hcg _ (by kernel_rfl) | (intro f f' hcg; rw [hcg]; kernel_rfl) | (intro f f' hcg; rw [hcg, hcg]; (kernel_rfl; kernel_rfl)) | exact trivial)); (try simp only [Act.put, Act.eval, List.setIfInBounds_toArray, List.set_cons_zero, List.set_cons_succ, Array.getD_eq_getD_getElem?, List.getElem?_toArray, List.getElem?_cons_succ, List.getElem?_cons_zero, Option.getD_some, Nat.reduceAdd, List.nil_append, List.cons_append, En.get])) | (fail) | (refine fs_pure rfl (fun f => rfl) rfl ?_ ?_ ?_ ?_; (rotate_left; (intro f w1; (skip); go_simp; (first | done | with_reducible rfl)); ((first | exact fun _ _ _ => rfl | exact fun f f' hcg => hcg _ (by kernel_rfl) | (intro f f' hcg; rw [hcg]; kernel_rfl) | (intro f f' hcg; rw [hcg, hcg]; (kernel_rfl; kernel_rfl)) | exact trivial)); (try simp only [Act.put, Act.eval, List.setIfInBounds_toArray, List.set_cons_zero, List.set_cons_succ, Array.getD_eq_getD_getElem?, List.getElem?_toArray, List.getElem?_cons_succ, List.getElem?_cons_zero, Option.getD_some, Nat.reduceAdd, List.nil_append, List.cons_append, En.get])))))
  refine fs_read rfl (fun f => rfl) rfl (fun _ => .agg #[.bool false, .int .u64 dh, .int .u64 dl]) ?_ (fun _ _ _ => rfl) ?_
  · intro f lof w1 Lf HF HK1
    clear HF
    (try simp only [itms, itm, usesOf, readsOf, takesOf, List.find?, Nat.reduceBEq, List.flatMap_cons, List.flatMap_nil, Nat.reduceLT, if_true, if_false, Nat.reduceSub, List.getD_cons_zero, List.getD_cons_succ, List.append_nil, List.cons_append, List.nil_append, List.append_nil] at HK1)
    have hg := HK1.at (.here _)
    clear HK1
    refine run_mid rfl rfl [.bool false, .int .u64 dh, .int .u64 dl] (fun j v hj => ?_) Try.underlying26 rfl (by kernel_rfl)
    rw [cell_blk hg, ← hj]
    rcases j with _ | _ | _ | j
    · rfl
    · rfl
    · rfl
    · cases hj
  (try simp only [Act.put, Act.eval, List.setIfInBounds_toArray, List.set_cons_zero, List.set_cons_succ, Array.getD_eq_getD_getElem?, List.getElem?_toArray, List.getElem?_cons_succ, List.getElem?_cons_zero, Option.getD_some, Nat.reduceAdd, List.nil_append, List.cons_append, En.get])
  refine fs_call rfl (fun f => rfl) 31 _ _ rfl (fun args w => by simp [callFunc, Try.func31]; rfl) (.res (fun _ v it => ∃ a c, v = .slice a 20 c ∧ it = [.sl 5 .u8 a 20 c (H ++ beB (sh / 4294967296) 4 ++ beB (dh / 4294967296) 4)])) ?_ (fun _ _ _ => rfl) ?_
  · intro f lof w1 Lf HF HK1
    obtain ⟨a5, c5, hv5, hl5⟩ := HF 3 (by kernel_rfl)
    (try simp only [itms, itm, usesOf, readsOf, takesOf, List.find?, Nat.reduceBEq, List.flatMap_cons, List.flatMap_nil, Nat.reduceLT, if_true, if_false, Nat.reduceSub, List.getD_cons_zero, List.getD_cons_succ, List.append_nil, List.cons_append, List.nil_append, hl5] at HK1)
    simp only [List.map_toArray, List.map_cons, List.map_nil, Act.eval, Array.getD_eq_getD_getElem?, List.getElem?_toArray, List.getElem?_cons_succ, List.getElem?_cons_zero, Option.getD_some, hv5]
    clear HF
    have q4 := putAddr_own ⟨false, dh, dl⟩ HP.out.dst HK1 (by decide)
    refine q4.mono ?_
    rintro e w2 ⟨a, c, rfl, hk⟩
    exact ⟨_, _, rfl, ⟨a, c, rfl, rfl⟩, hk⟩
  (try simp only [Act.put, Act.eval, List.setIfInBounds_toArray, List.set_cons_zero, List.set_cons_succ, Array.getD_eq_getD_getElem?, List.getElem?_toArray, List.getElem?_cons_succ, List.getElem?_cons_zero, Option.getD_some, Nat.reduceAdd, List.nil_append, List.cons_append, En.get])
  (repeat (first | (refine fs_skip rfl (fun f => rfl) ?_; (try simp only [Act.put, Act.eval, List.setIfInBounds_toArray, List.set_cons_zero, List.set_cons_succ, Array.getD_eq_getD_getElem?, List.getElem?_toArray, List.getElem?_cons_succ, List.getElem?_cons_zero, Option.getD_some, Nat.reduceAdd, List.nil_append, List.cons_append, En.get])) | (refine fs_move _ rfl rfl (fun f => rfl) rfl ?_ ?_; ((first | exact fun _ _ _ => rfl | exact fun f f' hcg => hcg _ (by kernel_rfl) | (intro f f' hcg; rw [hcg]; kernel_rfl) | (intro f f' hcg; rw [hcg, hcg]; (kernel_rfl; kernel_rfl)) | exact trivial)); (try simp only [Act.put, Act.eval, List.setIfInBounds_toArray, List.set_cons_zero, List.set_cons_succ, Array.getD_eq_getD_getElem?, List.getElem?_toArray, List.getElem?_cons_succ, List.getElem?_cons_zero, Option.getD_some, Nat.reduceAdd, List.nil_append, List.cons_append, En.get])) | (refine fs_assign _ rfl rfl (fun f => rfl) rfl ?_ ?_; ((first | exact fun _ _ _ => rfl | exact fun f f' hcg => hcg _ (by kernel_rfl) | (intro f f' hcg; rw [hcg]; kernel_rfl) | (intro f f' hcg; rw [hcg, hcg]; (kernel_rfl; kernel_rfl)) | exact trivial)); (try simp only [Act.put, Act.eval, List.setIfInBounds_toArray, List.set_cons_zero, List.set_cons_succ, Array.getD_eq_getD_getElem?, List.getElem?_toArray, List.getElem?_cons_succ, List.getElem?_cons_zero, Option.getD_some, Nat.reduceAdd, List.nil_append, List.cons_append, En.get])) | (fail) | (refine fs_pure rfl (fun f => rfl) rfl ?_ ?_ ?_ ?_; (rotate_left; (intro f w1; (skip); go_simp; (first | done | with_reducible rfl)); ((first | exact fun _ _ _ => rfl | exact fun f f' hcg => hcg _ (by kernel_rfl) | (intro f f' hcg; rw [hcg]; kernel_rfl) | (intro f f' hcg; rw [hcg, hcg]; (kernel_rfl; kernel_rfl)) | exact trivial)); (try simp only [Act.put, Act.eval, List.setIfInBounds_toArray, List.set_cons_zero, List.set_cons_succ, Array.getD_eq_getD_getElem?, List.getElem?_toArray, List.getElem?_cons_succ, List.getElem?_cons_zero, Option.getD_some, Nat.reduceAdd, List.nil_append, List.cons_append, En.get])))))
  refine fs_end ?_
  intro f lof wn HF hk
  obtain ⟨a9, c9, hv, hl⟩ := HF 6 (by decide)
  (try simp only [itms, itm, usesOf, readsOf, takesOf, List.find?, Nat.reduceBEq, List.flatMap_cons, List.flatMap_nil, Nat.reduceLT, if_true, if_false, Nat.reduceSub, List.getD_cons_zero, List.getD_cons_succ, List.append_nil, List.cons_append, List.nil_append, hl] at hk)
  rw [hv]
  generalize f 3 = z3
  generalize f 6 = z6
  clear HF hv hl f lof
  obtain ⟨Y, hY⟩ : ∃ Y, Y = H ++ beB (sh / 4294967296) 4 ++ beB (dh / 4294967296) 4 := ⟨_, rfl⟩
  have HYO := Lib.hid (show okB 256 Y by rw [hY]; exact ok_app (ok_app HHO.out (ok_beB _ _)) (ok_beB _ _))
  rw [← hY] at hk
  obtain ⟨S, hS⟩ : ∃ S, S = csum Y := ⟨_, rfl⟩
  have HSS := Lib.hid hS
  obtain ⟨hs0, hs1⟩ : 0 ≤ S ∧ S ≤ 65535 := by rw [hS]; exact csum_range _
  have HYL := Lib.hid (show Y.length = 20 by rw [hY, HHL.out]; simp [head4, length_beB])
  have HYY := Lib.hid (show (Y.set 10 (S / 256)).set 11 (S % 256) ++ xs = y by
    rw [HY.out, put4L, (HB.out w (grown_refl _ _)).1.1, ← HHL.out, hS]
    rw [show H ++ (((⟨false, cls, 0, id, frag, ttl, proto, ⟨false, sh, sl⟩, ⟨false, dh, dl⟩⟩ : Pk)).src.bytes ++ (((⟨false, cls, 0, id, frag, ttl, proto, ⟨false, sh, sl⟩, ⟨false, dh, dl⟩⟩ : Pk)).dst.bytes ++ xs)) = Y ++ xs by rw [hY]; simp only [List.append_assoc]; rfl]
    refine (sumdL_head Y xs HYL.out ?_).symm
    rw [hY, HHL.out]
    rfl)
  clear hY hS
  clear HK
  have HK := Lib.hid hk
  clear hk
  go_wp2_with fail
  refine (rsum_any a9 20 c9 Y _ (HK.out.rdsl (.here _)) HYO.out (by decide)).mono ?_
  rintro e w5 ⟨rfl, rfl⟩
  rw [← HSS.out]
  obtain ⟨g9, rfl, hcb⟩ := HK.out.addr (.here _) (by decide)
  have h10 : IntKind.u8.wrap (S / 256) = S / 256 := by rw [IntKind.wrap_u8]; omega
  have h11 : IntKind.u8.wrap S = S % 256 := by rw [IntKind.wrap_u8]
  go_upto_region 18 with (first | (refine wpList_put_sl rfl HK.out _ _ _ rfl _ _ _ _ rfl rfl _ _ _ _ (by first | exact Upd.here _ | exact Upd.next _ (Upd.here _) | exact Upd.next _ (Upd.next _ (Upd.here _)) | exact Upd.next _ (Upd.next _ (Upd.next _ (Upd.here _))) | exact Upd.next _ (Upd.next _ (Upd.next _ (Upd.next _ (Upd.here _)))) | exact Upd.next _ (Upd.next _ (Upd.next _ (Upd.next _ (Upd.next _ (Upd.here _))))) | exact Upd.next _ (Upd.next _ (Upd.next _ (Upd.next _ (Upd.next _ (Upd.next _ (Upd.here _)))))) | exact Upd.next _ (Upd.next _ (Upd.next _ (Upd.next _ (Upd.next _ (Upd.next _ (Upd.next _ (Upd.here _))))))) | exact Upd.next _ (Upd.next _ (Upd.next _ (Upd.next _ (Upd.next _ (Upd.next _ (Upd.next _ (Upd.next _ (Upd.here _)))))))) | exact Upd.next _ (Upd.next _ (Upd.next _ (Upd.next _ (Upd.next _ (Upd.next _ (Upd.next _ (Upd.next _ (Upd.next _ (Upd.here _)))))))))) (by omega) (by kernel_rfl) ?_; (intro wn hkn; have HKN := Lib.hid hkn; clear hkn; clear HK; have HK := HKN; clear HKN)))
  have hb := HK.out.at (.next _ (.here _))
  have c13 : _ = some (Value.slice ad n cp) := cell_blk hb 13
  have HXL := Lib.hid (HB.out _ HK.out.grown).1.1
  have HS := Lib.hid (Bs.src (HB.out _ HK.out.grown))
  clear hb h10 h11
  go_wp2_with (at_builtin; refine wpList_app_own rfl HK.out _ _ 27 rfl 5 (.int .u8 0) 1 Try.underlying27 (by kernel_rfl) rfl .u8 _ _ _ _ rfl (by first | exact Del.here _ | exact Del.next _ (Del.here _) | exact Del.next _ (Del.next _ (Del.here _)) | exact Del.next _ (Del.next _ (Del.next _ (Del.here _))) | exact Del.next _ (Del.next _ (Del.next _ (Del.next _ (Del.here _)))) | exact Del.next _ (Del.next _ (Del.next _ (Del.next _ (Del.next _ (Del.here _))))) | exact Del.next _ (Del.next _ (Del.next _ (Del.next _ (Del.next _ (Del.next _ (Del.here _)))))) | exact Del.next _ (Del.next _ (Del.next _ (Del.next _ (Del.next _ (Del.next _ (Del.next _ (Del.here _))))))) | exact Del.next _ (Del.next _ (Del.next _ (Del.next _ (Del.next _ (Del.next _ (Del.next _ (Del.next _ (Del.here _)))))))) | exact Del.next _ (Del.next _ (Del.next _ (Del.next _ (Del.next _ (Del.next _ (Del.next _ (Del.next _ (Del.next _ (Del.here _)))))))))) _ n xs rfl HXL.out HS.out (by unfold maxLen; omega) (by omega) ?_)
  intro a13 c13' w6 hk
  rw [HYY.out] at hk
  clear HK
  have HK := Lib.hid hk
  clear hk
  go_wp2_with fail
  exact bodyPost_ret (results_tmp2 rfl _ _ _) rfl ⟨a13, c13', rfl, HK.out.get (.here _), HK.out.grown⟩
end Go.Proofs.Ytmankjhopfilaaa
