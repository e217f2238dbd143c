/- Addresses read and put. -/
import Derived.Test.YtmankjhopfilaaaPkD
namespace Go.Proofs.Ytmankjhopfilaaa
set_option linter.unusedVariables false
set_option linter.unusedSimpArgs false
open Go.RowKit Go.Proofs.YtmankjhopfilaaaL

def ad4 (xs : List Int) : Ad := ⟨false, beV (xs.take 4) * 4294967296, 0⟩
def ad6 (xs : List Int) : Ad := ⟨true, beV (xs.take 8), beV ((xs.drop 8).take 8)⟩

set_option maxHeartbeats 8000000 in
set_option maxRecDepth 100000 in
theorem read4_any (a : Option Addr) (c : Nat) (xs : List Int) (w : World) (h : Rd .u8 w a 4 xs) (ho : okB 256 xs) :
    Calls Try.prog 39 #[.slice a 4 c] w fun e w' => e = .returned (ad4 xs).val ∧ w.grownBy w' none := by
  have HX := Lib.hid h
  have HO := Lib.hid ho
  have hr := beV_range 4 xs h.1 ho
  obtain ⟨r0, r1⟩ := hr
  obtain ⟨v, hv⟩ : ∃ v, v = beV xs := ⟨_, rfl⟩
  have HV := Lib.hid hv
  rw [ad4, List.take_of_length_le (Nat.le_of_eq h.1), ← hv]
  rw [← hv] at r0 r1
  have r1 : v < 4294967296 := r1
  clear hv h ho
  show Calls Try.prog _ #[.slice a 4 c] w fun e w' => e = .returned (.agg #[.bool false, .int .u64 (v * 4294967296), .int .u64 0]) ∧ w.grownBy w' none
  go_enter Try.func39, Try.ntmps39
  go_wp2_with fail
  have q4 := value_any a 4 c xs (w.alloc (Obj.cells #[Value.bool false, Value.int .u64 0, Value.int .u64 0] 26 (0, 0))) (HX.out.kept (World.grownBy_alloc _ _ _)) HO.out (by decide)
  rw [← HV.out] at q4
  refine q4.mono ?_
  rintro e w1 ⟨rfl, rfl⟩
  clear q4
  go_wp2_with fail
  exact bodyPost_ret (results_cell_row rfl _ _ w.heap.size _ _ _ _ rfl (alloc_at _ _ rfl) Try.underlying26 rfl (by kernel_rfl)) rfl ⟨rfl, World.grownBy_alloc _ _ _⟩

set_option maxHeartbeats 8000000 in
set_option maxRecDepth 100000 in
theorem putAddr_own {w0 : World} {L : List It} {a0 : Option Addr} {j0 c0 : Nat} {xs : List Int} (A : Ad) {w : World} (hA : A.ok) (hk : Own w0 w (.sl 5 .u8 a0 j0 c0 xs :: L)) (hj : j0 ≤ 2000) :
    Calls Try.prog 31 #[.slice a0 j0 c0, A.val] w fun e w' => ∃ a c, e = .returned (.slice a (j0 + A.len) c) ∧ Own w0 w' (.sl 5 .u8 a (j0 + A.len) c (xs ++ A.bytes) :: L) := by
  obtain ⟨v6, hi, lo⟩ := A
  obtain ⟨h0, h1, l0, l1⟩ := hA
  have h0' : 0 ≤ hi := h0
  have h1' : hi < 18446744073709551616 := h1
  have l0' : 0 ≤ lo := l0
  have l1' : lo < 18446744073709551616 := l1
  clear h0 h1 l0 l1
  have HK := Lib.hid hk
  clear hk
  cases v6
  · show Calls Try.prog _ #[.slice a0 j0 c0, .agg #[.bool false, .int .u64 hi, .int .u64 lo]] w fun e w' => ∃ a c, e = .returned (.slice a (j0 + 4) c) ∧ Own w0 w' (.sl 5 .u8 a (j0 + 4) c (xs ++ beB (hi / 4294967296) 4) :: L)
    go_enter Try.func31, Try.ntmps31
    go_wp2_with fail
    have hk := (own_alloc HK.out (Obj.cells #[Value.bool false, Value.int IntKind.u64 hi, Value.int IntKind.u64 lo] 26 (0, 0))).front (.next _ (.here _))
    have q4 := putU_own (hi / 4294967296) 4 hk (by omega) (by omega) (by decide) (by omega)
    refine q4.mono ?_
    rintro e w1 ⟨a, c, rfl, hk⟩
    clear q4
    have hk := hk.sub (List.Sublist.cons_cons _ (List.sublist_cons_self _ _))
    clear HK
    have HK := Lib.hid hk
    clear hk
    go_wp2_with fail
    exact bodyPost_ret (results_tmp rfl _ _ _) rfl ⟨_, _, rfl, HK.out⟩
  · show Calls Try.prog _ #[.slice a0 j0 c0, .agg #[.bool true, .int .u64 hi, .int .u64 lo]] w fun e w' => ∃ a c, e = .returned (.slice a (j0 + 16) c) ∧ Own w0 w' (.sl 5 .u8 a (j0 + 16) c (xs ++ (beB hi 8 ++ beB lo 8)) :: L)
    go_enter Try.func31, Try.ntmps31
    go_upto_region 2 with fail
    have hk := own_alloc HK.out (Obj.cells #[Value.bool true, Value.int IntKind.u64 hi, Value.int IntKind.u64 lo] 26 (0, 0))
    obtain ⟨p, hp⟩ : ∃ p, p = w.heap.size := ⟨_, rfl⟩
    rw [← hp] at hk ⊢
    clear hp
    clear HK
    have HK := Lib.hid hk
    clear hk
    refine wp_region_sep [[.sl 5 .u8 a0 j0 c0 xs]] (.blk p (Obj.cells #[Value.bool true, Value.int IntKind.u64 hi, Value.int IntKind.u64 lo] 26 (0, 0)) :: L) [(3, [], [8]), (6, [], [3])] [6] 8 (by kernel_rfl) (by kernel_rfl) (w0 := w0) (HK.out.front (.next _ (.here _))) ?_
    (try simp only [Act.put, Act.eval, List.setIfInBounds_toArray, List.set_cons_zero, List.set_cons_succ, Array.getD_eq_getD_getElem?, List.getElem?_toArray, List.getElem?_cons_succ, List.getElem?_cons_zero, Option.getD_some, Nat.reduceAdd, List.nil_append, List.cons_append, En.get])
    (repeat (first | (refine fs_skip rfl (fun f => rfl) ?_; (try simp only [Act.put, Act.eval, List.setIfInBounds_toArray, List.set_cons_zero, List.set_cons_succ, Array.getD_eq_getD_getElem?, List.getElem?_toArray, List.getElem?_cons_succ, List.getElem?_cons_zero, Option.getD_some, Nat.reduceAdd, List.nil_append, List.cons_append, En.get])) | (refine fs_move _ rfl rfl (fun f => rfl) rfl ?_ ?_; ((first | exact fun _ _ _ => rfl | exact fun f f' hcg => hcg _ (by kernel_rfl) | (intro f f' hcg; rw [hcg]; kernel_rfl) | (intro f f' hcg; rw [hcg, hcg]; (kernel_rfl; kernel_rfl)) | exact trivial)); (try simp only [Act.put, Act.eval, List.setIfInBounds_toArray, List.set_cons_zero, List.set_cons_succ, Array.getD_eq_getD_getElem?, List.getElem?_toArray, List.getElem?_cons_succ, List.getElem?_cons_zero, Option.getD_some, Nat.reduceAdd, List.nil_append, List.cons_append, En.get])) | (refine fs_assign _ rfl rfl (fun f => rfl) rfl ?_ ?_; ((first | exact fun _ _ _ => rfl | exact fun f f' hcg => hcg _ (by kernel_rfl) | (intro f f' hcg; rw [hcg]; kernel_rfl) | (intro f f' hcg; rw [hcg, hcg]; (kernel_rfl; kernel_rfl)) | exact trivial)); (try simp only [Act.put, Act.eval, List.setIfInBounds_toArray, List.set_cons_zero, List.set_cons_succ, Array.getD_eq_getD_getElem?, List.getElem?_toArray, List.getElem?_cons_succ, List.getElem?_cons_zero, Option.getD_some, Nat.reduceAdd, List.nil_append, List.cons_append, En.get])) | (fail) | (refine fs_pure rfl (fun f => rfl) rfl ?_ ?_ ?_ ?_; (rotate_left; (intro f w1; (skip); go_simp; (first | done | with_reducible rfl)); ((first | exact fun _ _ _ => rfl | exact fun f f' hcg => hcg _ (by kernel_rfl) | (intro f f' hcg; rw [hcg]; kernel_rfl) | (intro f f' hcg; rw [hcg, hcg]; (kernel_rfl; kernel_rfl)) | exact trivial)); (try simp only [Act.put, Act.eval, List.setIfInBounds_toArray, List.set_cons_zero, List.set_cons_succ, Array.getD_eq_getD_getElem?, List.getElem?_toArray, List.getElem?_cons_succ, List.getElem?_cons_zero, Option.getD_some, Nat.reduceAdd, List.nil_append, List.cons_append, En.get])))))
    refine fs_read rfl (fun f => rfl) rfl (fun _ => .int .u64 hi) ?_ (fun _ _ _ => rfl) ?_
    · intro f lof w1 Lf HF HK1
      clear HF
      (try simp only [itms, itm, usesOf, readsOf, takesOf, List.find?, Nat.reduceBEq, List.flatMap_cons, List.flatMap_nil, Nat.reduceLT, if_true, if_false, Nat.reduceSub, List.getD_cons_zero, List.getD_cons_succ, List.append_nil, List.cons_append, List.nil_append, List.append_nil] at HK1)
      have hg := HK1.at (.here _)
      clear HK1
      have hc : ∀ (b : Nat) (cs : Array Value) (T : TypeId) (fr : Nat × Nat) (i : Nat), w1.heap[b]? = some (.cells cs T fr) → w1.cell? ⟨b, i, none⟩ = cs[i]? := fun b cs T fr i h => by simp [World.cell?, h]
      have hc1 := hc _ _ _ _ 1 hg
      clear hc hg
      simp only [List.getElem?_toArray, List.getElem?_cons_succ, List.getElem?_cons_zero] at hc1
      go_simp
    (try simp only [Act.put, Act.eval, List.setIfInBounds_toArray, List.set_cons_zero, List.set_cons_succ, Array.getD_eq_getD_getElem?, List.getElem?_toArray, List.getElem?_cons_succ, List.getElem?_cons_zero, Option.getD_some, Nat.reduceAdd, List.nil_append, List.cons_append, En.get])
    refine fs_call rfl (fun f => rfl) 30 _ _ rfl (fun args w => by simp [callFunc, Try.func30]; rfl) (.res (fun _ v it => ∃ a c, v = .slice a (j0 + 8) c ∧ it = [.sl 5 .u8 a (j0 + 8) c (xs ++ beB hi 8)])) ?_ (fun _ _ _ => rfl) ?_
    · intro f lof w1 Lf HF HK1
      (try simp only [itms, itm, usesOf, readsOf, takesOf, List.find?, Nat.reduceBEq, List.flatMap_cons, List.flatMap_nil, Nat.reduceLT, if_true, if_false, Nat.reduceSub, List.getD_cons_zero, List.getD_cons_succ, List.append_nil, List.cons_append, List.nil_append, List.append_nil] at HK1)
      simp only [List.map_toArray, List.map_cons, List.map_nil, Act.eval, Array.getD_eq_getD_getElem?, List.getElem?_toArray, List.getElem?_cons_succ, List.getElem?_cons_zero, Option.getD_some, List.append_nil]
      clear HF
      have q4 := putU_own hi 8 HK1 h0' h1' (by decide) (by omega)
      exact q4.mono fun e w2 h => by
        obtain ⟨a, c, rfl, hk⟩ := h
        exact ⟨_, _, rfl, ⟨a, c, rfl, rfl⟩, hk⟩
    (try simp only [Act.put, Act.eval, List.setIfInBounds_toArray, List.set_cons_zero, List.set_cons_succ, Array.getD_eq_getD_getElem?, List.getElem?_toArray, List.getElem?_cons_succ, List.getElem?_cons_zero, Option.getD_some, Nat.reduceAdd, List.nil_append, List.cons_append, En.get])
    (repeat (first | (refine fs_skip rfl (fun f => rfl) ?_; (try simp only [Act.put, Act.eval, List.setIfInBounds_toArray, List.set_cons_zero, List.set_cons_succ, Array.getD_eq_getD_getElem?, List.getElem?_toArray, List.getElem?_cons_succ, List.getElem?_cons_zero, Option.getD_some, Nat.reduceAdd, List.nil_append, List.cons_append, En.get])) | (refine fs_move _ rfl rfl (fun f => rfl) rfl ?_ ?_; ((first | exact fun _ _ _ => rfl | exact fun f f' hcg => hcg _ (by kernel_rfl) | (intro f f' hcg; rw [hcg]; kernel_rfl) | (intro f f' hcg; rw [hcg, hcg]; (kernel_rfl; kernel_rfl)) | exact trivial)); (try simp only [Act.put, Act.eval, List.setIfInBounds_toArray, List.set_cons_zero, List.set_cons_succ, Array.getD_eq_getD_getElem?, List.getElem?_toArray, List.getElem?_cons_succ, List.getElem?_cons_zero, Option.getD_some, Nat.reduceAdd, List.nil_append, List.cons_append, En.get])) | (refine fs_assign _ rfl rfl (fun f => rfl) rfl ?_ ?_; ((first | exact fun _ _ _ => rfl | exact fun f f' hcg => hcg _ (by kernel_rfl) | (intro f f' hcg; rw [hcg]; kernel_rfl) | (intro f f' hcg; rw [hcg, hcg]; (kernel_rfl; kernel_rfl)) | exact trivial)); (try simp only [Act.put, Act.eval, List.setIfInBounds_toArray, List.set_cons_zero, List.set_cons_succ, Array.getD_eq_getD_getElem?, List.getElem?_toArray, List.getElem?_cons_succ, List.getElem?_cons_zero, Option.getD_some, Nat.reduceAdd, List.nil_append, List.cons_append, En.get])) | (fail) | (refine fs_pure rfl (fun f => rfl) rfl ?_ ?_ ?_ ?_; (rotate_left; (intro f w1; (skip); go_simp; (first | done | with_reducible rfl)); ((first | exact fun _ _ _ => rfl | exact fun f f' hcg => hcg _ (by kernel_rfl) | (intro f f' hcg; rw [hcg]; kernel_rfl) | (intro f f' hcg; rw [hcg, hcg]; (kernel_rfl; kernel_rfl)) | exact trivial)); (try simp only [Act.put, Act.eval, List.setIfInBounds_toArray, List.set_cons_zero, List.set_cons_succ, Array.getD_eq_getD_getElem?, List.getElem?_toArray, List.getElem?_cons_succ, List.getElem?_cons_zero, Option.getD_some, Nat.reduceAdd, List.nil_append, List.cons_append, En.get])))))
    refine fs_read rfl (fun f => rfl) rfl (fun _ => .int .u64 lo) ?_ (fun _ _ _ => rfl) ?_
    · intro f lof w1 Lf HF HK1
      clear HF
      (try simp only [itms, itm, usesOf, readsOf, takesOf, List.find?, Nat.reduceBEq, List.flatMap_cons, List.flatMap_nil, Nat.reduceLT, if_true, if_false, Nat.reduceSub, List.getD_cons_zero, List.getD_cons_succ, List.append_nil, List.cons_append, List.nil_append, List.append_nil] at HK1)
      have hg := HK1.at (.here _)
      clear HK1
      have hc : ∀ (b : Nat) (cs : Array Value) (T : TypeId) (fr : Nat × Nat) (i : Nat), w1.heap[b]? = some (.cells cs T fr) → w1.cell? ⟨b, i, none⟩ = cs[i]? := fun b cs T fr i h => by simp [World.cell?, h]
      have hc1 := hc _ _ _ _ 2 hg
      clear hc hg
      simp only [List.getElem?_toArray, List.getElem?_cons_succ, List.getElem?_cons_zero] at hc1
      go_simp
    (try simp only [Act.put, Act.eval, List.setIfInBounds_toArray, List.set_cons_zero, List.set_cons_succ, Array.getD_eq_getD_getElem?, List.getElem?_toArray, List.getElem?_cons_succ, List.getElem?_cons_zero, Option.getD_some, Nat.reduceAdd, List.nil_append, List.cons_append, En.get])
    refine fs_call rfl (fun f => rfl) 30 _ _ rfl (fun args w => by simp [callFunc, Try.func30]; rfl) (.res (fun _ v it => ∃ a c, v = .slice a (j0 + 16) c ∧ it = [.sl 5 .u8 a (j0 + 16) c (xs ++ beB hi 8 ++ beB lo 8)])) ?_ (fun _ _ _ => rfl) ?_
    · intro f lof w1 Lf HF HK1
      obtain ⟨a, c, hv, hl⟩ := HF 3 (by kernel_rfl)
      (try simp only [itms, itm, usesOf, readsOf, takesOf, List.find?, Nat.reduceBEq, List.flatMap_cons, List.flatMap_nil, Nat.reduceLT, if_true, if_false, Nat.reduceSub, List.getD_cons_zero, List.getD_cons_succ, List.append_nil, List.cons_append, List.nil_append, hl] at HK1)
      simp only [List.map_toArray, List.map_cons, List.map_nil, Act.eval, Array.getD_eq_getD_getElem?, List.getElem?_toArray, List.getElem?_cons_succ, List.getElem?_cons_zero, Option.getD_some, hv]
      clear hv hl
      clear HF
      have q4 := putU_own lo 8 HK1 l0' l1' (by decide) (by omega)
      exact q4.mono fun e w2 h => by
        obtain ⟨a, c, rfl, hk⟩ := h
        exact ⟨_, _, rfl, ⟨a, c, rfl, rfl⟩, hk⟩
    (try simp only [Act.put, Act.eval, List.setIfInBounds_toArray, List.set_cons_zero, List.set_cons_succ, Array.getD_eq_getD_getElem?, List.getElem?_toArray, List.getElem?_cons_succ, List.getElem?_cons_zero, Option.getD_some, Nat.reduceAdd, List.nil_append, List.cons_append, En.get])
    (repeat (first | (refine fs_skip rfl (fun f => rfl) ?_; (try simp only [Act.put, Act.eval, List.setIfInBounds_toArray, List.set_cons_zero, List.set_cons_succ, Array.getD_eq_getD_getElem?, List.getElem?_toArray, List.getElem?_cons_succ, List.getElem?_cons_zero, Option.getD_some, Nat.reduceAdd, List.nil_append, List.cons_append, En.get])) | (refine fs_move _ rfl rfl (fun f => rfl) rfl ?_ ?_; ((first | exact fun _ _ _ => rfl | exact fun f f' hcg => hcg _ (by kernel_rfl) | (intro f f' hcg; rw [hcg]; kernel_rfl) | (intro f f' hcg; rw [hcg, hcg]; (kernel_rfl; kernel_rfl)) | exact trivial)); (try simp only [Act.put, Act.eval, List.setIfInBounds_toArray, List.set_cons_zero, List.set_cons_succ, Array.getD_eq_getD_getElem?, List.getElem?_toArray, List.getElem?_cons_succ, List.getElem?_cons_zero, Option.getD_some, Nat.reduceAdd, List.nil_append, List.cons_append, En.get])) | (refine fs_assign _ rfl rfl (fun f => rfl) rfl ?_ ?_; ((first | exact fun _ _ _ => rfl | exact fun f f' hcg => hcg _ (by kernel_rfl) | (intro f f' hcg; rw [hcg]; kernel_rfl) | (intro f f' hcg; rw [hcg, hcg]; (kernel_rfl; kernel_rfl)) | exact trivial)); (try simp only [Act.put, Act.eval, List.setIfInBounds_toArray, List.set_cons_zero, List.set_cons_succ, Array.getD_eq_getD_getElem?, List.getElem?_toArray, List.getElem?_cons_succ, List.getElem?_cons_zero, Option.getD_some, Nat.reduceAdd, List.nil_append, List.cons_append, En.get])) | (fail) | (refine fs_pure rfl (fun f => rfl) rfl ?_ ?_ ?_ ?_; (rotate_left; (intro f w1; (skip); go_simp; (first | done | with_reducible rfl)); ((first | exact fun _ _ _ => rfl | exact fun f f' hcg => hcg _ (by kernel_rfl) | (intro f f' hcg; rw [hcg]; kernel_rfl) | (intro f f' hcg; rw [hcg, hcg]; (kernel_rfl; kernel_rfl)) | exact trivial)); (try simp only [Act.put, Act.eval, List.setIfInBounds_toArray, List.set_cons_zero, List.set_cons_succ, Array.getD_eq_getD_getElem?, List.getElem?_toArray, List.getElem?_cons_succ, List.getElem?_cons_zero, Option.getD_some, Nat.reduceAdd, List.nil_append, List.cons_append, En.get])))))
    refine fs_end ?_
    intro f lof wn HF hk
    obtain ⟨a, c, hv, hl⟩ := HF 6 (by decide)
    (try simp only [itms, itm, usesOf, readsOf, takesOf, List.find?, Nat.reduceBEq, List.flatMap_cons, List.flatMap_nil, Nat.reduceLT, if_true, if_false, Nat.reduceSub, List.getD_cons_zero, List.getD_cons_succ, List.append_nil, List.cons_append, List.nil_append, hl] at hk)
    rw [hv]
    generalize f 3 = x3
    clear HF hv hl f lof
    have hk := hk.sub (List.Sublist.cons_cons _ (List.sublist_cons_self _ _))
    rw [List.append_assoc] at hk
    clear HK
    have HK := Lib.hid hk
    clear hk
    go_wp2_with fail
    exact bodyPost_ret (results_tmp rfl _ _ _) rfl ⟨_, _, rfl, HK.out⟩

set_option maxHeartbeats 8000000 in
set_option maxRecDepth 100000 in
theorem read6_any (x : Addr) (c : Nat) (xs : List Int) (w : World) (h : Rd .u8 w (some x) 16 xs) (ho : okB 256 xs) (hc : 16 ≤ c) :
    Calls Try.prog 39 #[.slice (some x) 16 c] w fun e w' => e = .returned (ad6 xs).val ∧ w.grownBy w' none := by
  have HX := Lib.hid (fun (w' : World) (g : w.grownBy w' none) => h.kept g)
  have HO := Lib.hid ho
  have HL := Lib.hid h.1
  clear h
  obtain ⟨u, hu⟩ : ∃ u, u = beV (xs.take 8) := ⟨_, rfl⟩
  obtain ⟨v, hv⟩ : ∃ v, v = beV ((xs.drop 8).take 8) := ⟨_, rfl⟩
  have HU := Lib.hid hu
  have HV := Lib.hid hv
  rw [ad6, ← hu, ← hv]
  clear hu hv ho
  show Calls Try.prog _ #[.slice (some x) 16 c] w fun e w' => e = .returned (.agg #[.bool true, .int .u64 u, .int .u64 v]) ∧ w.grownBy w' none
  have HK := Lib.hid (own_start w)
  go_enter Try.func39, Try.ntmps39
  go_upto_region 3 with fail
  have hk := own_alloc HK.out (Obj.cells #[Value.bool false, Value.int .u64 0, Value.int .u64 0] 26 (0, 0))
  obtain ⟨p, hp⟩ : ∃ p, p = w.heap.size := ⟨_, rfl⟩
  rw [← hp] at hk ⊢
  clear hp
  clear HK
  have HK := Lib.hid hk
  clear hk
  have hc8 : ¬ c = 8 := by omega
  have hc9 : (8 : Int) ≤ c := by omega
  refine wp_region_sep [[.blk p (Obj.cells #[Value.bool false, Value.int .u64 0, Value.int .u64 0] 26 (0, 0))]] [] [(7, [], [8])] [7] 8 (by kernel_rfl) (by kernel_rfl) (w0 := w) HK.out ?_
  (try simp only [Act.put, Act.eval, List.setIfInBounds_toArray, List.set_cons_zero, List.set_cons_succ, Array.getD_eq_getD_getElem?, List.getElem?_toArray, List.getElem?_cons_succ, List.getElem?_cons_zero, Option.getD_some, Nat.reduceAdd, List.nil_append, List.cons_append, En.get])
  (repeat (first | (refine fs_skip rfl (fun f => rfl) ?_; (try simp only [Act.put, Act.eval, List.setIfInBounds_toArray, List.set_cons_zero, List.set_cons_succ, Array.getD_eq_getD_getElem?, List.getElem?_toArray, List.getElem?_cons_succ, List.getElem?_cons_zero, Option.getD_some, Nat.reduceAdd, List.nil_append, List.cons_append, En.get])) | (refine fs_move _ rfl rfl (fun f => rfl) rfl ?_ ?_; ((first | exact fun _ _ _ => rfl | exact fun f f' hcg => hcg _ (by kernel_rfl) | (intro f f' hcg; rw [hcg]; kernel_rfl) | (intro f f' hcg; rw [hcg, hcg]; (kernel_rfl; kernel_rfl)) | exact trivial)); (try simp only [Act.put, Act.eval, List.setIfInBounds_toArray, List.set_cons_zero, List.set_cons_succ, Array.getD_eq_getD_getElem?, List.getElem?_toArray, List.getElem?_cons_succ, List.getElem?_cons_zero, Option.getD_some, Nat.reduceAdd, List.nil_append, List.cons_append, En.get])) | (refine fs_assign _ rfl rfl (fun f => rfl) rfl ?_ ?_; ((first | exact fun _ _ _ => rfl | exact fun f f' hcg => hcg _ (by kernel_rfl) | (intro f f' hcg; rw [hcg]; kernel_rfl) | (intro f f' hcg; rw [hcg, hcg]; (kernel_rfl; kernel_rfl)) | exact trivial)); (try simp only [Act.put, Act.eval, List.setIfInBounds_toArray, List.set_cons_zero, List.set_cons_succ, Array.getD_eq_getD_getElem?, List.getElem?_toArray, List.getElem?_cons_succ, List.getElem?_cons_zero, Option.getD_some, Nat.reduceAdd, List.nil_append, List.cons_append, En.get])) | (fail) | (refine fs_pure rfl (fun f => rfl) rfl ?_ ?_ ?_ ?_; (rotate_left; (intro f w1; (skip); go_simp; (first | done | with_reducible rfl)); ((first | exact fun _ _ _ => rfl | exact fun f f' hcg => hcg _ (by kernel_rfl) | (intro f f' hcg; rw [hcg]; kernel_rfl) | (intro f f' hcg; rw [hcg, hcg]; (kernel_rfl; kernel_rfl)) | exact trivial)); (try simp only [Act.put, Act.eval, List.setIfInBounds_toArray, List.set_cons_zero, List.set_cons_succ, Array.getD_eq_getD_getElem?, List.getElem?_toArray, List.getElem?_cons_succ, List.getElem?_cons_zero, Option.getD_some, Nat.reduceAdd, List.nil_append, List.cons_append, En.get])))))
  refine fs_callv rfl (fun f => rfl) rfl 38 _ _ rfl (fun args w => by simp [callFunc, Try.func38]; rfl) (fun _ => .int .u64 u) ?_ (fun _ _ _ => rfl) ?_
  · intro f lof w1 Lf HF HK1
    simp only [List.map_toArray, List.map_cons, List.map_nil, Act.eval, Array.getD_eq_getD_getElem?, List.getElem?_toArray, List.getElem?_cons_succ, List.getElem?_cons_zero, Option.getD_some, List.append_nil]
    clear HF
    have hr := rdfront (HX.out _ HK1.grown) 8 (by omega)
    have q4 := value_any (some x) 8 c (xs.take 8) w1 hr (ok_take HO.out 8) (by decide)
    rw [← HU.out] at q4
    exact q4.mono fun e w2 h => ⟨h.1, by rw [h.2]; exact grown_refl _ _⟩
  (try simp only [Act.put, Act.eval, List.setIfInBounds_toArray, List.set_cons_zero, List.set_cons_succ, Array.getD_eq_getD_getElem?, List.getElem?_toArray, List.getElem?_cons_succ, List.getElem?_cons_zero, Option.getD_some, Nat.reduceAdd, List.nil_append, List.cons_append, En.get])
  (repeat (first | (refine fs_skip rfl (fun f => rfl) ?_; (try simp only [Act.put, Act.eval, List.setIfInBounds_toArray, List.set_cons_zero, List.set_cons_succ, Array.getD_eq_getD_getElem?, List.getElem?_toArray, List.getElem?_cons_succ, List.getElem?_cons_zero, Option.getD_some, Nat.reduceAdd, List.nil_append, List.cons_append, En.get])) | (refine fs_move _ rfl rfl (fun f => rfl) rfl ?_ ?_; ((first | exact fun _ _ _ => rfl | exact fun f f' hcg => hcg _ (by kernel_rfl) | (intro f f' hcg; rw [hcg]; kernel_rfl) | (intro f f' hcg; rw [hcg, hcg]; (kernel_rfl; kernel_rfl)) | exact trivial)); (try simp only [Act.put, Act.eval, List.setIfInBounds_toArray, List.set_cons_zero, List.set_cons_succ, Array.getD_eq_getD_getElem?, List.getElem?_toArray, List.getElem?_cons_succ, List.getElem?_cons_zero, Option.getD_some, Nat.reduceAdd, List.nil_append, List.cons_append, En.get])) | (refine fs_assign _ rfl rfl (fun f => rfl) rfl ?_ ?_; ((first | exact fun _ _ _ => rfl | exact fun f f' hcg => hcg _ (by kernel_rfl) | (intro f f' hcg; rw [hcg]; kernel_rfl) | (intro f f' hcg; rw [hcg, hcg]; (kernel_rfl; kernel_rfl)) | exact trivial)); (try simp only [Act.put, Act.eval, List.setIfInBounds_toArray, List.set_cons_zero, List.set_cons_succ, Array.getD_eq_getD_getElem?, List.getElem?_toArray, List.getElem?_cons_succ, List.getElem?_cons_zero, Option.getD_some, Nat.reduceAdd, List.nil_append, List.cons_append, En.get])) | (fail) | (refine fs_pure rfl (fun f => rfl) rfl ?_ ?_ ?_ ?_; (rotate_left; (intro f w1; (skip); go_simp; (first | done | with_reducible rfl)); ((first | exact fun _ _ _ => rfl | exact fun f f' hcg => hcg _ (by kernel_rfl) | (intro f f' hcg; rw [hcg]; kernel_rfl) | (intro f f' hcg; rw [hcg, hcg]; (kernel_rfl; kernel_rfl)) | exact trivial)); (try simp only [Act.put, Act.eval, List.setIfInBounds_toArray, List.set_cons_zero, List.set_cons_succ, Array.getD_eq_getD_getElem?, List.getElem?_toArray, List.getElem?_cons_succ, List.getElem?_cons_zero, Option.getD_some, Nat.reduceAdd, List.nil_append, List.cons_append, En.get])))))
  refine fs_callv rfl (fun f => rfl) rfl 38 _ _ rfl (fun args w => by simp [callFunc, Try.func38]; rfl) (fun _ => .int .u64 v) ?_ (fun _ _ _ => rfl) ?_
  · intro f lof w1 Lf HF HK1
    simp only [List.map_toArray, List.map_cons, List.map_nil, Act.eval, Array.getD_eq_getD_getElem?, List.getElem?_toArray, List.getElem?_cons_succ, List.getElem?_cons_zero, Option.getD_some, List.append_nil]
    clear HF
    have hr := HX.out _ HK1.grown
    have hr2 := rd_sub hr 8 16 c (by decide) (by decide) hc
    rw [if_neg hc8, List.take_of_length_le (Nat.le_of_eq HL.out)] at hr2
    have q4 := value_any _ 8 (c - 8) (xs.drop 8) w1 hr2 (ok_drop HO.out 8) (by decide)
    have hvv : v = beV (xs.drop 8) := by rw [HV.out, List.take_of_length_le (by rw [List.length_drop, HL.out]; decide)]
    rw [← hvv] at q4
    clear hvv
    exact q4.mono fun e w2 h => ⟨h.1, by rw [h.2]; exact grown_refl _ _⟩
  (try simp only [Act.put, Act.eval, List.setIfInBounds_toArray, List.set_cons_zero, List.set_cons_succ, Array.getD_eq_getD_getElem?, List.getElem?_toArray, List.getElem?_cons_succ, List.getElem?_cons_zero, Option.getD_some, Nat.reduceAdd, List.nil_append, List.cons_append, En.get])
  (repeat (first | (refine fs_skip rfl (fun f => rfl) ?_; (try simp only [Act.put, Act.eval, List.setIfInBounds_toArray, List.set_cons_zero, List.set_cons_succ, Array.getD_eq_getD_getElem?, List.getElem?_toArray, List.getElem?_cons_succ, List.getElem?_cons_zero, Option.getD_some, Nat.reduceAdd, List.nil_append, List.cons_append, En.get])) | (refine fs_move _ rfl rfl (fun f => rfl) rfl ?_ ?_; ((first | exact fun _ _ _ => rfl | exact fun f f' hcg => hcg _ (by kernel_rfl) | (intro f f' hcg; rw [hcg]; kernel_rfl) | (intro f f' hcg; rw [hcg, hcg]; (kernel_rfl; kernel_rfl)) | exact trivial)); (try simp only [Act.put, Act.eval, List.setIfInBounds_toArray, List.set_cons_zero, List.set_cons_succ, Array.getD_eq_getD_getElem?, List.getElem?_toArray, List.getElem?_cons_succ, List.getElem?_cons_zero, Option.getD_some, Nat.reduceAdd, List.nil_append, List.cons_append, En.get])) | (refine fs_assign _ rfl rfl (fun f => rfl) rfl ?_ ?_; ((first | exact fun _ _ _ => rfl | exact fun f f' hcg => hcg _ (by kernel_rfl) | (intro f f' hcg; rw [hcg]; kernel_rfl) | (intro f f' hcg; rw [hcg, hcg]; (kernel_rfl; kernel_rfl)) | exact trivial)); (try simp only [Act.put, Act.eval, List.setIfInBounds_toArray, List.set_cons_zero, List.set_cons_succ, Array.getD_eq_getD_getElem?, List.getElem?_toArray, List.getElem?_cons_succ, List.getElem?_cons_zero, Option.getD_some, Nat.reduceAdd, List.nil_append, List.cons_append, En.get])) | (fail) | (refine fs_pure rfl (fun f => rfl) rfl ?_ ?_ ?_ ?_; (rotate_left; (intro f w1; (skip); go_simp; (first | done | with_reducible rfl)); ((first | exact fun _ _ _ => rfl | exact fun f f' hcg => hcg _ (by kernel_rfl) | (intro f f' hcg; rw [hcg]; kernel_rfl) | (intro f f' hcg; rw [hcg, hcg]; (kernel_rfl; kernel_rfl)) | exact trivial)); (try simp only [Act.put, Act.eval, List.setIfInBounds_toArray, List.set_cons_zero, List.set_cons_succ, Array.getD_eq_getD_getElem?, List.getElem?_toArray, List.getElem?_cons_succ, List.getElem?_cons_zero, Option.getD_some, Nat.reduceAdd, List.nil_append, List.cons_append, En.get])))))
  refine fs_store rfl (fun f => rfl) (fun f it => it = [.blk p (.cells #[.bool true, .int .u64 u, .int .u64 v] 26 (0, 0))]) rfl ?_ (fun _ _ _ => rfl) ?_
  · intro f lof w1 Lf HF HK1 Q' hQ
    clear HF
    (try simp only [itms, itm, usesOf, readsOf, takesOf, List.find?, Nat.reduceBEq, List.flatMap_cons, List.flatMap_nil, Nat.reduceLT, if_true, if_false, Nat.reduceSub, List.getD_cons_zero, List.getD_cons_succ, List.append_nil, List.cons_append, List.nil_append, List.append_nil] at HK1)
    refine wpList_put_blk rfl HK1 26 _ _ rfl p #[.bool true, .int .u64 u, .int .u64 v] rfl rfl _ _ (.here _) rfl (by kernel_rfl) (by simp [Value.oneCell']) ?_
    intro w' hk
    exact hQ _ ⟨_, rfl, hk⟩
  (try simp only [Act.put, Act.eval, List.setIfInBounds_toArray, List.set_cons_zero, List.set_cons_succ, Array.getD_eq_getD_getElem?, List.getElem?_toArray, List.getElem?_cons_succ, List.getElem?_cons_zero, Option.getD_some, Nat.reduceAdd, List.nil_append, List.cons_append, En.get])
  refine fs_end ?_
  intro f lof wn HF hk
  have hl := HF 7 (by decide)
  (try simp only [itms, itm, usesOf, readsOf, takesOf, List.find?, Nat.reduceBEq, List.flatMap_cons, List.flatMap_nil, Nat.reduceLT, if_true, if_false, Nat.reduceSub, List.getD_cons_zero, List.getD_cons_succ, List.append_nil, List.cons_append, List.nil_append, show lof 7 = _ from hl] at hk)
  clear HF hl f lof
  clear HK
  have HK := Lib.hid hk
  clear hk
  go_wp2_with fail
  exact bodyPost_ret (results_cell_row rfl _ _ p _ _ _ _ rfl (HK.out.at (.here _)) Try.underlying26 rfl (by kernel_rfl)) rfl ⟨rfl, HK.out.grown⟩
set_option maxHeartbeats 8000000 in
set_option maxRecDepth 100000 in
theorem readA6_any (x : Addr) (n c : Nat) (xs : List Int) (w : World) (h : Rd .u8 w (some x) n xs) (ho : okB 256 xs) (hn : 16 ≤ n) (hc : n ≤ c) :
    Calls Try.prog 35 #[.slice (some x) n c, .bool true] w fun e w' => e = .returned (ad6 xs).val ∧ w.grownBy w' none := by
  have HX := Lib.hid (fun (w' : World) (g : w.grownBy w' none) => h.kept g)
  have HO := Lib.hid ho
  have HL := Lib.hid h.1
  clear h
  obtain ⟨u, hu⟩ : ∃ u, u = beV (xs.take 8) := ⟨_, rfl⟩
  obtain ⟨v, hv⟩ : ∃ v, v = beV ((xs.drop 8).take 8) := ⟨_, rfl⟩
  have HU := Lib.hid hu
  have HV := Lib.hid hv
  rw [ad6, ← hu, ← hv]
  clear hu hv ho
  show Calls Try.prog _ #[.slice (some x) n c, .bool true] w fun e w' => e = .returned (.agg #[.bool true, .int .u64 u, .int .u64 v]) ∧ w.grownBy w' none
  have HK := Lib.hid (own_start w)
  go_enter Try.func35, Try.ntmps35
  have hn8 : (8 : Int) ≤ n := by omega
  go_upto_region 2 with fail
  have hk := own_alloc HK.out (Obj.cells #[Value.bool false, Value.int .u64 0, Value.int .u64 0] 26 (0, 0))
  obtain ⟨p, hp⟩ : ∃ p, p = w.heap.size := ⟨_, rfl⟩
  rw [← hp] at hk ⊢
  clear hp
  clear HK
  have HK := Lib.hid hk
  clear hk
  have hc8 : ¬ c = 8 := by omega
  have hc9 : (8 : Int) ≤ c := by omega
  refine wp_region_sep [[.blk p (Obj.cells #[Value.bool false, Value.int .u64 0, Value.int .u64 0] 26 (0, 0))]] [] [(6, [], [7])] [6] 7 (by kernel_rfl) (by kernel_rfl) (w0 := w) HK.out ?_
  (try simp only [Act.put, Act.eval, List.setIfInBounds_toArray, List.set_cons_zero, List.set_cons_succ, Array.getD_eq_getD_getElem?, List.getElem?_toArray, List.getElem?_cons_succ, List.getElem?_cons_zero, Option.getD_some, Nat.reduceAdd, List.nil_append, List.cons_append, En.get])
  (repeat (first | (refine fs_skip rfl (fun f => rfl) ?_; (try simp only [Act.put, Act.eval, List.setIfInBounds_toArray, List.set_cons_zero, List.set_cons_succ, Array.getD_eq_getD_getElem?, List.getElem?_toArray, List.getElem?_cons_succ, List.getElem?_cons_zero, Option.getD_some, Nat.reduceAdd, List.nil_append, List.cons_append, En.get])) | (refine fs_move _ rfl rfl (fun f => rfl) rfl ?_ ?_; ((first | exact fun _ _ _ => rfl | exact fun f f' hcg => hcg _ (by kernel_rfl) | (intro f f' hcg; rw [hcg]; kernel_rfl) | (intro f f' hcg; rw [hcg, hcg]; (kernel_rfl; kernel_rfl)) | exact trivial)); (try simp only [Act.put, Act.eval, List.setIfInBounds_toArray, List.set_cons_zero, List.set_cons_succ, Array.getD_eq_getD_getElem?, List.getElem?_toArray, List.getElem?_cons_succ, List.getElem?_cons_zero, Option.getD_some, Nat.reduceAdd, List.nil_append, List.cons_append, En.get])) | (refine fs_assign _ rfl rfl (fun f => rfl) rfl ?_ ?_; ((first | exact fun _ _ _ => rfl | exact fun f f' hcg => hcg _ (by kernel_rfl) | (intro f f' hcg; rw [hcg]; kernel_rfl) | (intro f f' hcg; rw [hcg, hcg]; (kernel_rfl; kernel_rfl)) | exact trivial)); (try simp only [Act.put, Act.eval, List.setIfInBounds_toArray, List.set_cons_zero, List.set_cons_succ, Array.getD_eq_getD_getElem?, List.getElem?_toArray, List.getElem?_cons_succ, List.getElem?_cons_zero, Option.getD_some, Nat.reduceAdd, List.nil_append, List.cons_append, En.get])) | (fail) | (refine fs_pure rfl (fun f => rfl) rfl ?_ ?_ ?_ ?_; (rotate_left; (intro f w1; (skip); go_simp; (first | done | with_reducible rfl)); ((first | exact fun _ _ _ => rfl | exact fun f f' hcg => hcg _ (by kernel_rfl) | (intro f f' hcg; rw [hcg]; kernel_rfl) | (intro f f' hcg; rw [hcg, hcg]; (kernel_rfl; kernel_rfl)) | exact trivial)); (try simp only [Act.put, Act.eval, List.setIfInBounds_toArray, List.set_cons_zero, List.set_cons_succ, Array.getD_eq_getD_getElem?, List.getElem?_toArray, List.getElem?_cons_succ, List.getElem?_cons_zero, Option.getD_some, Nat.reduceAdd, List.nil_append, List.cons_append, En.get])))))
  refine fs_callv rfl (fun f => rfl) rfl 22 _ _ rfl (fun args w => by simp [callFunc, Try.func22]; rfl) (fun _ => .int .u64 u) ?_ (fun _ _ _ => rfl) ?_
  · intro f lof w1 Lf HF HK1
    simp only [List.map_toArray, List.map_cons, List.map_nil, Act.eval, Array.getD_eq_getD_getElem?, List.getElem?_toArray, List.getElem?_cons_succ, List.getElem?_cons_zero, Option.getD_some, List.append_nil]
    clear HF
    have hr := HX.out _ HK1.grown
    have q4 := readU_any (some x) n 8 c xs w1 hr HO.out (by decide) (by omega)
    rw [← HU.out] at q4
    exact q4.mono fun e w2 h => ⟨h.1, by rw [h.2]; exact grown_refl _ _⟩
  (try simp only [Act.put, Act.eval, List.setIfInBounds_toArray, List.set_cons_zero, List.set_cons_succ, Array.getD_eq_getD_getElem?, List.getElem?_toArray, List.getElem?_cons_succ, List.getElem?_cons_zero, Option.getD_some, Nat.reduceAdd, List.nil_append, List.cons_append, En.get])
  (repeat (first | (refine fs_skip rfl (fun f => rfl) ?_; (try simp only [Act.put, Act.eval, List.setIfInBounds_toArray, List.set_cons_zero, List.set_cons_succ, Array.getD_eq_getD_getElem?, List.getElem?_toArray, List.getElem?_cons_succ, List.getElem?_cons_zero, Option.getD_some, Nat.reduceAdd, List.nil_append, List.cons_append, En.get])) | (refine fs_move _ rfl rfl (fun f => rfl) rfl ?_ ?_; ((first | exact fun _ _ _ => rfl | exact fun f f' hcg => hcg _ (by kernel_rfl) | (intro f f' hcg; rw [hcg]; kernel_rfl) | (intro f f' hcg; rw [hcg, hcg]; (kernel_rfl; kernel_rfl)) | exact trivial)); (try simp only [Act.put, Act.eval, List.setIfInBounds_toArray, List.set_cons_zero, List.set_cons_succ, Array.getD_eq_getD_getElem?, List.getElem?_toArray, List.getElem?_cons_succ, List.getElem?_cons_zero, Option.getD_some, Nat.reduceAdd, List.nil_append, List.cons_append, En.get])) | (refine fs_assign _ rfl rfl (fun f => rfl) rfl ?_ ?_; ((first | exact fun _ _ _ => rfl | exact fun f f' hcg => hcg _ (by kernel_rfl) | (intro f f' hcg; rw [hcg]; kernel_rfl) | (intro f f' hcg; rw [hcg, hcg]; (kernel_rfl; kernel_rfl)) | exact trivial)); (try simp only [Act.put, Act.eval, List.setIfInBounds_toArray, List.set_cons_zero, List.set_cons_succ, Array.getD_eq_getD_getElem?, List.getElem?_toArray, List.getElem?_cons_succ, List.getElem?_cons_zero, Option.getD_some, Nat.reduceAdd, List.nil_append, List.cons_append, En.get])) | (fail) | (refine fs_pure rfl (fun f => rfl) rfl ?_ ?_ ?_ ?_; (rotate_left; (intro f w1; (skip); go_simp; (first | done | with_reducible rfl)); ((first | exact fun _ _ _ => rfl | exact fun f f' hcg => hcg _ (by kernel_rfl) | (intro f f' hcg; rw [hcg]; kernel_rfl) | (intro f f' hcg; rw [hcg, hcg]; (kernel_rfl; kernel_rfl)) | exact trivial)); (try simp only [Act.put, Act.eval, List.setIfInBounds_toArray, List.set_cons_zero, List.set_cons_succ, Array.getD_eq_getD_getElem?, List.getElem?_toArray, List.getElem?_cons_succ, List.getElem?_cons_zero, Option.getD_some, Nat.reduceAdd, List.nil_append, List.cons_append, En.get])))))
  refine fs_callv rfl (fun f => rfl) rfl 22 _ _ rfl (fun args w => by simp [callFunc, Try.func22]; rfl) (fun _ => .int .u64 v) ?_ (fun _ _ _ => rfl) ?_
  · intro f lof w1 Lf HF HK1
    simp only [List.map_toArray, List.map_cons, List.map_nil, Act.eval, Array.getD_eq_getD_getElem?, List.getElem?_toArray, List.getElem?_cons_succ, List.getElem?_cons_zero, Option.getD_some, List.append_nil]
    clear HF
    have hr := HX.out _ HK1.grown
    have hr2 := rd_sub hr 8 n c (by omega) (Nat.le_refl _) hc
    rw [if_neg hc8, List.take_of_length_le (Nat.le_of_eq HL.out)] at hr2
    have q4 := readU_any _ (n - 8) 8 (c - 8) (xs.drop 8) w1 hr2 (ok_drop HO.out 8) (by decide) (by omega)
    rw [← HV.out] at q4
    exact q4.mono fun e w2 h => ⟨h.1, by rw [h.2]; exact grown_refl _ _⟩
  (try simp only [Act.put, Act.eval, List.setIfInBounds_toArray, List.set_cons_zero, List.set_cons_succ, Array.getD_eq_getD_getElem?, List.getElem?_toArray, List.getElem?_cons_succ, List.getElem?_cons_zero, Option.getD_some, Nat.reduceAdd, List.nil_append, List.cons_append, En.get])
  (repeat (first | (refine fs_skip rfl (fun f => rfl) ?_; (try simp only [Act.put, Act.eval, List.setIfInBounds_toArray, List.set_cons_zero, List.set_cons_succ, Array.getD_eq_getD_getElem?, List.getElem?_toArray, List.getElem?_cons_succ, List.getElem?_cons_zero, Option.getD_some, Nat.reduceAdd, List.nil_append, List.cons_append, En.get])) | (refine fs_move _ rfl rfl (fun f => rfl) rfl ?_ ?_; ((first | exact fun _ _ _ => rfl | exact fun f f' hcg => hcg _ (by kernel_rfl) | (intro f f' hcg; rw [hcg]; kernel_rfl) | (intro f f' hcg; rw [hcg, hcg]; (kernel_rfl; kernel_rfl)) | exact trivial)); (try simp only [Act.put, Act.eval, List.setIfInBounds_toArray, List.set_cons_zero, List.set_cons_succ, Array.getD_eq_getD_getElem?, List.getElem?_toArray, List.getElem?_cons_succ, List.getElem?_cons_zero, Option.getD_some, Nat.reduceAdd, List.nil_append, List.cons_append, En.get])) | (refine fs_assign _ rfl rfl (fun f => rfl) rfl ?_ ?_; ((first | exact fun _ _ _ => rfl | exact fun f f' hcg => hcg _ (by kernel_rfl) | (intro f f' hcg; rw [hcg]; kernel_rfl) | (intro f f' hcg; rw [hcg, hcg]; (kernel_rfl; kernel_rfl)) | exact trivial)); (try simp only [Act.put, Act.eval, List.setIfInBounds_toArray, List.set_cons_zero, List.set_cons_succ, Array.getD_eq_getD_getElem?, List.getElem?_toArray, List.getElem?_cons_succ, List.getElem?_cons_zero, Option.getD_some, Nat.reduceAdd, List.nil_append, List.cons_append, En.get])) | (fail) | (refine fs_pure rfl (fun f => rfl) rfl ?_ ?_ ?_ ?_; (rotate_left; (intro f w1; (skip); go_simp; (first | done | with_reducible rfl)); ((first | exact fun _ _ _ => rfl | exact fun f f' hcg => hcg _ (by kernel_rfl) | (intro f f' hcg; rw [hcg]; kernel_rfl) | (intro f f' hcg; rw [hcg, hcg]; (kernel_rfl; kernel_rfl)) | exact trivial)); (try simp only [Act.put, Act.eval, List.setIfInBounds_toArray, List.set_cons_zero, List.set_cons_succ, Array.getD_eq_getD_getElem?, List.getElem?_toArray, List.getElem?_cons_succ, List.getElem?_cons_zero, Option.getD_some, Nat.reduceAdd, List.nil_append, List.cons_append, En.get])))))
  refine fs_store rfl (fun f => rfl) (fun f it => it = [.blk p (.cells #[.bool true, .int .u64 u, .int .u64 v] 26 (0, 0))]) rfl ?_ (fun _ _ _ => rfl) ?_
  · intro f lof w1 Lf HF HK1 Q' hQ
    clear HF
    (try simp only [itms, itm, usesOf, readsOf, takesOf, List.find?, Nat.reduceBEq, List.flatMap_cons, List.flatMap_nil, Nat.reduceLT, if_true, if_false, Nat.reduceSub, List.getD_cons_zero, List.getD_cons_succ, List.append_nil, List.cons_append, List.nil_append, List.append_nil] at HK1)
    refine wpList_put_blk rfl HK1 26 _ _ rfl p #[.bool true, .int .u64 u, .int .u64 v] rfl rfl _ _ (.here _) rfl (by kernel_rfl) (by simp [Value.oneCell']) ?_
    intro w' hk
    exact hQ _ ⟨_, rfl, hk⟩
  (try simp only [Act.put, Act.eval, List.setIfInBounds_toArray, List.set_cons_zero, List.set_cons_succ, Array.getD_eq_getD_getElem?, List.getElem?_toArray, List.getElem?_cons_succ, List.getElem?_cons_zero, Option.getD_some, Nat.reduceAdd, List.nil_append, List.cons_append, En.get])
  refine fs_end ?_
  intro f lof wn HF hk
  have hl := HF 6 (by decide)
  (try simp only [itms, itm, usesOf, readsOf, takesOf, List.find?, Nat.reduceBEq, List.flatMap_cons, List.flatMap_nil, Nat.reduceLT, if_true, if_false, Nat.reduceSub, List.getD_cons_zero, List.getD_cons_succ, List.append_nil, List.cons_append, List.nil_append, show lof 6 = _ from hl] at hk)
  clear HF hl f lof
  clear HK
  have HK := Lib.hid hk
  clear hk
  go_wp2_with fail
  exact bodyPost_ret (results_cell_row rfl _ _ p _ _ _ _ rfl (HK.out.at (.here _)) Try.underlying26 rfl (by kernel_rfl)) rfl ⟨rfl, HK.out.grown⟩

set_option maxHeartbeats 8000000 in
set_option maxRecDepth 100000 in
theorem readA4_any (a : Option Addr) (n c : Nat) (xs : List Int) (w : World) (h : Rd .u8 w a n xs) (ho : okB 256 xs) (hn : 4 ≤ n) :
    Calls Try.prog 35 #[.slice a n c, .bool false] w fun e w' => e = .returned (ad4 xs).val ∧ w.grownBy w' none := by
  have HX := Lib.hid h
  have HO := Lib.hid ho
  have hr := beV_range 4 (xs.take 4) (by rw [List.length_take, h.1]; omega) (ok_take ho 4)
  obtain ⟨r0, r1⟩ := hr
  obtain ⟨v, hv⟩ : ∃ v, v = beV (xs.take 4) := ⟨_, rfl⟩
  have HV := Lib.hid hv
  rw [ad4, ← hv]
  rw [← hv] at r0 r1
  have r1 : v < 4294967296 := r1
  clear hv h ho
  show Calls Try.prog _ #[.slice a n c, .bool false] w fun e w' => e = .returned (.agg #[.bool false, .int .u64 (v * 4294967296), .int .u64 0]) ∧ w.grownBy w' none
  go_enter Try.func35, Try.ntmps35
  go_wp2_with fail
  have q4 := readU_any a n 4 c xs (w.alloc (Obj.cells #[Value.bool false, Value.int .u64 0, Value.int .u64 0] 26 (0, 0))) (HX.out.kept (World.grownBy_alloc _ _ _)) HO.out (by decide) hn
  rw [← HV.out] at q4
  refine q4.mono ?_
  rintro e w1 ⟨rfl, rfl⟩
  clear q4
  go_wp2_with fail
  exact bodyPost_ret (results_cell_row rfl _ _ w.heap.size _ _ _ _ rfl (alloc_at _ _ rfl) Try.underlying26 rfl (by kernel_rfl)) rfl ⟨rfl, World.grownBy_alloc _ _ _⟩

end Go.Proofs.Ytmankjhopfilaaa
