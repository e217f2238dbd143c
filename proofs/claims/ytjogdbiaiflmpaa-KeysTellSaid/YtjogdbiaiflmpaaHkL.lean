/- Extract, and the reference's Expand, walked. -/
import Derived.Test.YtjogdbiaiflmpaaHkK
namespace Go.Proofs.Ytjogdbiaiflmpaa
set_option linter.unusedVariables false
set_option linter.unusedSimpArgs false
open Go.RowKit Go.Proofs.YtjogdbiaiflmpaaL

set_option maxHeartbeats 8000000 in
set_option maxRecDepth 100000 in
theorem extract_any (B C : Bs) (w : World) (hb : B.ok w) (hc : C.ok w) :
    Calls Try.prog 14 #[B.val, C.val] w fun e w' => e = .returned (.agg (encK .u8 (hmac B.xs C.xs))) ∧ w.grownBy w' none := by
  obtain ⟨ad, n, cap, xs⟩ := B
  obtain ⟨bd, bn, bcap, ys⟩ := C
  have HB := Lib.hid (fun (w' : World) (g : w.grownBy w' none) => Bs.ok_keep hb g)
  have HC := Lib.hid (fun (w' : World) (g : w.grownBy w' none) => Bs.ok_keep hc g)
  clear hb hc
  show Calls Try.prog _ #[.slice ad n cap, .slice bd bn bcap] w fun e w' => e = .returned (.agg (encK .u8 (hmac xs ys))) ∧ w.grownBy w' none
  obtain ⟨M, hM⟩ : ∃ M, M = hmac xs ys := ⟨_, rfl⟩
  rw [← hM]
  have HM := Lib.hid hM
  have HML := Lib.hid (show M.length = 32 by rw [hM]; exact length_hmac _ _)
  clear hM
  have HK := Lib.hid (own_start w)
  go_enter Try.func14, Try.ntmps14
  go_wp2_with ((refine wpList_new_ints rfl HK.out _ rfl .u8 26 32 (zer 32) (length_zer _) (fun w => by go_simp; first | exact ⟨rfl, rfl⟩ | kernel_rfl) ?_))
  intro wn p4 hkn
  have HKN := Lib.hid hkn
  clear hkn HK
  have HK := HKN
  clear HKN
  go_wp2_with fail
  obtain ⟨sb, hsb⟩ : ∃ sb, wn.heap.size = sb := ⟨_, rfl⟩
  have hkb := HK.out.blk (.cells #[Value.slice bd bn bcap] 22 (0, 0)) hsb
  rw [hsb]
  clear hsb
  generalize wn.alloc (.cells #[Value.slice bd bn bcap] 22 (0, 0)) = wn at hkb ⊢
  clear HK
  have HK := Lib.hid hkb
  clear hkb
  have q4 := mac_any ⟨ad, n, cap, xs⟩ _ 1 1 [⟨bd, bn, bcap, ys⟩] _ (HB.out _ HK.out.grown) rfl (own_parts (bs := [⟨bd, bn, bcap, ys⟩]) HK.out (.here _) rfl) (one_ok (HC.out _ HK.out.grown)) (fun h => by cases h) (by decide)
  rw [show hmac (⟨ad, n, cap, xs⟩ : Bs).xs (catB [(⟨bd, bn, bcap, ys⟩ : Bs)]) = M by rw [cat_one]; exact HM.out.symm] at q4
  refine q4.mono ?_
  clear q4
  rintro e w7 ⟨rfl, hg⟩
  have hkb := HK.out.grow hg
  clear hg
  clear HK
  have HK := Lib.hid hkb
  clear hkb
  go_wp2_with (refine wpList_put_row rfl HK.out 26 _ _ rfl _ _ M rfl rfl _ _ _ (by first | exact Upd.here _ | exact Upd.next _ (Upd.here _) | exact Upd.next _ (Upd.next _ (Upd.here _)) | exact Upd.next _ (Upd.next _ (Upd.next _ (Upd.here _))) | exact Upd.next _ (Upd.next _ (Upd.next _ (Upd.next _ (Upd.here _)))) | exact Upd.next _ (Upd.next _ (Upd.next _ (Upd.next _ (Upd.next _ (Upd.here _))))) | exact Upd.next _ (Upd.next _ (Upd.next _ (Upd.next _ (Upd.next _ (Upd.next _ (Upd.here _)))))) | exact Upd.next _ (Upd.next _ (Upd.next _ (Upd.next _ (Upd.next _ (Upd.next _ (Upd.next _ (Upd.here _))))))) | exact Upd.next _ (Upd.next _ (Upd.next _ (Upd.next _ (Upd.next _ (Upd.next _ (Upd.next _ (Upd.next _ (Upd.here _)))))))) | exact Upd.next _ (Upd.next _ (Upd.next _ (Upd.next _ (Upd.next _ (Upd.next _ (Upd.next _ (Upd.next _ (Upd.next _ (Upd.here _)))))))))) (by exact HML.out) (by kernel_rfl) ?_; (intro wn hkn; have HKN := Lib.hid hkn; clear hkn; clear HK; have HK := HKN; clear HKN))
  exact bodyPost_ret (results_own rfl _ HK.out _ rfl (by first | exact Has.here _ | exact Has.next _ (Has.here _) | exact Has.next _ (Has.next _ (Has.here _)) | exact Has.next _ (Has.next _ (Has.next _ (Has.here _))) | exact Has.next _ (Has.next _ (Has.next _ (Has.next _ (Has.here _)))) | exact Has.next _ (Has.next _ (Has.next _ (Has.next _ (Has.next _ (Has.here _))))) | exact Has.next _ (Has.next _ (Has.next _ (Has.next _ (Has.next _ (Has.next _ (Has.here _)))))) | exact Has.next _ (Has.next _ (Has.next _ (Has.next _ (Has.next _ (Has.next _ (Has.next _ (Has.here _))))))) | exact Has.next _ (Has.next _ (Has.next _ (Has.next _ (Has.next _ (Has.next _ (Has.next _ (Has.next _ (Has.here _)))))))) | exact Has.next _ (Has.next _ (Has.next _ (Has.next _ (Has.next _ (Has.next _ (Has.next _ (Has.next _ (Has.next _ (Has.here _)))))))))) _ Try.underlying26 rfl (by kernel_rfl)) rfl ⟨rfl, HK.out.grown⟩

set_option maxHeartbeats 8000000 in
set_option maxRecDepth 100000 in
theorem rexpand_no (key : List Int) (v : Value) (n : Int) (w : World) (hkl : key.length = 32) (hn : n < 0 ∨ 8160 < n) :
    Calls Try.prog 15 #[.agg (encK .u8 key), v, .int .i64 n] w fun e w' => e = .returned (.tuple #[.slice none 0 0, .bool false]) ∧ w.grownBy w' none := by
  have HKL := Lib.hid hkl
  clear hkl
  go_enter Try.func15, Try.ntmps15
  rcases hn with hn | hn
  · go_wp2_with fail
    exact bodyPost_ret (results_tmp2 rfl _ _ _) rfl ⟨rfl, World.grownBy_alloc _ _ _⟩
  · go_wp2_with fail
    exact bodyPost_ret (results_tmp2 rfl _ _ _) rfl ⟨rfl, World.grownBy_alloc _ _ _⟩

theorem src_one {w : World} {p : Nat} {J : Int} {T : TypeId} {fr : Nat × Nat} {cs : Nat} (h : w.heap[p]? = some (.cells #[.int .u8 J] T fr)) : Go.Proofs.YtjogdbiaiflmpaaL.Src w (.slice (some ⟨p, 0, none⟩) 1 cs) ([J].map (Value.int .u8)) :=
  .inr ⟨⟨p, 0, none⟩, cs, rfl, fun j u hu => by
    have hj : j = 0 := by have := (List.getElem?_eq_some_iff.1 hu).1; simpa using this
    subst hj
    rw [Addr.add_mid, Nat.zero_add]
    simp [World.cell?, h] at hu ⊢
    exact hu⟩
set_option maxHeartbeats 8000000 in
set_option maxRecDepth 100000 in
theorem rexpand_any (key : List Int) (I : Bs) (n : Nat) (w : World) (hkl : key.length = 32) (hko : okB 256 key) (hi : I.ok w) (hil : I.len ≤ 1000) (hn : n ≤ 8160) :
    Calls Try.prog 15 #[.agg (encK .u8 key), I.val, .int .i64 (n : Int)] w fun e w' => ∃ a c, e = .returned (.tuple #[.slice a n c, .bool true]) ∧ w'.ownsRow w.heap.size 5 1 (.slice a n c) n ((expK key I.xs n).map (Value.int .u8)) ∧ w.grownBy w' none := by
  obtain ⟨ad, len, cap, xs⟩ := I
  have HI := Lib.hid (fun (w' : World) (g : w.grownBy w' none) => Bs.src (Bs.ok_keep hi g))
  have HXL := Lib.hid (show xs.length = len from hi.1.1)
  have HXO := Lib.hid (show okB 256 xs from hi.2.1)
  have hil' : len ≤ 1000 := hil
  clear hi hil
  show Calls Try.prog _ #[.agg (encK .u8 key), .slice ad len cap, .int .i64 (n : Int)] w _
  have HKO := Lib.hid hko
  have HKL := Lib.hid hkl
  have hn0 : (0 : Int) ≤ n := by omega
  have hn1 : (n : Int) ≤ 8160 := by omega
  clear hko hkl
  obtain ⟨p, hp⟩ : ∃ p, w.heap.size = p := ⟨_, rfl⟩
  have hk0 := (own_start w).ints .u8 26 32 key HKL.out hp
  have hk := hk0.nil 5 .u8
  have HK := Lib.hid hk
  have HP := Lib.hid hp
  clear hk hk0 hp
  go_enter Try.func15, Try.ntmps15
  go_wp2_with fail
  rw [HP.out]
  go_loopw [8, 9, 10] (fun v l i wr => ∃ (j : Nat) (a : Option Addr) (c : Nat) (la : Option Addr) (ll lc : Nat) (L1 : List It), j ≤ (n + 31) / 32 ∧ v = .slice a (32 * j) c ∧ l = .slice la ll lc ∧ ll ≤ 32 ∧ i = .int .i64 ((j : Int) + 1) ∧ Hid (Own w wr (.sl 5 .u8 a (32 * j) c (outK key xs j) :: .ints p .u8 26 32 key :: L1)) ∧ Hid ((lastK key xs j).length = ll) ∧ Hid (∀ w' L', Own w w' (L1 ++ L') → (⟨la, ll, lc, lastK key xs j⟩ : Bs).ok w')) (fun v _ _ _ => n + 64 - lenOf v)
  case atStart => exact ⟨0, none, 0, none, 0, 0, [], by omega, rfl, rfl, by omega, rfl, HK, Lib.hid rfl, Lib.hid (fun w' L' hk => ⟨⟨rfl, fun j hj => absurd hj (Nat.not_lt_zero _)⟩, (fun x hx => by cases hx), (fun _ => rfl), (show 0 ≤ 3000 by omega)⟩)⟩
  case round =>
    obtain ⟨j, a, c, la, ll, lc, L1, hj, rfl, rfl, hll, rfl, HK', HLL0, HLA⟩ := hrel
    clear HK
    have HK := HK'
    clear HK'
    obtain ⟨O, hO⟩ : ∃ O, O = 32 * j := ⟨_, rfl⟩
    rw [← hO] at HK ⊢
    by_cases hlt : O < n
    · have hlt' : (O : Int) < n := by omega
      have hO0 : (0 : Int) ≤ O := by omega
      have hj255 : j ≤ 254 := by omega
      have hO8 : O ≤ 8160 := by omega
      have hOn : O + 32 ≤ n + 32 := by omega
      have HO := Lib.hid hO
      have hj2 : j + 1 ≤ (n + 31) / 32 := by omega
      obtain ⟨J, hJ⟩ : ∃ J, J = (j : Int) + 1 := ⟨_, rfl⟩
      rw [← hJ]
      have HJ := Lib.hid hJ
      have hJ0 : 1 ≤ J := by omega
      have hJ1 : J ≤ 255 := by omega
      have HNL := Lib.hid (show lastK key xs (j + 1) = hmac key (lastK key xs j ++ xs ++ [J]) by rw [lastK, hJ]; congr 3; rw [Int.emod_eq_of_lt (by omega) (by omega)])
      have HNO := Lib.hid (show outK key xs (j + 1) = outK key xs j ++ lastK key xs (j + 1) from rfl)
      have HLL := Lib.hid (length_lastK key xs j)
      have HLO := Lib.hid (ok_lastK key xs (j + 1))
      have HLO0 := Lib.hid (ok_lastK key xs j)
      clear hO hj hJ
      obtain ⟨T0, hT0⟩ : ∃ T0, T0 = lastK key xs j := ⟨_, rfl⟩
      rw [← hT0] at HNL HLO0 HLL0 HLA
      clear hT0
      obtain ⟨T, hT⟩ : ∃ T, T = lastK key xs (j + 1) := ⟨_, rfl⟩
      rw [← hT] at HNO HLL HLO HNL
      have HT := Lib.hid hT
      clear hT
      go_upto_region 7 with fail
      have hkb := HK.out.nil 5 .u8
      clear HK
      have HK := Lib.hid hkb
      clear hkb
      have HJW := Lib.hid (show IntKind.u8.wrap J = J by rw [IntKind.wrap_u8]; omega)
      refine wp_region_sep [[.sl 5 .u8 none 0 0 []]] ([.sl 5 .u8 a O c (outK key xs j), .ints p .u8 26 32 key] ++ L1) [(2, [], [12]), (4, [], [2]), (8, [7], [4]), (9, [8], []), (11, [], [10])] [11] 12 (by kernel_rfl) (by kernel_rfl) (w0 := w) HK.out ?_
      (try simp only [Act.put, Act.eval, List.setIfInBounds_toArray, List.set_cons_zero, List.set_cons_succ, Array.getD_eq_getD_getElem?, List.getElem?_toArray, List.getElem?_cons_succ, List.getElem?_cons_zero, Option.getD_some, Nat.reduceAdd, List.nil_append, List.cons_append, En.get])
      (repeat (first | (refine fs_skip rfl (fun f => rfl) ?_; (try simp only [Act.put, Act.eval, List.setIfInBounds_toArray, List.set_cons_zero, List.set_cons_succ, Array.getD_eq_getD_getElem?, List.getElem?_toArray, List.getElem?_cons_succ, List.getElem?_cons_zero, Option.getD_some, Nat.reduceAdd, List.nil_append, List.cons_append, En.get])) | (refine fs_move _ rfl rfl (fun f => rfl) rfl ?_ ?_; ((first | exact fun _ _ _ => rfl | exact fun f f' hcg => hcg _ (by kernel_rfl) | (intro f f' hcg; rw [hcg]; kernel_rfl) | (intro f f' hcg; rw [hcg, hcg]; (kernel_rfl; kernel_rfl)) | exact trivial)); (try simp only [Act.put, Act.eval, List.setIfInBounds_toArray, List.set_cons_zero, List.set_cons_succ, Array.getD_eq_getD_getElem?, List.getElem?_toArray, List.getElem?_cons_succ, List.getElem?_cons_zero, Option.getD_some, Nat.reduceAdd, List.nil_append, List.cons_append, En.get])) | (refine fs_assign _ rfl rfl (fun f => rfl) rfl ?_ ?_; ((first | exact fun _ _ _ => rfl | exact fun f f' hcg => hcg _ (by kernel_rfl) | (intro f f' hcg; rw [hcg]; kernel_rfl) | (intro f f' hcg; rw [hcg, hcg]; (kernel_rfl; kernel_rfl)) | exact trivial)); (try simp only [Act.put, Act.eval, List.setIfInBounds_toArray, List.set_cons_zero, List.set_cons_succ, Array.getD_eq_getD_getElem?, List.getElem?_toArray, List.getElem?_cons_succ, List.getElem?_cons_zero, Option.getD_some, Nat.reduceAdd, List.nil_append, List.cons_append, En.get])) | (fail) | (refine fs_pure rfl (fun f => rfl) rfl ?_ ?_ ?_ ?_; (rotate_left; (intro f w1; (skip); go_simp; (first | done | with_reducible rfl)); ((first | exact fun _ _ _ => rfl | exact fun f f' hcg => hcg _ (by kernel_rfl) | (intro f f' hcg; rw [hcg]; kernel_rfl) | (intro f f' hcg; rw [hcg, hcg]; (kernel_rfl; kernel_rfl)) | exact trivial)); (try simp only [Act.put, Act.eval, List.setIfInBounds_toArray, List.set_cons_zero, List.set_cons_succ, Array.getD_eq_getD_getElem?, List.getElem?_toArray, List.getElem?_cons_succ, List.getElem?_cons_zero, Option.getD_some, Nat.reduceAdd, List.nil_append, List.cons_append, En.get])))))
      refine fs_list rfl (fun f => rfl) (.res (fun _ v it => ∃ a c, v = .slice a ll c ∧ it = [.sl 5 .u8 a ll c T0])) (fun f => ⟨_, rfl, Nat.le_of_ble_eq_true rfl⟩) ?_ (fun _ _ _ => rfl) ?_
      · intro f lof w1 Lf HF HK1 Q' hQ
        clear HF
        (try simp only [itms, itm, usesOf, readsOf, takesOf, List.find?, Nat.reduceBEq, List.flatMap_cons, List.flatMap_nil, Nat.reduceLT, if_true, if_false, Nat.reduceSub, List.getD_cons_zero, List.getD_cons_succ, List.append_nil, List.cons_append, List.nil_append, List.append_nil] at HK1)
        have hsrc := Bs.src (HLA.out _ _ (HK1.sub (.cons _ (.cons _ (.cons _ (.refl _))))))
        refine wpList_app_own rfl HK1 _ _ 22 rfl 5 (.int .u8 0) 1 Try.underlying22 (by kernel_rfl) rfl .u8 _ _ _ _ rfl (.here _) _ ll T0 rfl HLL0.out hsrc (by unfold maxLen; omega) (by omega) ?_
        intro a' c' w' hk
        rw [Nat.zero_add, List.nil_append] at hk
        rw [Nat.zero_add]
        exact hQ _ _ ⟨_, ⟨a', c', rfl, rfl⟩, hk⟩
      (try simp only [Act.put, Act.eval, List.setIfInBounds_toArray, List.set_cons_zero, List.set_cons_succ, Array.getD_eq_getD_getElem?, List.getElem?_toArray, List.getElem?_cons_succ, List.getElem?_cons_zero, Option.getD_some, Nat.reduceAdd, List.nil_append, List.cons_append, En.get])
      (repeat (first | (refine fs_skip rfl (fun f => rfl) ?_; (try simp only [Act.put, Act.eval, List.setIfInBounds_toArray, List.set_cons_zero, List.set_cons_succ, Array.getD_eq_getD_getElem?, List.getElem?_toArray, List.getElem?_cons_succ, List.getElem?_cons_zero, Option.getD_some, Nat.reduceAdd, List.nil_append, List.cons_append, En.get])) | (refine fs_move _ rfl rfl (fun f => rfl) rfl ?_ ?_; ((first | exact fun _ _ _ => rfl | exact fun f f' hcg => hcg _ (by kernel_rfl) | (intro f f' hcg; rw [hcg]; kernel_rfl) | (intro f f' hcg; rw [hcg, hcg]; (kernel_rfl; kernel_rfl)) | exact trivial)); (try simp only [Act.put, Act.eval, List.setIfInBounds_toArray, List.set_cons_zero, List.set_cons_succ, Array.getD_eq_getD_getElem?, List.getElem?_toArray, List.getElem?_cons_succ, List.getElem?_cons_zero, Option.getD_some, Nat.reduceAdd, List.nil_append, List.cons_append, En.get])) | (refine fs_assign _ rfl rfl (fun f => rfl) rfl ?_ ?_; ((first | exact fun _ _ _ => rfl | exact fun f f' hcg => hcg _ (by kernel_rfl) | (intro f f' hcg; rw [hcg]; kernel_rfl) | (intro f f' hcg; rw [hcg, hcg]; (kernel_rfl; kernel_rfl)) | exact trivial)); (try simp only [Act.put, Act.eval, List.setIfInBounds_toArray, List.set_cons_zero, List.set_cons_succ, Array.getD_eq_getD_getElem?, List.getElem?_toArray, List.getElem?_cons_succ, List.getElem?_cons_zero, Option.getD_some, Nat.reduceAdd, List.nil_append, List.cons_append, En.get])) | (fail) | (refine fs_pure rfl (fun f => rfl) rfl ?_ ?_ ?_ ?_; (rotate_left; (intro f w1; (skip); go_simp; (first | done | with_reducible rfl)); ((first | exact fun _ _ _ => rfl | exact fun f f' hcg => hcg _ (by kernel_rfl) | (intro f f' hcg; rw [hcg]; kernel_rfl) | (intro f f' hcg; rw [hcg, hcg]; (kernel_rfl; kernel_rfl)) | exact trivial)); (try simp only [Act.put, Act.eval, List.setIfInBounds_toArray, List.set_cons_zero, List.set_cons_succ, Array.getD_eq_getD_getElem?, List.getElem?_toArray, List.getElem?_cons_succ, List.getElem?_cons_zero, Option.getD_some, Nat.reduceAdd, List.nil_append, List.cons_append, En.get])))))
      refine fs_list rfl (fun f => rfl) (.res (fun _ v it => ∃ a c, v = .slice a (ll + len) c ∧ it = [.sl 5 .u8 a (ll + len) c (T0 ++ xs)])) (fun f => ⟨_, rfl, Nat.le_of_ble_eq_true rfl⟩) ?_ (fun _ _ _ => rfl) ?_
      · intro f lof w1 Lf HF HK1 Q' hQ
        obtain ⟨a3, c3, hv, hl⟩ := HF 2 (by kernel_rfl)
        clear HF
        (try simp only [itms, itm, usesOf, readsOf, takesOf, List.find?, Nat.reduceBEq, List.flatMap_cons, List.flatMap_nil, Nat.reduceLT, if_true, if_false, Nat.reduceSub, List.getD_cons_zero, List.getD_cons_succ, List.append_nil, List.cons_append, List.nil_append, hl] at HK1)
        refine wpList_app_own rfl HK1 _ _ 22 rfl 5 (.int .u8 0) 1 Try.underlying22 (by kernel_rfl) rfl .u8 _ _ _ _ hv (.here _) _ len xs rfl HXL.out (HI.out _ HK1.grown) (by unfold maxLen; omega) (by omega) ?_
        intro a' c' w' hk
        exact hQ _ _ ⟨_, ⟨a', c', rfl, rfl⟩, hk⟩
      (try simp only [Act.put, Act.eval, List.setIfInBounds_toArray, List.set_cons_zero, List.set_cons_succ, Array.getD_eq_getD_getElem?, List.getElem?_toArray, List.getElem?_cons_succ, List.getElem?_cons_zero, Option.getD_some, Nat.reduceAdd, List.nil_append, List.cons_append, En.get])
      (repeat (first | (refine fs_skip rfl (fun f => rfl) ?_; (try simp only [Act.put, Act.eval, List.setIfInBounds_toArray, List.set_cons_zero, List.set_cons_succ, Array.getD_eq_getD_getElem?, List.getElem?_toArray, List.getElem?_cons_succ, List.getElem?_cons_zero, Option.getD_some, Nat.reduceAdd, List.nil_append, List.cons_append, En.get])) | (refine fs_move _ rfl rfl (fun f => rfl) rfl ?_ ?_; ((first | exact fun _ _ _ => rfl | exact fun f f' hcg => hcg _ (by kernel_rfl) | (intro f f' hcg; rw [hcg]; kernel_rfl) | (intro f f' hcg; rw [hcg, hcg]; (kernel_rfl; kernel_rfl)) | exact trivial)); (try simp only [Act.put, Act.eval, List.setIfInBounds_toArray, List.set_cons_zero, List.set_cons_succ, Array.getD_eq_getD_getElem?, List.getElem?_toArray, List.getElem?_cons_succ, List.getElem?_cons_zero, Option.getD_some, Nat.reduceAdd, List.nil_append, List.cons_append, En.get])) | (refine fs_assign _ rfl rfl (fun f => rfl) rfl ?_ ?_; ((first | exact fun _ _ _ => rfl | exact fun f f' hcg => hcg _ (by kernel_rfl) | (intro f f' hcg; rw [hcg]; kernel_rfl) | (intro f f' hcg; rw [hcg, hcg]; (kernel_rfl; kernel_rfl)) | exact trivial)); (try simp only [Act.put, Act.eval, List.setIfInBounds_toArray, List.set_cons_zero, List.set_cons_succ, Array.getD_eq_getD_getElem?, List.getElem?_toArray, List.getElem?_cons_succ, List.getElem?_cons_zero, Option.getD_some, Nat.reduceAdd, List.nil_append, List.cons_append, En.get])) | (fail) | (refine fs_pure rfl (fun f => rfl) rfl ?_ ?_ ?_ ?_; (rotate_left; (intro f w1; ((have hjw := HJW.out)); go_simp; (first | done | with_reducible rfl)); ((first | exact fun _ _ _ => rfl | exact fun f f' hcg => hcg _ (by kernel_rfl) | (intro f f' hcg; rw [hcg]; kernel_rfl) | (intro f f' hcg; rw [hcg, hcg]; (kernel_rfl; kernel_rfl)) | exact trivial)); (try simp only [Act.put, Act.eval, List.setIfInBounds_toArray, List.set_cons_zero, List.set_cons_succ, Array.getD_eq_getD_getElem?, List.getElem?_toArray, List.getElem?_cons_succ, List.getElem?_cons_zero, Option.getD_some, Nat.reduceAdd, List.nil_append, List.cons_append, En.get])))))
      refine fs_lit rfl (fun f => rfl) rfl 1 #[.int .u8 J] 5 (fun f w1 => by go_simp; first | done | exact ⟨rfl, rfl⟩ | rfl) ?_
      (try simp only [Act.put, Act.eval, List.setIfInBounds_toArray, List.set_cons_zero, List.set_cons_succ, Array.getD_eq_getD_getElem?, List.getElem?_toArray, List.getElem?_cons_succ, List.getElem?_cons_zero, Option.getD_some, Nat.reduceAdd, List.nil_append, List.cons_append, En.get])
      refine fs_list rfl (fun f => rfl) (.res (fun _ v it => ∃ a c, v = .slice a (ll + len + 1) c ∧ it = [.sl 5 .u8 a (ll + len + 1) c (T0 ++ xs ++ [J])])) (fun f => ⟨_, rfl, Nat.le_of_ble_eq_true rfl⟩) ?_ (fun _ _ _ => rfl) ?_
      · intro f lof w1 Lf HF HK1 Q' hQ
        obtain ⟨a3, c3, hv, hl⟩ := HF 4 (by kernel_rfl)
        obtain ⟨p7, hv7, hl7⟩ := HF 7 (by kernel_rfl)
        clear HF
        (try simp only [itms, itm, usesOf, readsOf, takesOf, List.find?, Nat.reduceBEq, List.flatMap_cons, List.flatMap_nil, Nat.reduceLT, if_true, if_false, Nat.reduceSub, List.getD_cons_zero, List.getD_cons_succ, List.append_nil, List.cons_append, List.nil_append, hl, hl7] at HK1)
        have hr7 := HK1.at (.here _)
        refine wpList_app_own rfl HK1 _ _ 22 rfl 5 (.int .u8 0) 1 Try.underlying22 (by kernel_rfl) rfl .u8 _ _ _ _ hv (.next _ (.here _)) _ 1 [J] hv7 rfl (src_one hr7) (by unfold maxLen; omega) (by omega) ?_
        intro a' c' w' hk
        refine hQ _ _ ⟨_, ⟨a', c', rfl, rfl⟩, ?_⟩
        (try simp only [itms, itm, usesOf, readsOf, takesOf, List.find?, Nat.reduceBEq, List.flatMap_cons, List.flatMap_nil, Nat.reduceLT, if_true, if_false, Nat.reduceSub, List.getD_cons_zero, List.getD_cons_succ, List.append_nil, List.cons_append, List.nil_append, hl7] at ⊢)
        exact hk
      (try simp only [Act.put, Act.eval, List.setIfInBounds_toArray, List.set_cons_zero, List.set_cons_succ, Array.getD_eq_getD_getElem?, List.getElem?_toArray, List.getElem?_cons_succ, List.getElem?_cons_zero, Option.getD_some, Nat.reduceAdd, List.nil_append, List.cons_append, En.get])
      refine fs_callv rfl (fun f => rfl) rfl 13 _ _ rfl (fun args w => by simp [callFunc, Try.func13]; rfl) (fun _ => .agg (encK .u8 T)) ?_ (fun _ _ _ => rfl) ?_
      · intro f lof w1 Lf HF HK1
        obtain ⟨a3, c3, hv, hl⟩ := HF 8 (by kernel_rfl)
        (try simp only [itms, itm, usesOf, readsOf, takesOf, List.find?, Nat.reduceBEq, List.flatMap_cons, List.flatMap_nil, Nat.reduceLT, if_true, if_false, Nat.reduceSub, List.getD_cons_zero, List.getD_cons_succ, List.append_nil, List.cons_append, List.nil_append, hl] at HK1)
        simp only [List.map_toArray, List.map_cons, List.map_nil, Act.eval, Array.getD_eq_getD_getElem?, List.getElem?_toArray, List.getElem?_cons_succ, List.getElem?_cons_zero, Option.getD_some, hv]
        clear HF hv hl
        have q1 := own_bsi HK1 (.next _ (.next _ (.here _))) HKO.out (by omega)
        have HX3 := Lib.hid (show okB 256 (T0 ++ xs ++ [J]) from ok_app (ok_app HLO0.out HXO.out) (ok_small (by omega) (by omega)))
        have q2 := own_bs HK1 (.here _) HX3.out (by omega)
        have q4 := rmac_any ⟨some ⟨p, 0, none⟩, 32, 32, key⟩ ⟨a3, ll + len + 1, c3, T0 ++ xs ++ [J]⟩ _ q1 q2 (show ll + len + 1 ≤ 2000 by omega)
        rw [show hmac (⟨some ⟨p, 0, none⟩, 32, 32, key⟩ : Bs).xs (⟨a3, ll + len + 1, c3, T0 ++ xs ++ [J]⟩ : Bs).xs = T from HNL.out.symm] at q4
        exact q4
      (try simp only [Act.put, Act.eval, List.setIfInBounds_toArray, List.set_cons_zero, List.set_cons_succ, Array.getD_eq_getD_getElem?, List.getElem?_toArray, List.getElem?_cons_succ, List.getElem?_cons_zero, Option.getD_some, Nat.reduceAdd, List.nil_append, List.cons_append, En.get])
      refine fs_list rfl (fun f => rfl) (.res (fun _ v it => ∃ q, v = .pointer (some ⟨q, 0, none⟩) ∧ it = [.ints q .u8 26 32 (zer 32)])) (fun f => ⟨_, rfl, Nat.le_of_ble_eq_true rfl⟩) ?_ (fun _ _ _ => rfl) ?_
      · intro f lof w1 Lf HF HK1 Q' hQ
        clear HF
        refine wpList_new_ints rfl HK1 _ rfl .u8 26 32 (zer 32) (length_zer _) (fun w => by go_simp; first | exact ⟨rfl, rfl⟩ | kernel_rfl) ?_
        intro w' q hk
        exact hQ _ _ ⟨_, ⟨q, rfl, rfl⟩, hk⟩
      (try simp only [Act.put, Act.eval, List.setIfInBounds_toArray, List.set_cons_zero, List.set_cons_succ, Array.getD_eq_getD_getElem?, List.getElem?_toArray, List.getElem?_cons_succ, List.getElem?_cons_zero, Option.getD_some, Nat.reduceAdd, List.nil_append, List.cons_append, En.get])
      refine fs_store rfl (fun f => rfl) (fun f it => ∃ q, f 10 = .pointer (some ⟨q, 0, none⟩) ∧ it = [.ints q .u8 26 32 T]) rfl ?_ (fun f f' h => by rw [h 10 (by kernel_rfl)]) ?_
      · intro f lof w1 Lf HF HK1 Q' hQ
        obtain ⟨q, hv, hl⟩ := HF 10 (by kernel_rfl)
        clear HF
        (try simp only [itms, itm, usesOf, readsOf, takesOf, List.find?, Nat.reduceBEq, List.flatMap_cons, List.flatMap_nil, Nat.reduceLT, if_true, if_false, Nat.reduceSub, List.getD_cons_zero, List.getD_cons_succ, List.append_nil, List.cons_append, List.nil_append, hl] at HK1)
        refine wpList_put_row rfl HK1 26 _ _ rfl _ _ T hv rfl _ _ _ (.here _) (by exact HLL.out) (by kernel_rfl) ?_
        intro w' hk
        exact hQ _ ⟨_, ⟨q, hv, rfl⟩, hk⟩
      (try simp only [Act.put, Act.eval, List.setIfInBounds_toArray, List.set_cons_zero, List.set_cons_succ, Array.getD_eq_getD_getElem?, List.getElem?_toArray, List.getElem?_cons_succ, List.getElem?_cons_zero, Option.getD_some, Nat.reduceAdd, List.nil_append, List.cons_append, En.get])
      refine fs_end ?_
      intro f lof wn HF hk
      obtain ⟨q, hv, hl⟩ := HF 11 (by decide)
      (try simp only [itms, itm, usesOf, readsOf, takesOf, List.find?, Nat.reduceBEq, List.flatMap_cons, List.flatMap_nil, Nat.reduceLT, if_true, if_false, Nat.reduceSub, List.getD_cons_zero, List.getD_cons_succ, List.append_nil, List.cons_append, List.nil_append, hl] at hk)
      rw [hv]
      generalize f 2 = x2
      generalize f 4 = x4
      generalize f 7 = x7
      generalize f 8 = x8
      clear HF hv hl f lof
      clear HK
      have HK := Lib.hid hk
      clear hk
      go_wp2_with (refine wpList_stop 37 rfl ?_)
      rintro w' rfl
      have hsrc := rdsrc (cap := 32) (HK.out.rd (.here _))
      refine wpList_app_own rfl HK.out _ _ 22 rfl 5 (.int .u8 0) 1 Try.underlying22 (by kernel_rfl) rfl .u8 _ _ _ _ rfl (by first | exact Del.here _ | exact Del.next _ (Del.here _) | exact Del.next _ (Del.next _ (Del.here _)) | exact Del.next _ (Del.next _ (Del.next _ (Del.here _))) | exact Del.next _ (Del.next _ (Del.next _ (Del.next _ (Del.here _)))) | exact Del.next _ (Del.next _ (Del.next _ (Del.next _ (Del.next _ (Del.here _))))) | exact Del.next _ (Del.next _ (Del.next _ (Del.next _ (Del.next _ (Del.next _ (Del.here _)))))) | exact Del.next _ (Del.next _ (Del.next _ (Del.next _ (Del.next _ (Del.next _ (Del.next _ (Del.here _))))))) | exact Del.next _ (Del.next _ (Del.next _ (Del.next _ (Del.next _ (Del.next _ (Del.next _ (Del.next _ (Del.here _)))))))) | exact Del.next _ (Del.next _ (Del.next _ (Del.next _ (Del.next _ (Del.next _ (Del.next _ (Del.next _ (Del.next _ (Del.here _)))))))))) (.slice (some ⟨q, 0, none⟩) 32 32) 32 T rfl HLL.out hsrc (by unfold maxLen; omega) (by omega) ?_
      intro a2 c2 wn hk
      clear hsrc
      rw [← HNO.out] at hk
      clear HK
      have HK := Lib.hid hk
      clear hk
      go_wp2_with fail
      have hke : Own w wn (.sl 5 .u8 a2 (O + 32) c2 (outK key xs (j + 1)) :: .ints p .u8 26 32 key :: [.ints q .u8 26 32 T]) := by
        have h1 := ((HK.out.front (.next _ (.next _ (.here _)))).front (.next _ (.here _)))
        exact h1.sub (List.Sublist.cons_cons _ (List.Sublist.cons_cons _ (List.Sublist.cons_cons _ (List.nil_sublist _))))
      exact ⟨⟨j + 1, a2, c2, some ⟨q, 0, none⟩, 32, 32, [.ints q .u8 26 32 T], hj2, by rw [HO.out]; rfl, rfl, by omega, by rw [HJ.out]; rfl, by rw [show 32 * (j + 1) = O + 32 by rw [HO.out]; rfl]; exact Lib.hid hke, by rw [← HT.out]; exact HLL, Lib.hid (fun w' L' hk => by rw [← HT.out]; exact ⟨hk.rd (.here _), HLO.out, (fun h => by cases h), (show 32 ≤ 3000 by decide)⟩)⟩, by simp [lenOf]; omega⟩
    · have hjn : j = (n + 31) / 32 := by omega
      have hnO : n ≤ O := by omega
      have hO8 : O ≤ 8192 := by omega
      have hO9 : (n : Int) ≤ O := by omega
      have hcap := (HK.out.cap (.here _))
      have hOc : O ≤ c := hcap.1
      have hnc : n ≤ c := by omega
      have hnci : (n : Int) ≤ c := by omega
      have HCP := Lib.hid hcap
      have HE := Lib.hid (show expK key xs n = (outK key xs j).take n by rw [expK, hjn])
      clear hlt hj hO hcap hjn
      go_wp2_with fail
      have ho := (HK.out.trunc n (.here _) hnO).get (.here _)
      refine bodyPost_ret (results_tmp2 rfl _ _ _) rfl ⟨a, c, rfl, ?_, HK.out.grown⟩
      rw [HE.out]
      exact ho
end Go.Proofs.Ytjogdbiaiflmpaa
