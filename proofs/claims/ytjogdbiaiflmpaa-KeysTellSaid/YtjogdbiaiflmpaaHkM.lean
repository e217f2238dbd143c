/- Mix, and the reference's, walked. -/
import Derived.Test.YtjogdbiaiflmpaaHkL
namespace Go.Proofs.Ytjogdbiaiflmpaa
set_option linter.unusedVariables false
set_option linter.unusedSimpArgs false
open Go.RowKit Go.Proofs.YtjogdbiaiflmpaaL

/-- The bytes that Mix parts into two keys. -/
def mixK (key xs : List Int) : List Int := expK (hmac key xs) [] 64
theorem length_mixK (key xs : List Int) : (mixK key xs).length = 64 := length_expK _ _ _
theorem nil_ok (w : World) : (⟨none, 0, 0, []⟩ : Bs).ok w := ⟨⟨rfl, fun j hj => absurd hj (Nat.not_lt_zero _)⟩, (fun x hx => by cases hx), (fun _ => rfl), (show 0 ≤ 3000 by omega)⟩

set_option maxHeartbeats 8000000 in
set_option maxRecDepth 100000 in
theorem mix_any (key : List Int) (I : Bs) (w : World) (hkl : key.length = 32) (hko : okB 256 key) (hi : I.ok w) :
    Calls Try.prog 16 #[.agg (encK .u8 key), I.val] w fun e w' => e = .returned (.tuple #[.agg (encK .u8 ((mixK key I.xs).take 32)), .agg (encK .u8 ((mixK key I.xs).drop 32))]) ∧ w.grownBy w' none := by
  obtain ⟨ad, len, cap, xs⟩ := I
  have HI := Lib.hid (fun (w' : World) (g : w.grownBy w' none) => Bs.ok_keep hi g)
  clear hi
  show Calls Try.prog _ #[.agg (encK .u8 key), .slice ad len cap] w fun e w' => e = .returned (.tuple #[.agg (encK .u8 ((mixK key xs).take 32)), .agg (encK .u8 ((mixK key xs).drop 32))]) ∧ w.grownBy w' none
  have HKO := Lib.hid hko
  have HKL := Lib.hid hkl
  clear hko hkl
  obtain ⟨M, hM⟩ : ∃ M, M = hmac key xs := ⟨_, rfl⟩
  obtain ⟨E, hE⟩ : ∃ E, E = mixK key xs := ⟨_, rfl⟩
  have HM := Lib.hid hM
  have HE := Lib.hid (show expK M [] 64 = E by rw [hE, mixK, hM])
  have HML := Lib.hid (show M.length = 32 by rw [hM]; exact length_hmac _ _)
  have HMO := Lib.hid (show okB 256 M by rw [hM]; exact ok_hmac _ _)
  have HEL := Lib.hid (show E.length = 64 by rw [hE]; exact length_mixK _ _)
  rw [← hE]
  clear hM hE
  obtain ⟨E1, hE1⟩ : ∃ E1, E1 = E.take 32 := ⟨_, rfl⟩
  obtain ⟨E2, hE2⟩ : ∃ E2, E2 = E.drop 32 := ⟨_, rfl⟩
  rw [← hE1, ← hE2]
  have HE1 := Lib.hid hE1
  have HE2 := Lib.hid hE2
  have HL1 := Lib.hid (show E1.length = 32 by rw [hE1, List.length_take, HEL.out]; rfl)
  have HL2 := Lib.hid (show E2.length = 32 by rw [hE2, List.length_drop, HEL.out])
  clear hE1 hE2
  obtain ⟨p, hp⟩ : ∃ p, w.heap.size = p := ⟨_, rfl⟩
  have hk0 := (own_start w).ints .u8 26 32 key HKL.out hp
  have HK := Lib.hid hk0
  have HP := Lib.hid hp
  clear hk0 hp
  go_enter Try.func16, Try.ntmps16
  go_wp2_with (first | (refine wpList_new_ints rfl HK.out _ rfl .u8 26 32 (zer 32) (length_zer _) (fun w => by go_simp; first | exact ⟨rfl, rfl⟩ | kernel_rfl) ?_) | fail)
  rw [HP.out]
  intro wn p4 hkn
  have HKN := Lib.hid hkn
  clear hkn HK
  have HK := HKN
  clear HKN
  go_wp2_with ((refine wpList_new_ints rfl HK.out _ rfl .u8 26 32 (zer 32) (length_zer _) (fun w => by go_simp; first | exact ⟨rfl, rfl⟩ | kernel_rfl) ?_))
  intro wn p5 hkn
  have HKN := Lib.hid hkn
  clear hkn HK
  have HK := HKN
  clear HKN
  go_wp2_with fail
  have q4 := extract_any ⟨some ⟨p, 0, none⟩, 32, 32, key⟩ ⟨ad, len, cap, xs⟩ _ (own_bsi HK.out (.next _ (.next _ (.here _))) HKO.out (by omega)) (HI.out _ HK.out.grown)
  rw [show hmac (⟨some ⟨p, 0, none⟩, 32, 32, key⟩ : Bs).xs (⟨ad, len, cap, xs⟩ : Bs).xs = M from HM.out.symm] at q4
  refine q4.mono ?_
  clear q4
  rintro e w7 ⟨rfl, hg⟩
  have hkb := HK.out.grow hg
  clear hg
  clear HK
  have HK := Lib.hid hkb
  clear hkb
  go_wp2_with fail
  have q5 := expand_own M ⟨none, 0, 0, []⟩ 64 w7 HML.out HMO.out (nil_ok _) (by decide)
  refine q5.mono ?_
  clear q5
  rintro e w8 ⟨a, c, rfl, ho, hg⟩
  rw [show expK M (⟨none, 0, 0, []⟩ : Bs).xs 64 = E from HE.out] at ho
  obtain ⟨a', c', he, hkb⟩ := HK.out.sl hg ho
  injection he with e1 e2 e3
  subst e1 e3
  clear ho hg
  clear HK
  have HK := Lib.hid hkb
  clear hkb
  obtain ⟨g, rfl, hc64⟩ := HK.out.addr (.here _) (by decide)
  have hc32 : ¬ c = 32 := by omega
  have h32c : 32 ≤ c := by omega
  have h32d : (32 : Int) ≤ c := by omega
  have HC := Lib.hid hc64
  clear hc64
  go_upto_region 2 with fail
  have hk1 := (HK.out.front (.next _ (.next _ (.here _)))).front (.next _ (.next _ (.here _)))
  clear HK
  have HK := Lib.hid hk1
  clear hk1
  refine wp_region_sep [[.ints p5 .u8 26 32 (zer 32)], [.ints p4 .u8 26 32 (zer 32)]] [.sl 5 .u8 (some ⟨g, 0, none⟩) 64 c E, .ints p .u8 26 32 key] [(8, [], [11]), (9, [], [10])] [9, 8] 10 (by kernel_rfl) (by kernel_rfl) (w0 := w) HK.out ?_
  (try simp only [Act.put, Act.eval, List.setIfInBounds_toArray, List.set_cons_zero, List.set_cons_succ, Array.getD_eq_getD_getElem?, List.getElem?_toArray, List.getElem?_cons_succ, List.getElem?_cons_zero, Option.getD_some, Nat.reduceAdd, List.nil_append, List.cons_append, En.get])
  (repeat (first | (refine fs_skip rfl (fun f => rfl) ?_; (try simp only [Act.put, Act.eval, List.setIfInBounds_toArray, List.set_cons_zero, List.set_cons_succ, Array.getD_eq_getD_getElem?, List.getElem?_toArray, List.getElem?_cons_succ, List.getElem?_cons_zero, Option.getD_some, Nat.reduceAdd, List.nil_append, List.cons_append, En.get])) | (refine fs_move _ rfl rfl (fun f => rfl) rfl ?_ ?_; ((first | exact fun _ _ _ => rfl | exact fun f f' hcg => hcg _ (by kernel_rfl) | (intro f f' hcg; rw [hcg]; kernel_rfl) | (intro f f' hcg; rw [hcg, hcg]; (kernel_rfl; kernel_rfl)) | exact trivial)); (try simp only [Act.put, Act.eval, List.setIfInBounds_toArray, List.set_cons_zero, List.set_cons_succ, Array.getD_eq_getD_getElem?, List.getElem?_toArray, List.getElem?_cons_succ, List.getElem?_cons_zero, Option.getD_some, Nat.reduceAdd, List.nil_append, List.cons_append, En.get])) | (refine fs_assign _ rfl rfl (fun f => rfl) rfl ?_ ?_; ((first | exact fun _ _ _ => rfl | exact fun f f' hcg => hcg _ (by kernel_rfl) | (intro f f' hcg; rw [hcg]; kernel_rfl) | (intro f f' hcg; rw [hcg, hcg]; (kernel_rfl; kernel_rfl)) | exact trivial)); (try simp only [Act.put, Act.eval, List.setIfInBounds_toArray, List.set_cons_zero, List.set_cons_succ, Array.getD_eq_getD_getElem?, List.getElem?_toArray, List.getElem?_cons_succ, List.getElem?_cons_zero, Option.getD_some, Nat.reduceAdd, List.nil_append, List.cons_append, En.get])) | (fail) | (refine fs_pure rfl (fun f => rfl) rfl ?_ ?_ ?_ ?_; (rotate_left; (intro f w1; (skip); go_simp; (first | done | with_reducible rfl)); ((first | exact fun _ _ _ => rfl | exact fun f f' hcg => hcg _ (by kernel_rfl) | (intro f f' hcg; rw [hcg]; kernel_rfl) | (intro f f' hcg; rw [hcg, hcg]; (kernel_rfl; kernel_rfl)) | exact trivial)); (try simp only [Act.put, Act.eval, List.setIfInBounds_toArray, List.set_cons_zero, List.set_cons_succ, Array.getD_eq_getD_getElem?, List.getElem?_toArray, List.getElem?_cons_succ, List.getElem?_cons_zero, Option.getD_some, Nat.reduceAdd, List.nil_append, List.cons_append, En.get])))))
  refine fs_pure rfl (fun f => rfl) rfl (fun _ => .pointer (some ⟨g, 0, none⟩)) (fun f w1 => run_arp rfl rfl Try.underlying26 (by decide)) (fun _ _ _ => rfl) ?_
  (try simp only [Act.put, Act.eval, List.setIfInBounds_toArray, List.set_cons_zero, List.set_cons_succ, Array.getD_eq_getD_getElem?, List.getElem?_toArray, List.getElem?_cons_succ, List.getElem?_cons_zero, Option.getD_some, Nat.reduceAdd, List.nil_append, List.cons_append, En.get])
  refine fs_read rfl (fun f => rfl) rfl (fun _ => .agg (encK .u8 E1)) ?_ (fun _ _ _ => rfl) ?_
  · intro f lof w1 Lf HF HK1
    clear HF
    (try simp only [itms, itm, usesOf, readsOf, takesOf, List.find?, Nat.reduceBEq, List.flatMap_cons, List.flatMap_nil, Nat.reduceLT, if_true, if_false, Nat.reduceSub, List.getD_cons_zero, List.getD_cons_succ, List.append_nil, List.cons_append, List.nil_append, List.append_nil] at HK1)
    exact run_loadr rfl rfl (by rw [HE1.out]; exact rdfront (HK1.rdsl (.here _)) 32 (by decide)) Try.underlying26 (by kernel_rfl)
  (try simp only [Act.put, Act.eval, List.setIfInBounds_toArray, List.set_cons_zero, List.set_cons_succ, Array.getD_eq_getD_getElem?, List.getElem?_toArray, List.getElem?_cons_succ, List.getElem?_cons_zero, Option.getD_some, Nat.reduceAdd, List.nil_append, List.cons_append, En.get])
  (repeat (first | (refine fs_skip rfl (fun f => rfl) ?_; (try simp only [Act.put, Act.eval, List.setIfInBounds_toArray, List.set_cons_zero, List.set_cons_succ, Array.getD_eq_getD_getElem?, List.getElem?_toArray, List.getElem?_cons_succ, List.getElem?_cons_zero, Option.getD_some, Nat.reduceAdd, List.nil_append, List.cons_append, En.get])) | (refine fs_move _ rfl rfl (fun f => rfl) rfl ?_ ?_; ((first | exact fun _ _ _ => rfl | exact fun f f' hcg => hcg _ (by kernel_rfl) | (intro f f' hcg; rw [hcg]; kernel_rfl) | (intro f f' hcg; rw [hcg, hcg]; (kernel_rfl; kernel_rfl)) | exact trivial)); (try simp only [Act.put, Act.eval, List.setIfInBounds_toArray, List.set_cons_zero, List.set_cons_succ, Array.getD_eq_getD_getElem?, List.getElem?_toArray, List.getElem?_cons_succ, List.getElem?_cons_zero, Option.getD_some, Nat.reduceAdd, List.nil_append, List.cons_append, En.get])) | (refine fs_assign _ rfl rfl (fun f => rfl) rfl ?_ ?_; ((first | exact fun _ _ _ => rfl | exact fun f f' hcg => hcg _ (by kernel_rfl) | (intro f f' hcg; rw [hcg]; kernel_rfl) | (intro f f' hcg; rw [hcg, hcg]; (kernel_rfl; kernel_rfl)) | exact trivial)); (try simp only [Act.put, Act.eval, List.setIfInBounds_toArray, List.set_cons_zero, List.set_cons_succ, Array.getD_eq_getD_getElem?, List.getElem?_toArray, List.getElem?_cons_succ, List.getElem?_cons_zero, Option.getD_some, Nat.reduceAdd, List.nil_append, List.cons_append, En.get])) | (fail) | (refine fs_pure rfl (fun f => rfl) rfl ?_ ?_ ?_ ?_; (rotate_left; (intro f w1; (skip); go_simp; (first | done | with_reducible rfl)); ((first | exact fun _ _ _ => rfl | exact fun f f' hcg => hcg _ (by kernel_rfl) | (intro f f' hcg; rw [hcg]; kernel_rfl) | (intro f f' hcg; rw [hcg, hcg]; (kernel_rfl; kernel_rfl)) | exact trivial)); (try simp only [Act.put, Act.eval, List.setIfInBounds_toArray, List.set_cons_zero, List.set_cons_succ, Array.getD_eq_getD_getElem?, List.getElem?_toArray, List.getElem?_cons_succ, List.getElem?_cons_zero, Option.getD_some, Nat.reduceAdd, List.nil_append, List.cons_append, En.get])))))
  refine fs_pure rfl (fun f => rfl) rfl (fun _ => .pointer (some ⟨g, 32, none⟩)) (fun f w1 => run_arp rfl rfl Try.underlying26 (by decide)) (fun _ _ _ => rfl) ?_
  (try simp only [Act.put, Act.eval, List.setIfInBounds_toArray, List.set_cons_zero, List.set_cons_succ, Array.getD_eq_getD_getElem?, List.getElem?_toArray, List.getElem?_cons_succ, List.getElem?_cons_zero, Option.getD_some, Nat.reduceAdd, List.nil_append, List.cons_append, En.get])
  refine fs_read rfl (fun f => rfl) rfl (fun _ => .agg (encK .u8 E2)) ?_ (fun _ _ _ => rfl) ?_
  · intro f lof w1 Lf HF HK1
    clear HF
    (try simp only [itms, itm, usesOf, readsOf, takesOf, List.find?, Nat.reduceBEq, List.flatMap_cons, List.flatMap_nil, Nat.reduceLT, if_true, if_false, Nat.reduceSub, List.getD_cons_zero, List.getD_cons_succ, List.append_nil, List.cons_append, List.nil_append, List.append_nil] at HK1)
    exact run_loadr rfl rfl (by rw [HE2.out]; exact HK1.rdsl_from (.here _) 32 32 (by decide) (by decide)) Try.underlying26 (by kernel_rfl)
  (try simp only [Act.put, Act.eval, List.setIfInBounds_toArray, List.set_cons_zero, List.set_cons_succ, Array.getD_eq_getD_getElem?, List.getElem?_toArray, List.getElem?_cons_succ, List.getElem?_cons_zero, Option.getD_some, Nat.reduceAdd, List.nil_append, List.cons_append, En.get])
  refine fs_store rfl (fun f => rfl) (fun f it => it = [.ints p4 .u8 26 32 E1]) rfl ?_ (fun _ _ _ => rfl) ?_
  · intro f lof w1 Lf HF HK1 Q' hQ
    clear HF
    (try simp only [itms, itm, usesOf, readsOf, takesOf, List.find?, Nat.reduceBEq, List.flatMap_cons, List.flatMap_nil, Nat.reduceLT, if_true, if_false, Nat.reduceSub, List.getD_cons_zero, List.getD_cons_succ, List.append_nil, List.cons_append, List.nil_append, List.append_nil] at HK1)
    refine wpList_put_row rfl HK1 26 _ _ rfl _ _ E1 rfl rfl _ _ _ (.here _) (by exact HL1.out) (by kernel_rfl) ?_
    intro w' hk
    exact hQ _ ⟨_, rfl, hk⟩
  (try simp only [Act.put, Act.eval, List.setIfInBounds_toArray, List.set_cons_zero, List.set_cons_succ, Array.getD_eq_getD_getElem?, List.getElem?_toArray, List.getElem?_cons_succ, List.getElem?_cons_zero, Option.getD_some, Nat.reduceAdd, List.nil_append, List.cons_append, En.get])
  refine fs_store rfl (fun f => rfl) (fun f it => it = [.ints p5 .u8 26 32 E2]) rfl ?_ (fun _ _ _ => rfl) ?_
  · intro f lof w1 Lf HF HK1 Q' hQ
    clear HF
    (try simp only [itms, itm, usesOf, readsOf, takesOf, List.find?, Nat.reduceBEq, List.flatMap_cons, List.flatMap_nil, Nat.reduceLT, if_true, if_false, Nat.reduceSub, List.getD_cons_zero, List.getD_cons_succ, List.append_nil, List.cons_append, List.nil_append, List.append_nil] at HK1)
    refine wpList_put_row rfl HK1 26 _ _ rfl _ _ E2 rfl rfl _ _ _ (.here _) (by exact HL2.out) (by kernel_rfl) ?_
    intro w' hk
    exact hQ _ ⟨_, rfl, hk⟩
  (try simp only [Act.put, Act.eval, List.setIfInBounds_toArray, List.set_cons_zero, List.set_cons_succ, Array.getD_eq_getD_getElem?, List.getElem?_toArray, List.getElem?_cons_succ, List.getElem?_cons_zero, Option.getD_some, Nat.reduceAdd, List.nil_append, List.cons_append, En.get])
  refine fs_end ?_
  intro f lof wn HF hk
  have hl8 := HF 8 (by decide)
  have hl9 := HF 9 (by decide)
  (try simp only [itms, itm, usesOf, readsOf, takesOf, List.find?, Nat.reduceBEq, List.flatMap_cons, List.flatMap_nil, Nat.reduceLT, if_true, if_false, Nat.reduceSub, List.getD_cons_zero, List.getD_cons_succ, List.append_nil, List.cons_append, List.nil_append, show lof 8 = _ from hl8, show lof 9 = _ from hl9] at hk)
  clear HF hl8 hl9 f lof
  clear HK
  have HK := Lib.hid hk
  clear hk
  go_wp2_with fail
  exact bodyPost_ret (results_own2 rfl _ HK.out _ _ rfl rfl (.next _ (.here _)) (.here _) Try.underlying26 (by kernel_rfl)) rfl ⟨rfl, HK.out.grown⟩
theorem copied32 {X : List Int} (h : X.length = 32) : (zer 32).take 0 ++ X.take 32 ++ (zer 32).drop (0 + 32) = X := by
  rw [List.take_zero, List.nil_append, List.take_of_length_le (by omega), List.drop_eq_nil_of_le (by rw [length_zer]; decide), List.append_nil]
set_option maxHeartbeats 8000000 in
set_option maxRecDepth 100000 in
theorem rmix_any (key : List Int) (I : Bs) (w : World) (hkl : key.length = 32) (hko : okB 256 key) (hi : I.ok w) (hil : I.len ≤ 1000) :
    Calls Try.prog 17 #[.agg (encK .u8 key), I.val] w fun e w' => e = .returned (.tuple #[.agg (encK .u8 ((mixK key I.xs).take 32)), .agg (encK .u8 ((mixK key I.xs).drop 32))]) ∧ w.grownBy w' none := by
  obtain ⟨ad, len, cap, xs⟩ := I
  have HI := Lib.hid (fun (w' : World) (g : w.grownBy w' none) => Bs.ok_keep hi g)
  have HIL := Lib.hid (show len ≤ 2000 from Nat.le_trans hil (by decide))
  clear hi hil
  show Calls Try.prog _ #[.agg (encK .u8 key), .slice ad len cap] w fun e w' => e = .returned (.tuple #[.agg (encK .u8 ((mixK key xs).take 32)), .agg (encK .u8 ((mixK key xs).drop 32))]) ∧ w.grownBy w' none
  have HKO := Lib.hid hko
  have HKL := Lib.hid hkl
  clear hko hkl
  obtain ⟨M, hM⟩ : ∃ M, M = hmac key xs := ⟨_, rfl⟩
  obtain ⟨E, hE⟩ : ∃ E, E = mixK key xs := ⟨_, rfl⟩
  have HM := Lib.hid hM
  have HE := Lib.hid (show expK M [] 64 = E by rw [hE, mixK, hM])
  have HML := Lib.hid (show M.length = 32 by rw [hM]; exact length_hmac _ _)
  have HMO := Lib.hid (show okB 256 M by rw [hM]; exact ok_hmac _ _)
  have HEL := Lib.hid (show E.length = 64 by rw [hE]; exact length_mixK _ _)
  rw [← hE]
  clear hM hE
  obtain ⟨E1, hE1⟩ : ∃ E1, E1 = E.take 32 := ⟨_, rfl⟩
  obtain ⟨E2, hE2⟩ : ∃ E2, E2 = E.drop 32 := ⟨_, rfl⟩
  rw [← hE1, ← hE2]
  have HE1 := Lib.hid hE1
  have HE2 := Lib.hid hE2
  have HL1 := Lib.hid (show E1.length = 32 by rw [hE1, List.length_take, HEL.out]; rfl)
  have HL2 := Lib.hid (show E2.length = 32 by rw [hE2, List.length_drop, HEL.out])
  clear hE1 hE2
  obtain ⟨p, hp⟩ : ∃ p, w.heap.size = p := ⟨_, rfl⟩
  have hk0 := (own_start w).ints .u8 26 32 key HKL.out hp
  have HK := Lib.hid hk0
  have HP := Lib.hid hp
  clear hk0 hp
  go_enter Try.func17, Try.ntmps17
  go_wp2_with (first | (refine wpList_new_ints rfl HK.out _ rfl .u8 26 32 (zer 32) (length_zer _) (fun w => by go_simp; first | exact ⟨rfl, rfl⟩ | kernel_rfl) ?_) | fail)
  rw [HP.out]
  intro wn p4 hkn
  have HKN := Lib.hid hkn
  clear hkn HK
  have HK := HKN
  clear HKN
  go_wp2_with ((refine wpList_new_ints rfl HK.out _ rfl .u8 26 32 (zer 32) (length_zer _) (fun w => by go_simp; first | exact ⟨rfl, rfl⟩ | kernel_rfl) ?_))
  intro wn p5 hkn
  have HKN := Lib.hid hkn
  clear hkn HK
  have HK := HKN
  clear HKN
  go_wp2_with fail
  have q4 := rmac_any ⟨some ⟨p, 0, none⟩, 32, 32, key⟩ ⟨ad, len, cap, xs⟩ _ (own_bsi HK.out (.next _ (.next _ (.here _))) HKO.out (by omega)) (HI.out _ HK.out.grown) HIL.out
  rw [show hmac (⟨some ⟨p, 0, none⟩, 32, 32, key⟩ : Bs).xs (⟨ad, len, cap, xs⟩ : Bs).xs = M from HM.out.symm] at q4
  refine q4.mono ?_
  clear q4
  rintro e w7 ⟨rfl, hg⟩
  have hkb := HK.out.grow hg
  clear hg
  clear HK
  have HK := Lib.hid hkb
  clear hkb
  go_wp2_with fail
  have q5 := rexpand_any M ⟨none, 0, 0, []⟩ 64 w7 HML.out HMO.out (nil_ok _) (show 0 ≤ 1000 by omega) (by decide)
  refine q5.mono ?_
  clear q5
  rintro e w8 ⟨a, c, rfl, ho, hg⟩
  rw [show expK M (⟨none, 0, 0, []⟩ : Bs).xs 64 = E from HE.out] at ho
  obtain ⟨a', c', he, hkb⟩ := HK.out.sl hg ho
  injection he with e1 e2 e3
  subst e1 e3
  clear ho hg
  clear HK
  have HK := Lib.hid hkb
  clear hkb
  obtain ⟨g, rfl, hc64⟩ := HK.out.addr (.here _) (by decide)
  have hc32 : ¬ c = 32 := by omega
  have h32c : 32 ≤ c := by omega
  have h32d : (32 : Int) ≤ c := by omega
  have HC := Lib.hid hc64
  clear hc64
  go_wp2_with ((refine wpList_new_ints rfl HK.out _ rfl .u8 26 32 (zer 32) (length_zer _) (fun w => by go_simp; first | exact ⟨rfl, rfl⟩ | kernel_rfl) ?_))
  intro wn p8 hkn
  have HKN := Lib.hid hkn
  clear hkn HK
  have HK := HKN
  clear HKN
  go_wp2_with ((refine wpList_new_ints rfl HK.out _ rfl .u8 26 32 (zer 32) (length_zer _) (fun w => by go_simp; first | exact ⟨rfl, rfl⟩ | kernel_rfl) ?_))
  intro wn p9 hkn
  have HKN := Lib.hid hkn
  clear hkn HK
  have HK := HKN
  clear HKN
  go_upto_region 3 with fail
  have hk1 := HK.out.front (.next _ (.here _))
  clear HK
  have HK := Lib.hid hk1
  clear hk1
  refine wp_region_sep [[.ints p8 .u8 26 32 (zer 32)]] [.ints p9 .u8 26 32 (zer 32), .sl 5 .u8 (some ⟨g, 0, none⟩) 64 c E, .ints p5 .u8 26 32 (zer 32), .ints p4 .u8 26 32 (zer 32), .ints p .u8 26 32 key] [(3, [], [4])] [3] 4 (by kernel_rfl) (by kernel_rfl) (w0 := w) HK.out ?_
  (try simp only [Act.put, Act.eval, List.setIfInBounds_toArray, List.set_cons_zero, List.set_cons_succ, Array.getD_eq_getD_getElem?, List.getElem?_toArray, List.getElem?_cons_succ, List.getElem?_cons_zero, Option.getD_some, Nat.reduceAdd, List.nil_append, List.cons_append, En.get])
  (repeat (first | (refine fs_skip rfl (fun f => rfl) ?_; (try simp only [Act.put, Act.eval, List.setIfInBounds_toArray, List.set_cons_zero, List.set_cons_succ, Array.getD_eq_getD_getElem?, List.getElem?_toArray, List.getElem?_cons_succ, List.getElem?_cons_zero, Option.getD_some, Nat.reduceAdd, List.nil_append, List.cons_append, En.get])) | (refine fs_move _ rfl rfl (fun f => rfl) rfl ?_ ?_; ((first | exact fun _ _ _ => rfl | exact fun f f' hcg => hcg _ (by kernel_rfl) | (intro f f' hcg; rw [hcg]; kernel_rfl) | (intro f f' hcg; rw [hcg, hcg]; (kernel_rfl; kernel_rfl)) | exact trivial)); (try simp only [Act.put, Act.eval, List.setIfInBounds_toArray, List.set_cons_zero, List.set_cons_succ, Array.getD_eq_getD_getElem?, List.getElem?_toArray, List.getElem?_cons_succ, List.getElem?_cons_zero, Option.getD_some, Nat.reduceAdd, List.nil_append, List.cons_append, En.get])) | (refine fs_assign _ rfl rfl (fun f => rfl) rfl ?_ ?_; ((first | exact fun _ _ _ => rfl | exact fun f f' hcg => hcg _ (by kernel_rfl) | (intro f f' hcg; rw [hcg]; kernel_rfl) | (intro f f' hcg; rw [hcg, hcg]; (kernel_rfl; kernel_rfl)) | exact trivial)); (try simp only [Act.put, Act.eval, List.setIfInBounds_toArray, List.set_cons_zero, List.set_cons_succ, Array.getD_eq_getD_getElem?, List.getElem?_toArray, List.getElem?_cons_succ, List.getElem?_cons_zero, Option.getD_some, Nat.reduceAdd, List.nil_append, List.cons_append, En.get])) | (fail) | (refine fs_pure rfl (fun f => rfl) rfl ?_ ?_ ?_ ?_; (rotate_left; (intro f w1; (skip); go_simp; (first | done | with_reducible rfl)); ((first | exact fun _ _ _ => rfl | exact fun f f' hcg => hcg _ (by kernel_rfl) | (intro f f' hcg; rw [hcg]; kernel_rfl) | (intro f f' hcg; rw [hcg, hcg]; (kernel_rfl; kernel_rfl)) | exact trivial)); (try simp only [Act.put, Act.eval, List.setIfInBounds_toArray, List.set_cons_zero, List.set_cons_succ, Array.getD_eq_getD_getElem?, List.getElem?_toArray, List.getElem?_cons_succ, List.getElem?_cons_zero, Option.getD_some, Nat.reduceAdd, List.nil_append, List.cons_append, En.get])))))
  refine fs_list rfl (fun f => rfl) (.res (fun _ v it => it = [.ints p8 .u8 26 32 E1])) (fun f => ⟨_, rfl, Nat.le_of_ble_eq_true rfl⟩) ?_ (fun _ _ _ => rfl) ?_
  · intro f lof w1 Lf HF HK1 Q' hQ
    clear HF
    (try simp only [itms, itm, usesOf, readsOf, takesOf, List.find?, Nat.reduceBEq, List.flatMap_cons, List.flatMap_nil, Nat.reduceLT, if_true, if_false, Nat.reduceSub, List.getD_cons_zero, List.getD_cons_succ, List.append_nil, List.cons_append, List.nil_append, List.append_nil] at HK1)
    refine Go.Proofs.YtjogdbiaiflmpaaL.wpList_copy_own rfl HK1 _ _ 22 22 rfl 5 p8 0 32 32 (some ⟨g, 0, none⟩) 32 c .u8 26 32 (zer 32) E1 Try.underlying22 (by kernel_rfl) rfl rfl (by rw [HE1.out]; exact rdfront (HK1.rdsl (.next _ (.next _ (.here _)))) 32 (by decide)) 32 (by decide) (by decide) (.here _) ?_
    intro wn hk
    rw [copied32 HL1.out] at hk
    exact hQ _ _ ⟨_, rfl, hk⟩
  (try simp only [Act.put, Act.eval, List.setIfInBounds_toArray, List.set_cons_zero, List.set_cons_succ, Array.getD_eq_getD_getElem?, List.getElem?_toArray, List.getElem?_cons_succ, List.getElem?_cons_zero, Option.getD_some, Nat.reduceAdd, List.nil_append, List.cons_append, En.get])
  refine fs_end ?_
  intro f lof wn HF hk
  have hl3 := HF 3 (by decide)
  (try simp only [itms, itm, usesOf, readsOf, takesOf, List.find?, Nat.reduceBEq, List.flatMap_cons, List.flatMap_nil, Nat.reduceLT, if_true, if_false, Nat.reduceSub, List.getD_cons_zero, List.getD_cons_succ, List.append_nil, List.cons_append, List.nil_append, show lof 3 = _ from hl3] at hk)
  generalize f 3 = x3
  clear HF hl3 f lof
  clear HK
  have HK := Lib.hid hk
  clear hk
  go_upto_region 4 with fail
  have hk1 := HK.out.front (.next _ (.here _))
  clear HK
  have HK := Lib.hid hk1
  clear hk1
  refine wp_region_sep [[.ints p9 .u8 26 32 (zer 32)]] [.ints p8 .u8 26 32 E1, .sl 5 .u8 (some ⟨g, 0, none⟩) 64 c E, .ints p5 .u8 26 32 (zer 32), .ints p4 .u8 26 32 (zer 32), .ints p .u8 26 32 key] [(3, [], [4])] [3] 4 (by kernel_rfl) (by kernel_rfl) (w0 := w) HK.out ?_
  (try simp only [Act.put, Act.eval, List.setIfInBounds_toArray, List.set_cons_zero, List.set_cons_succ, Array.getD_eq_getD_getElem?, List.getElem?_toArray, List.getElem?_cons_succ, List.getElem?_cons_zero, Option.getD_some, Nat.reduceAdd, List.nil_append, List.cons_append, En.get])
  (repeat (first | (refine fs_skip rfl (fun f => rfl) ?_; (try simp only [Act.put, Act.eval, List.setIfInBounds_toArray, List.set_cons_zero, List.set_cons_succ, Array.getD_eq_getD_getElem?, List.getElem?_toArray, List.getElem?_cons_succ, List.getElem?_cons_zero, Option.getD_some, Nat.reduceAdd, List.nil_append, List.cons_append, En.get])) | (refine fs_move _ rfl rfl (fun f => rfl) rfl ?_ ?_; ((first | exact fun _ _ _ => rfl | exact fun f f' hcg => hcg _ (by kernel_rfl) | (intro f f' hcg; rw [hcg]; kernel_rfl) | (intro f f' hcg; rw [hcg, hcg]; (kernel_rfl; kernel_rfl)) | exact trivial)); (try simp only [Act.put, Act.eval, List.setIfInBounds_toArray, List.set_cons_zero, List.set_cons_succ, Array.getD_eq_getD_getElem?, List.getElem?_toArray, List.getElem?_cons_succ, List.getElem?_cons_zero, Option.getD_some, Nat.reduceAdd, List.nil_append, List.cons_append, En.get])) | (refine fs_assign _ rfl rfl (fun f => rfl) rfl ?_ ?_; ((first | exact fun _ _ _ => rfl | exact fun f f' hcg => hcg _ (by kernel_rfl) | (intro f f' hcg; rw [hcg]; kernel_rfl) | (intro f f' hcg; rw [hcg, hcg]; (kernel_rfl; kernel_rfl)) | exact trivial)); (try simp only [Act.put, Act.eval, List.setIfInBounds_toArray, List.set_cons_zero, List.set_cons_succ, Array.getD_eq_getD_getElem?, List.getElem?_toArray, List.getElem?_cons_succ, List.getElem?_cons_zero, Option.getD_some, Nat.reduceAdd, List.nil_append, List.cons_append, En.get])) | (fail) | (refine fs_pure rfl (fun f => rfl) rfl ?_ ?_ ?_ ?_; (rotate_left; (intro f w1; (skip); go_simp; (first | done | with_reducible rfl)); ((first | exact fun _ _ _ => rfl | exact fun f f' hcg => hcg _ (by kernel_rfl) | (intro f f' hcg; rw [hcg]; kernel_rfl) | (intro f f' hcg; rw [hcg, hcg]; (kernel_rfl; kernel_rfl)) | exact trivial)); (try simp only [Act.put, Act.eval, List.setIfInBounds_toArray, List.set_cons_zero, List.set_cons_succ, Array.getD_eq_getD_getElem?, List.getElem?_toArray, List.getElem?_cons_succ, List.getElem?_cons_zero, Option.getD_some, Nat.reduceAdd, List.nil_append, List.cons_append, En.get])))))
  refine fs_list rfl (fun f => rfl) (.res (fun _ v it => it = [.ints p9 .u8 26 32 E2])) (fun f => ⟨_, rfl, Nat.le_of_ble_eq_true rfl⟩) ?_ (fun _ _ _ => rfl) ?_
  · intro f lof w1 Lf HF HK1 Q' hQ
    clear HF
    (try simp only [itms, itm, usesOf, readsOf, takesOf, List.find?, Nat.reduceBEq, List.flatMap_cons, List.flatMap_nil, Nat.reduceLT, if_true, if_false, Nat.reduceSub, List.getD_cons_zero, List.getD_cons_succ, List.append_nil, List.cons_append, List.nil_append, List.append_nil] at HK1)
    refine Go.Proofs.YtjogdbiaiflmpaaL.wpList_copy_own rfl HK1 _ _ 22 22 rfl 5 p9 0 32 32 (some ⟨g, 32, none⟩) 32 (c - 32) .u8 26 32 (zer 32) E2 Try.underlying22 (by kernel_rfl) rfl rfl (by rw [HE2.out]; exact HK1.rdsl_from (.next _ (.next _ (.here _))) 32 32 (by decide) (by decide)) 32 (by decide) (by decide) (.here _) ?_
    intro wn hk
    rw [copied32 HL2.out] at hk
    exact hQ _ _ ⟨_, rfl, hk⟩
  (try simp only [Act.put, Act.eval, List.setIfInBounds_toArray, List.set_cons_zero, List.set_cons_succ, Array.getD_eq_getD_getElem?, List.getElem?_toArray, List.getElem?_cons_succ, List.getElem?_cons_zero, Option.getD_some, Nat.reduceAdd, List.nil_append, List.cons_append, En.get])
  refine fs_end ?_
  intro f lof wn HF hk
  have hl3 := HF 3 (by decide)
  (try simp only [itms, itm, usesOf, readsOf, takesOf, List.find?, Nat.reduceBEq, List.flatMap_cons, List.flatMap_nil, Nat.reduceLT, if_true, if_false, Nat.reduceSub, List.getD_cons_zero, List.getD_cons_succ, List.append_nil, List.cons_append, List.nil_append, show lof 3 = _ from hl3] at hk)
  generalize f 3 = x4
  clear HF hl3 f lof
  clear HK
  have HK := Lib.hid hk
  clear hk
  go_upto_region 5 with fail
  have hk1 := (HK.out.front (.next _ (.next _ (.next _ (.next _ (.here _)))))).front (.next _ (.next _ (.next _ (.next _ (.here _)))))
  clear HK
  have HK := Lib.hid hk1
  clear hk1
  refine wp_region_sep [[.ints p5 .u8 26 32 (zer 32)], [.ints p4 .u8 26 32 (zer 32)]] [.ints p9 .u8 26 32 E2, .ints p8 .u8 26 32 E1, .sl 5 .u8 (some ⟨g, 0, none⟩) 64 c E, .ints p .u8 26 32 key] [(2, [], [5]), (3, [], [4])] [2, 3] 4 (by kernel_rfl) (by kernel_rfl) (w0 := w) HK.out ?_
  (try simp only [Act.put, Act.eval, List.setIfInBounds_toArray, List.set_cons_zero, List.set_cons_succ, Array.getD_eq_getD_getElem?, List.getElem?_toArray, List.getElem?_cons_succ, List.getElem?_cons_zero, Option.getD_some, Nat.reduceAdd, List.nil_append, List.cons_append, En.get])
  refine fs_read rfl (fun f => rfl) rfl (fun _ => .agg (encK .u8 E1)) ?_ (fun _ _ _ => rfl) ?_
  · intro f lof w1 Lf HF HK1
    clear HF
    (try simp only [itms, itm, usesOf, readsOf, takesOf, List.find?, Nat.reduceBEq, List.flatMap_cons, List.flatMap_nil, Nat.reduceLT, if_true, if_false, Nat.reduceSub, List.getD_cons_zero, List.getD_cons_succ, List.append_nil, List.cons_append, List.nil_append, List.append_nil] at HK1)
    exact run_loadr rfl rfl (HK1.rd (.next _ (.here _))) Try.underlying26 (by kernel_rfl)
  (try simp only [Act.put, Act.eval, List.setIfInBounds_toArray, List.set_cons_zero, List.set_cons_succ, Array.getD_eq_getD_getElem?, List.getElem?_toArray, List.getElem?_cons_succ, List.getElem?_cons_zero, Option.getD_some, Nat.reduceAdd, List.nil_append, List.cons_append, En.get])
  refine fs_read rfl (fun f => rfl) rfl (fun _ => .agg (encK .u8 E2)) ?_ (fun _ _ _ => rfl) ?_
  · intro f lof w1 Lf HF HK1
    clear HF
    (try simp only [itms, itm, usesOf, readsOf, takesOf, List.find?, Nat.reduceBEq, List.flatMap_cons, List.flatMap_nil, Nat.reduceLT, if_true, if_false, Nat.reduceSub, List.getD_cons_zero, List.getD_cons_succ, List.append_nil, List.cons_append, List.nil_append, List.append_nil] at HK1)
    exact run_loadr rfl rfl (HK1.rd (.here _)) Try.underlying26 (by kernel_rfl)
  (try simp only [Act.put, Act.eval, List.setIfInBounds_toArray, List.set_cons_zero, List.set_cons_succ, Array.getD_eq_getD_getElem?, List.getElem?_toArray, List.getElem?_cons_succ, List.getElem?_cons_zero, Option.getD_some, Nat.reduceAdd, List.nil_append, List.cons_append, En.get])
  refine fs_store rfl (fun f => rfl) (fun f it => it = [.ints p4 .u8 26 32 E1]) rfl ?_ (fun _ _ _ => rfl) ?_
  · intro f lof w1 Lf HF HK1 Q' hQ
    clear HF
    (try simp only [itms, itm, usesOf, readsOf, takesOf, List.find?, Nat.reduceBEq, List.flatMap_cons, List.flatMap_nil, Nat.reduceLT, if_true, if_false, Nat.reduceSub, List.getD_cons_zero, List.getD_cons_succ, List.append_nil, List.cons_append, List.nil_append, List.append_nil] at HK1)
    refine wpList_put_row rfl HK1 26 _ _ rfl _ _ E1 rfl rfl _ _ _ (.here _) (by exact HL1.out) (by kernel_rfl) ?_
    intro w' hk
    exact hQ _ ⟨_, rfl, hk⟩
  (try simp only [Act.put, Act.eval, List.setIfInBounds_toArray, List.set_cons_zero, List.set_cons_succ, Array.getD_eq_getD_getElem?, List.getElem?_toArray, List.getElem?_cons_succ, List.getElem?_cons_zero, Option.getD_some, Nat.reduceAdd, List.nil_append, List.cons_append, En.get])
  refine fs_store rfl (fun f => rfl) (fun f it => it = [.ints p5 .u8 26 32 E2]) rfl ?_ (fun _ _ _ => rfl) ?_
  · intro f lof w1 Lf HF HK1 Q' hQ
    clear HF
    (try simp only [itms, itm, usesOf, readsOf, takesOf, List.find?, Nat.reduceBEq, List.flatMap_cons, List.flatMap_nil, Nat.reduceLT, if_true, if_false, Nat.reduceSub, List.getD_cons_zero, List.getD_cons_succ, List.append_nil, List.cons_append, List.nil_append, List.append_nil] at HK1)
    refine wpList_put_row rfl HK1 26 _ _ rfl _ _ E2 rfl rfl _ _ _ (.here _) (by exact HL2.out) (by kernel_rfl) ?_
    intro w' hk
    exact hQ _ ⟨_, rfl, hk⟩
  (try simp only [Act.put, Act.eval, List.setIfInBounds_toArray, List.set_cons_zero, List.set_cons_succ, Array.getD_eq_getD_getElem?, List.getElem?_toArray, List.getElem?_cons_succ, List.getElem?_cons_zero, Option.getD_some, Nat.reduceAdd, List.nil_append, List.cons_append, En.get])
  refine fs_end ?_
  intro f lof wn HF hk
  have hl8 := HF 2 (by decide)
  have hl9 := HF 3 (by decide)
  (try simp only [itms, itm, usesOf, readsOf, takesOf, List.find?, Nat.reduceBEq, List.flatMap_cons, List.flatMap_nil, Nat.reduceLT, if_true, if_false, Nat.reduceSub, List.getD_cons_zero, List.getD_cons_succ, List.append_nil, List.cons_append, List.nil_append, show lof 2 = _ from hl8, show lof 3 = _ from hl9] at hk)
  clear HF hl8 hl9 f lof
  clear HK
  have HK := Lib.hid hk
  clear hk
  go_wp2_with fail
  exact bodyPost_ret (results_own2 rfl _ HK.out _ _ rfl rfl (.here _) (.next _ (.here _)) Try.underlying26 (by kernel_rfl)) rfl ⟨rfl, HK.out.grown⟩
end Go.Proofs.Ytjogdbiaiflmpaa
