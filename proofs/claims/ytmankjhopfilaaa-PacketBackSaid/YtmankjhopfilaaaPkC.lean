/- A header with its checksum: the program's summed. -/
import Derived.Test.YtmankjhopfilaaaPkB
import Derived.Test.YtmankjhopfilaaaCps
namespace Go.Proofs.Ytmankjhopfilaaa
set_option linter.unusedVariables false
set_option linter.unusedSimpArgs false
open Go.RowKit Go.Proofs.YtmankjhopfilaaaL

theorem own_back {w0 w1 w2 : World} {L : List It} {e : TypeId} {a : Option Addr} {n c : Nat} {s : List Int} (HK : Own w0 w1 L) (hg : w1.grownBy w2 none) (ho : w2.ownsRow w1.heap.size e 1 (.slice a n c) n (s.map (Value.int .u8))) : Own w0 w2 (.sl e .u8 a n c s :: L) := by
  obtain ⟨a2, c2, e2, hk⟩ := HK.sl hg ho
  injection e2 with h1 h2 h3
  subst h1 h3
  exact hk
theorem rdfront {k : IntKind} {w : World} {ad : Option Addr} {n : Nat} {xs : List Int} (h : Rd k w ad n xs) (m : Nat) (hm : m ≤ n) : Rd k w ad m (xs.take m) :=
  ⟨by rw [List.length_take, h.1]; omega, fun i hi => let ⟨x, h1, h2⟩ := h.2 i (by omega); ⟨x, h1, by rw [h2, List.getD_eq_getElem?_getD, List.getD_eq_getElem?_getD, List.getElem?_take_of_lt hi]⟩⟩
theorem ok_take {s : List Int} (h : okB 256 s) (m : Nat) : okB 256 (s.take m) := fun x hx => h x (List.mem_of_mem_take hx)
theorem ok_drop {s : List Int} (h : okB 256 s) (m : Nat) : okB 256 (s.drop m) := fun x hx => h x (List.mem_of_mem_drop hx)
theorem own_empty (w : World) (T : TypeId) (k : IntKind) : Own w (w.alloc (.cells #[] T (0, 0))) [.sl T k (some ⟨w.heap.size, 0, none⟩) 0 0 []] :=
  (own_start w).add (World.grownBy_alloc _ _ _) ⟨rfl, .inr ⟨w.heap.size, 0, #[], rfl, Nat.le_refl _, alloc_at _ _ rfl, Nat.le_refl _, Nat.zero_le _, rfl, rfl⟩⟩ (fun p hp => by simp [It.foot, Value.ownBlock] at hp; omega)
theorem rd_src {w : World} {x : Addr} {len cap : Nat} {xs : List Int} (h : Rd .u8 w (some x) len xs) : Go.Proofs.YtmankjhopfilaaaL.Src w (.slice (some x) len cap) (xs.map (Value.int .u8)) :=
  .inr ⟨x, cap, by rw [List.length_map, h.1], fun j u hu => by
    obtain ⟨y, hy, rfl⟩ : ∃ y, xs[j]? = some y ∧ Value.int .u8 y = u := by simpa using hu
    rw [rdx_at h j (by rw [← h.1]; exact (List.getElem?_eq_some_iff.1 hy).1), List.getD_eq_getElem?_getD, hy]; rfl⟩
set_option maxHeartbeats 1600000 in
set_option maxRecDepth 100000 in
theorem clone_any (x : Addr) (len cap : Nat) (xs : List Int) (w : World) (hr : Rd .u8 w (some x) len xs) (hl : len ≤ 1000000) : Calls Try.prog 34 #[.slice (some x) len cap] w fun e w' =>
    ∃ a c, e = .returned (.slice a len c) ∧ w'.ownsRow w.heap.size 5 1 (.slice a len c) len (xs.map (Value.int .u8)) ∧ w.grownBy w' none := by
  have HR := Lib.hid hr
  clear hr
  have HK := Lib.hid (own_empty w 5 .u8)
  have HL := Lib.hid HR.out.1
  have HS := Lib.hid (rd_src (cap := cap) (HR.out.kept (World.grownBy_alloc w (.cells #[] 5 (0, 0)) none)))
  go_enter Try.func34, Try.ntmps34
  have hnil := fun w : World => Lib.run_eql_slice_nil (P := Try.prog) w 27 5 (some x) len cap 0 0 Try.underlying27
  go_wp2_with (at_builtin; refine wpList_app_own rfl HK.out _ _ 27 rfl 5 (.int .u8 0) 1 Try.underlying27 (by kernel_rfl) rfl .u8 _ _ _ _ rfl (by first | exact Del.here _ | exact Del.next _ (Del.here _) | exact Del.next _ (Del.next _ (Del.here _)) | exact Del.next _ (Del.next _ (Del.next _ (Del.here _))) | exact Del.next _ (Del.next _ (Del.next _ (Del.next _ (Del.here _)))) | exact Del.next _ (Del.next _ (Del.next _ (Del.next _ (Del.next _ (Del.here _))))) | exact Del.next _ (Del.next _ (Del.next _ (Del.next _ (Del.next _ (Del.next _ (Del.here _)))))) | exact Del.next _ (Del.next _ (Del.next _ (Del.next _ (Del.next _ (Del.next _ (Del.next _ (Del.here _))))))) | exact Del.next _ (Del.next _ (Del.next _ (Del.next _ (Del.next _ (Del.next _ (Del.next _ (Del.next _ (Del.here _)))))))) | exact Del.next _ (Del.next _ (Del.next _ (Del.next _ (Del.next _ (Del.next _ (Del.next _ (Del.next _ (Del.next _ (Del.here _)))))))))) _ len xs rfl HL.out HS.out (by unfold maxLen; omega) (by omega) ?_)
  intro a1 c1 w2 hk
  clear HK
  have HK := Lib.hid hk
  clear hk
  go_wp2_with fail
  exact bodyPost_ret (results_tmp rfl _ _ _) rfl ⟨a1, c1, rfl, by have := HK.out.get (.here _); simpa [It.has] using this, HK.out.grown⟩

theorem one_ok {b : Bs} {w : World} (h : b.ok w) : ∀ x ∈ [b], x.ok w := fun x hx => by rw [List.mem_singleton.1 hx]; exact h
theorem cat_one (b : Bs) : catB [b] = b.xs := by simp [catB]
/-- Bytes with noughts in the checksum's place. -/
def zerd (xs : List Int) : List Int := (xs.set 10 0).set 11 0
def sumdL (xs : List Int) : List Int := (zerd xs).take 10 ++ beB (csum ((zerd xs).take 20)) 2 ++ (zerd xs).drop 12
theorem length_zerd (xs : List Int) : (zerd xs).length = xs.length := by simp [zerd]
theorem ok_zerd {xs : List Int} (h : okB 256 xs) : okB 256 (zerd xs) := ok_set (ok_set h _ _ (by decide) (by decide)) _ _ (by decide) (by decide)
theorem csum_range (xs : List Int) : 0 ≤ csum xs ∧ csum xs ≤ 65535 := by
  have := fold16_range (tot xs xs.length)
  unfold csum; omega

set_option maxHeartbeats 8000000 in
set_option maxRecDepth 100000 in
theorem summed_any (x : Addr) (n c : Nat) (xs : List Int) (w : World) (h : Rd .u8 w (some x) n xs) (ho : okB 256 xs) (h20 : 20 ≤ n) (hn : n ≤ 3000) :
    Calls Try.prog 28 #[.slice (some x) n c] w fun e w' => ∃ a c', e = .returned (.slice a n c') ∧ w'.ownsRow w.heap.size 5 1 (.slice a n c') n ((sumdL xs).map (Value.int .u8)) ∧ w.grownBy w' none := by
  have HX := Lib.hid h
  have HO := Lib.hid ho
  have HL := Lib.hid h.1
  clear h ho
  obtain ⟨z, hz⟩ : ∃ z, z = zerd xs := ⟨_, rfl⟩
  obtain ⟨S, hS⟩ : ∃ S, S = csum (z.take 20) := ⟨_, rfl⟩
  obtain ⟨y, hy⟩ : ∃ y, y = sumdL xs := ⟨_, rfl⟩
  have HZ := Lib.hid (show (xs.set 10 0).set 11 0 = z by rw [hz]; rfl)
  have HZO := Lib.hid (show okB 256 z by rw [hz]; exact ok_zerd HO.out)
  have HZL := Lib.hid (show z.length = n by rw [hz, length_zerd]; exact HL.out)
  have HS := Lib.hid hS
  have hsr : 0 ≤ S ∧ S ≤ 65535 := by rw [hS]; exact csum_range _
  have HY := Lib.hid (show z.take 10 ++ beB S 2 ++ z.drop 12 = y by rw [hy, sumdL, hS, hz])
  rw [← hy]
  clear hz hS hy
  have hn1 : (20 : Int) ≤ n := by omega
  have hn2 : (n : Int) ≤ 3000 := by omega
  obtain ⟨hs0, hs1⟩ := hsr
  have HWS := Lib.hid (show IntKind.u64.wrap S = S by rw [IntKind.wrap_u64]; omega)
  have HK := Lib.hid (own_start w)
  go_enter Try.func28, Try.ntmps28
  go_wp2_with fail
  have q4 := clone_any x n c xs w HX.out (by omega)
  refine q4.mono ?_
  rintro e w1 ⟨a, c1, rfl, ho, hg⟩
  have hk := own_back HK.out hg ho
  obtain ⟨p, rfl, hcb⟩ := hk.addr (.here _) (by omega)
  have hcp := (hk.cap (.here _)).2.1
  have hc10 : ¬ c1 = 10 := by omega
  have hc20 : (20 : Int) ≤ c1 := by omega
  have hn10 : (10 : Int) ≤ n := by omega
  clear ho hg
  clear HK
  have HK := Lib.hid hk
  clear hk
  go_wp2_with (first | (refine wpList_put_sl rfl HK.out _ _ _ rfl _ _ _ _ rfl rfl _ _ _ _ (by first | exact Upd.here _ | exact Upd.next _ (Upd.here _) | exact Upd.next _ (Upd.next _ (Upd.here _)) | exact Upd.next _ (Upd.next _ (Upd.next _ (Upd.here _))) | exact Upd.next _ (Upd.next _ (Upd.next _ (Upd.next _ (Upd.here _)))) | exact Upd.next _ (Upd.next _ (Upd.next _ (Upd.next _ (Upd.next _ (Upd.here _))))) | exact Upd.next _ (Upd.next _ (Upd.next _ (Upd.next _ (Upd.next _ (Upd.next _ (Upd.here _)))))) | exact Upd.next _ (Upd.next _ (Upd.next _ (Upd.next _ (Upd.next _ (Upd.next _ (Upd.next _ (Upd.here _))))))) | exact Upd.next _ (Upd.next _ (Upd.next _ (Upd.next _ (Upd.next _ (Upd.next _ (Upd.next _ (Upd.next _ (Upd.here _)))))))) | exact Upd.next _ (Upd.next _ (Upd.next _ (Upd.next _ (Upd.next _ (Upd.next _ (Upd.next _ (Upd.next _ (Upd.next _ (Upd.here _)))))))))) (by omega) (by kernel_rfl) ?_; (intro wn hkn; have HKN := Lib.hid hkn; clear hkn; clear HK; have HK := HKN; clear HKN)))
  have hk := HK.out
  rw [HZ.out] at hk
  clear HK
  have HK := Lib.hid hk
  clear hk
  refine wp_region_sep [[.sl 5 .u8 (some ⟨p, 0, none⟩) n c1 z]] [] [(5, [4, 9], []), (8, [], [7, 9])] [8] 9 (by kernel_rfl) (by kernel_rfl) (w0 := w) HK.out ?_
  (try simp only [Act.put, Act.eval, List.setIfInBounds_toArray, List.set_cons_zero, List.set_cons_succ, Array.getD_eq_getD_getElem?, List.getElem?_toArray, List.getElem?_cons_succ, List.getElem?_cons_zero, Option.getD_some, Nat.reduceAdd, List.nil_append, List.cons_append, En.get])
  (repeat (first | (refine fs_skip rfl (fun f => rfl) ?_; (try simp only [Act.put, Act.eval, List.setIfInBounds_toArray, List.set_cons_zero, List.set_cons_succ, Array.getD_eq_getD_getElem?, List.getElem?_toArray, List.getElem?_cons_succ, List.getElem?_cons_zero, Option.getD_some, Nat.reduceAdd, List.nil_append, List.cons_append, En.get])) | (refine fs_move _ rfl rfl (fun f => rfl) rfl ?_ ?_; ((first | exact fun _ _ _ => rfl | exact fun f f' hcg => hcg _ (by kernel_rfl) | (intro f f' hcg; rw [hcg]; kernel_rfl) | (intro f f' hcg; rw [hcg, hcg]; (kernel_rfl; kernel_rfl)) | exact trivial)); (try simp only [Act.put, Act.eval, List.setIfInBounds_toArray, List.set_cons_zero, List.set_cons_succ, Array.getD_eq_getD_getElem?, List.getElem?_toArray, List.getElem?_cons_succ, List.getElem?_cons_zero, Option.getD_some, Nat.reduceAdd, List.nil_append, List.cons_append, En.get])) | (refine fs_assign _ rfl rfl (fun f => rfl) rfl ?_ ?_; ((first | exact fun _ _ _ => rfl | exact fun f f' hcg => hcg _ (by kernel_rfl) | (intro f f' hcg; rw [hcg]; kernel_rfl) | (intro f f' hcg; rw [hcg, hcg]; (kernel_rfl; kernel_rfl)) | exact trivial)); (try simp only [Act.put, Act.eval, List.setIfInBounds_toArray, List.set_cons_zero, List.set_cons_succ, Array.getD_eq_getD_getElem?, List.getElem?_toArray, List.getElem?_cons_succ, List.getElem?_cons_zero, Option.getD_some, Nat.reduceAdd, List.nil_append, List.cons_append, En.get])) | (fail) | (refine fs_pure rfl (fun f => rfl) rfl ?_ ?_ ?_ ?_; (rotate_left; (intro f w1; (skip); go_simp; (first | done | with_reducible rfl)); ((first | exact fun _ _ _ => rfl | exact fun f f' hcg => hcg _ (by kernel_rfl) | (intro f f' hcg; rw [hcg]; kernel_rfl) | (intro f f' hcg; rw [hcg, hcg]; (kernel_rfl; kernel_rfl)) | exact trivial)); (try simp only [Act.put, Act.eval, List.setIfInBounds_toArray, List.set_cons_zero, List.set_cons_succ, Array.getD_eq_getD_getElem?, List.getElem?_toArray, List.getElem?_cons_succ, List.getElem?_cons_zero, Option.getD_some, Nat.reduceAdd, List.nil_append, List.cons_append, En.get])))))
  refine fs_build rfl (fun f => rfl) 1 27 (.res (fun _ v it => ∃ q, v = .slice (some ⟨q, 0, none⟩) 1 1 ∧ it = [.blk q (.cells #[.slice (some ⟨p, 0, none⟩) 20 c1] 27 (0, 0))])) ?_ (fun _ _ _ => rfl) ?_
  · intro f lof w1 Lf HF HK1
    clear HF HK1
    refine ⟨#[.slice (some ⟨p, 0, none⟩) 20 c1], ?_, ?_⟩
    · go_simp; first | done | exact ⟨rfl, rfl⟩ | rfl
    · intro p w' hk
      exact ⟨_, ⟨p, rfl, rfl⟩, hk⟩
  (try simp only [Act.put, Act.eval, List.setIfInBounds_toArray, List.set_cons_zero, List.set_cons_succ, Array.getD_eq_getD_getElem?, List.getElem?_toArray, List.getElem?_cons_succ, List.getElem?_cons_zero, Option.getD_some, Nat.reduceAdd, List.nil_append, List.cons_append, En.get])
  refine fs_callv rfl (fun f => rfl) rfl 20 _ _ rfl (fun args w => by simp [callFunc, Try.func20]; rfl) (fun _ => .int .u16 S) ?_ (fun _ _ _ => rfl) ?_
  · intro f lof w1 Lf HF HK1
    obtain ⟨q, hv, hl⟩ := HF 4 (by kernel_rfl)
    (try simp only [itms, itm, usesOf, readsOf, takesOf, List.find?, Nat.reduceBEq, List.flatMap_cons, List.flatMap_nil, Nat.reduceLT, if_true, if_false, Nat.reduceSub, List.getD_cons_zero, List.getD_cons_succ, List.append_nil, List.cons_append, List.nil_append, hl] at HK1)
    simp only [List.map_toArray, List.map_cons, List.map_nil, Act.eval, Array.getD_eq_getD_getElem?, List.getElem?_toArray, List.getElem?_cons_succ, List.getElem?_cons_zero, Option.getD_some, hv]
    clear HF hv hl
    have b1 := own_bs HK1 (.next _ (.here _)) HZO.out hn
    have b0 : (⟨some ⟨p, 0, none⟩, 20, c1, z.take 20⟩ : Bs).ok w1 := ⟨rdfront b1.1 20 h20, ok_take HZO.out 20, (fun h => by cases h), show 20 ≤ 3000 by decide⟩
    have q4 := sum_any _ 1 1 [⟨some ⟨p, 0, none⟩, 20, c1, z.take 20⟩] w1 rfl (own_parts (bs := [⟨some ⟨p, 0, none⟩, 20, c1, z.take 20⟩]) HK1 (.here _) rfl) (one_ok b0) (by decide) (by rw [cat_one]; exact ok_take HZO.out 20)
    rw [cat_one, ← HS.out] at q4
    exact q4
  (try simp only [Act.put, Act.eval, List.setIfInBounds_toArray, List.set_cons_zero, List.set_cons_succ, Array.getD_eq_getD_getElem?, List.getElem?_toArray, List.getElem?_cons_succ, List.getElem?_cons_zero, Option.getD_some, Nat.reduceAdd, List.nil_append, List.cons_append, En.get])
  (repeat (first | (refine fs_skip rfl (fun f => rfl) ?_; (try simp only [Act.put, Act.eval, List.setIfInBounds_toArray, List.set_cons_zero, List.set_cons_succ, Array.getD_eq_getD_getElem?, List.getElem?_toArray, List.getElem?_cons_succ, List.getElem?_cons_zero, Option.getD_some, Nat.reduceAdd, List.nil_append, List.cons_append, En.get])) | (refine fs_move _ rfl rfl (fun f => rfl) rfl ?_ ?_; ((first | exact fun _ _ _ => rfl | exact fun f f' hcg => hcg _ (by kernel_rfl) | (intro f f' hcg; rw [hcg]; kernel_rfl) | (intro f f' hcg; rw [hcg, hcg]; (kernel_rfl; kernel_rfl)) | exact trivial)); (try simp only [Act.put, Act.eval, List.setIfInBounds_toArray, List.set_cons_zero, List.set_cons_succ, Array.getD_eq_getD_getElem?, List.getElem?_toArray, List.getElem?_cons_succ, List.getElem?_cons_zero, Option.getD_some, Nat.reduceAdd, List.nil_append, List.cons_append, En.get])) | (refine fs_assign _ rfl rfl (fun f => rfl) rfl ?_ ?_; ((first | exact fun _ _ _ => rfl | exact fun f f' hcg => hcg _ (by kernel_rfl) | (intro f f' hcg; rw [hcg]; kernel_rfl) | (intro f f' hcg; rw [hcg, hcg]; (kernel_rfl; kernel_rfl)) | exact trivial)); (try simp only [Act.put, Act.eval, List.setIfInBounds_toArray, List.set_cons_zero, List.set_cons_succ, Array.getD_eq_getD_getElem?, List.getElem?_toArray, List.getElem?_cons_succ, List.getElem?_cons_zero, Option.getD_some, Nat.reduceAdd, List.nil_append, List.cons_append, En.get])) | (fail) | (refine fs_pure rfl (fun f => rfl) rfl ?_ ?_ ?_ ?_; (rotate_left; (intro f w1; ((have hws := HWS.out)); go_simp; (first | done | with_reducible rfl)); ((first | exact fun _ _ _ => rfl | exact fun f f' hcg => hcg _ (by kernel_rfl) | (intro f f' hcg; rw [hcg]; kernel_rfl) | (intro f f' hcg; rw [hcg, hcg]; (kernel_rfl; kernel_rfl)) | exact trivial)); (try simp only [Act.put, Act.eval, List.setIfInBounds_toArray, List.set_cons_zero, List.set_cons_succ, Array.getD_eq_getD_getElem?, List.getElem?_toArray, List.getElem?_cons_succ, List.getElem?_cons_zero, Option.getD_some, Nat.reduceAdd, List.nil_append, List.cons_append, En.get])))))
  refine fs_call rfl (fun f => rfl) 25 _ _ rfl (fun args w => by simp [callFunc, Try.func25]; rfl) (.res (fun _ v it => ∃ a c, v = .slice a 2 c ∧ it = [.sl 5 .u8 a 2 c (beB S 2)])) ?_ (fun _ _ _ => rfl) ?_
  · intro f lof w1 Lf HF HK1
    (try simp only [itms, itm, usesOf, readsOf, takesOf, List.find?, Nat.reduceBEq, List.flatMap_cons, List.flatMap_nil, Nat.reduceLT, if_true, if_false, Nat.reduceSub, List.getD_cons_zero, List.getD_cons_succ, List.append_nil, List.cons_append, List.nil_append, List.append_nil] at HK1)
    simp only [List.map_toArray, List.map_cons, List.map_nil, Act.eval, Array.getD_eq_getD_getElem?, List.getElem?_toArray, List.getElem?_cons_succ, List.getElem?_cons_zero, Option.getD_some, List.append_nil]
    clear HF
    have q4 := number_any S 2 w1 hs0 (by omega) (by decide)
    refine q4.mono ?_
    rintro e w2 ⟨a, c, rfl, ho, hg⟩
    exact ⟨_, _, rfl, ⟨a, c, rfl, rfl⟩, own_back HK1 hg ho⟩
  (try simp only [Act.put, Act.eval, List.setIfInBounds_toArray, List.set_cons_zero, List.set_cons_succ, Array.getD_eq_getD_getElem?, List.getElem?_toArray, List.getElem?_cons_succ, List.getElem?_cons_zero, Option.getD_some, Nat.reduceAdd, List.nil_append, List.cons_append, En.get])
  refine fs_list rfl (fun f => rfl) (.res (fun _ v it => it = [.sl 5 .u8 (some ⟨p, 0, none⟩) n c1 y])) (fun f => ⟨_, rfl, Nat.le_of_ble_eq_true rfl⟩) ?_ (fun _ _ _ => rfl) ?_
  · intro f lof w1 Lf HF HK1 Q' hQ
    obtain ⟨a2, c2, hv, hl⟩ := HF 7 (by kernel_rfl)
    (try simp only [itms, itm, usesOf, readsOf, takesOf, List.find?, Nat.reduceBEq, List.flatMap_cons, List.flatMap_nil, Nat.reduceLT, if_true, if_false, Nat.reduceSub, List.getD_cons_zero, List.getD_cons_succ, List.append_nil, List.cons_append, List.nil_append, hl] at HK1)
    have hk1 := HK1.front (.next _ (.here _))
    clear HK1 HF hl
    have hrd := hk1.rdsl (.next _ (.here _))
    refine Go.Proofs.YtmankjhopfilaaaL.wpList_copy_sl rfl hk1 _ _ 27 27 rfl 5 p 10 (n - 10) (c1 - 10) a2 2 c2 .u8 n c1 z (beB S 2) Try.underlying27 (by kernel_rfl) rfl hv hrd 2 (by omega) (by decide) (by omega) 5 (.here _) ?_
    intro w' hk
    rw [List.take_of_length_le (Nat.le_of_eq (length_beB S 2)), HY.out] at hk
    exact hQ _ _ ⟨_, rfl, hk.sub (List.Sublist.cons_cons _ (List.sublist_cons_self _ _))⟩
  (try simp only [Act.put, Act.eval, List.setIfInBounds_toArray, List.set_cons_zero, List.set_cons_succ, Array.getD_eq_getD_getElem?, List.getElem?_toArray, List.getElem?_cons_succ, List.getElem?_cons_zero, Option.getD_some, Nat.reduceAdd, List.nil_append, List.cons_append, En.get])
  refine fs_end ?_
  intro f lof wn HF hk
  have hl := HF 8 (by decide)
  (try simp only [itms, itm, usesOf, readsOf, takesOf, List.find?, Nat.reduceBEq, List.flatMap_cons, List.flatMap_nil, Nat.reduceLT, if_true, if_false, Nat.reduceSub, List.getD_cons_zero, List.getD_cons_succ, List.append_nil, List.cons_append, List.nil_append, show lof 8 = _ from hl] at hk)
  generalize f 4 = x4
  generalize f 7 = x7
  generalize f 8 = x8
  clear HF hl f lof
  clear HK
  have HK := Lib.hid hk
  clear hk
  go_wp2_with fail
  exact bodyPost_ret (results_tmp rfl _ _ _) rfl ⟨_, _, rfl, HK.out.get (.here _), HK.out.grown⟩
end Go.Proofs.Ytmankjhopfilaaa
