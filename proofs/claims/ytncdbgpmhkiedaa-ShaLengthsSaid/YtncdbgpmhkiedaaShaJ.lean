/- SHA-512's padding, walked. -/
import Derived.Test.YtncdbgpmhkiedaaShaI
import Derived.Test.YtncdbgpmhkiedaaZer
import Derived.WalkSpells
namespace Go.Proofs.Ytncdbgpmhkiedaa
set_option linter.unusedVariables false
set_option linter.unusedSimpArgs false
open Go.RowKit Go.Proofs.YtncdbgpmhkiedaaL

theorem own_empty (w : World) (T : TypeId) (k : IntKind) : Own w (w.alloc (.cells #[] T (0, 0))) [.sl T k (some ⟨w.heap.size, 0, none⟩) 0 0 []] :=
  (own_start w).add (World.grownBy_alloc _ _ _) ⟨rfl, .inr ⟨w.heap.size, 0, #[], rfl, Nat.le_refl _, alloc_at _ _ rfl, Nat.le_refl _, Nat.zero_le _, rfl, rfl⟩⟩ (fun p hp => by simp [It.foot, Value.ownBlock] at hp; omega)
theorem rd_src {w : World} {x : Addr} {len cap : Nat} {xs : List Int} (h : Rd .u8 w (some x) len xs) : Go.Proofs.YtncdbgpmhkiedaaL.Src w (.slice (some x) len cap) (xs.map (Value.int .u8)) :=
  .inr ⟨x, cap, by rw [List.length_map, h.1], fun j u hu => by
    obtain ⟨y, hy, rfl⟩ : ∃ y, xs[j]? = some y ∧ Value.int .u8 y = u := by simpa using hu
    rw [rd_at h j (by rw [← h.1]; exact (List.getElem?_eq_some_iff.1 hy).1), List.getD_eq_getElem?_getD, hy]; rfl⟩
set_option maxHeartbeats 400000 in
theorem clone_any (x : Addr) (len cap : Nat) (xs : List Int) (w : World) (hr : Rd .u8 w (some x) len xs) (hl : len ≤ 1000000) : Calls Try.prog 27 #[.slice (some x) len cap] w fun e w' =>
    ∃ v, e = .returned v ∧ w'.ownsRow w.heap.size 5 1 v len (xs.map (Value.int .u8)) ∧ w.grownBy w' none := by
  have HR := Lib.hid hr
  clear hr
  have HK := Lib.hid (own_empty w 5 .u8)
  have HL := Lib.hid HR.out.1
  have HS := Lib.hid (rd_src (cap := cap) (HR.out.kept (World.grownBy_alloc w (.cells #[] 5 (0, 0)) none)))
  go_enter Try.func27, Try.ntmps27
  have hnil := fun w : World => Lib.run_eql_slice_nil (P := Try.prog) w 22 5 (some x) len cap 0 0 Try.underlying22
  go_wp2_with (at_builtin; refine wpList_app_own rfl HK.out _ _ 22 rfl 5 (.int .u8 0) 1 Try.underlying22 (by kernel_rfl) rfl .u8 _ _ _ _ rfl (by first | exact Del.here _ | exact Del.next _ (Del.here _) | exact Del.next _ (Del.next _ (Del.here _)) | exact Del.next _ (Del.next _ (Del.next _ (Del.here _))) | exact Del.next _ (Del.next _ (Del.next _ (Del.next _ (Del.here _)))) | exact Del.next _ (Del.next _ (Del.next _ (Del.next _ (Del.next _ (Del.here _))))) | exact Del.next _ (Del.next _ (Del.next _ (Del.next _ (Del.next _ (Del.next _ (Del.here _)))))) | exact Del.next _ (Del.next _ (Del.next _ (Del.next _ (Del.next _ (Del.next _ (Del.next _ (Del.here _))))))) | exact Del.next _ (Del.next _ (Del.next _ (Del.next _ (Del.next _ (Del.next _ (Del.next _ (Del.next _ (Del.here _)))))))) | exact Del.next _ (Del.next _ (Del.next _ (Del.next _ (Del.next _ (Del.next _ (Del.next _ (Del.next _ (Del.next _ (Del.here _)))))))))) _ len xs rfl HL.out HS.out (by unfold maxLen; omega) (by omega) ?_)
  intro a1 c1 w2 hk
  clear HK
  have HK := Lib.hid hk
  clear hk
  go_wp2_with fail
  exact bodyPost_ret (results_tmp rfl _ _ _) rfl ⟨_, rfl, by have := HK.out.get (.here _); simpa [It.has] using this, HK.out.grown⟩

theorem rd_front {k : IntKind} {w : World} {ad : Option Addr} {n : Nat} {xs : List Int} (h : Rd k w ad n xs) (m : Nat) (hm : m ≤ n) : Rd k w ad m (xs.take m) :=
  ⟨by rw [List.length_take, h.1]; omega, fun i hi => let ⟨x, h1, h2⟩ := h.2 i (by omega); ⟨x, h1, by rw [h2, List.getD_eq_getElem?_getD, List.getD_eq_getElem?_getD, List.getElem?_take_of_lt hi]⟩⟩
theorem pad64_front (m : List Int) : (pad64 m).take (m.length + 1) = m ++ [128] := by
  rw [pad64, padZ, List.append_assoc]
  exact List.take_left' (by simp)
theorem pad64_back (m : List Int) : (pad64 m).drop (m.length + 1 + zc m.length) = lenB8 m.length 8 := by
  rw [pad64]
  exact List.drop_left' (length_padZ m _)
set_option maxHeartbeats 1600000 in
set_option maxRecDepth 100000 in
theorem long_any (ad : Option Addr) (len cap : Nat) (L : List Bs) (w : World) (hl : L.length = len) (hcell : ∀ i b, L[i]? = some b → ∃ x, ad = some x ∧ w.cell? (x.add i) = some b.val) (hok : ∀ b ∈ L, b.ok w) (hlen : len ≤ 30) :
    Calls Try.prog 23 #[.slice ad len cap] w fun e w' => ∃ v, e = .returned v ∧ w'.ownsRow w.heap.size 5 1 v (lenB L + 1 + zc5 (lenB L) + 8) ((pad128 (catB L)).map (Value.int .u8)) ∧ w.grownBy w' none := by
  have HPAD := Lib.hid (padded_any ad len cap L w hl hcell hok hlen)
  have HCAT := Lib.hid (fun (w' : World) (g : w.grownBy w' none) => concat_any ad len cap L w' hl (fun i b hb => let ⟨x, h1, h2⟩ := hcell i b hb; ⟨x, h1, g.cell h2 (by simp)⟩) (fun b hb => Bs.ok_keep (hok b hb) g) hlen)
  have hm := lenB_le L hok
  have hm2 : lenB L ≤ 100000 := by omega
  have HML := Lib.hid (length_catB L hok)
  obtain ⟨n, hn⟩ : ∃ n, n = lenB L := ⟨_, rfl⟩
  obtain ⟨m, hmm⟩ : ∃ m, m = catB L := ⟨_, rfl⟩
  rw [← hn, ← hmm] at HML HPAD ⊢
  have HCAT' := Lib.hid (fun (w' : World) (g : w.grownBy w' none) => by have := HCAT.out w' g; rw [← hn, ← hmm] at this; exact this)
  rw [← hn] at hm2
  clear hl hcell hok hlen hm hn hmm HCAT
  have HK := Lib.hid (own_start w)
  go_enter Try.func23, Try.ntmps23
  go_wp2_with fail
  refine HPAD.out.mono ?_
  rintro e w1 ⟨v, rfl, ho, hg⟩
  obtain ⟨a, c, rfl, hk⟩ := HK.out.sl hg ho
  obtain ⟨pb, rfl, hcb⟩ := hk.addr (.here _) (by omega)
  have hcm := (hk.cap (.here _)).2.1
  clear ho hg
  clear HK
  have HK := Lib.hid hk
  clear hk
  go_wp2_with fail
  refine (HCAT'.out _ HK.out.grown).mono ?_
  rintro e w2 ⟨v, rfl, ho, hg⟩
  obtain ⟨a, c2, rfl⟩ := own_slice ho
  have hk := HK.out.grow hg
  clear ho hg
  clear HK
  have HK := Lib.hid hk
  clear hk
  have hn0 : (0 : Int) ≤ (n : Int) := by omega
  have hn1 : (n : Int) ≤ 100000 := by omega
  go_wp2_with fail
  have hrd := rd_front (HK.out.rdsl (.here _)) (n + 1) (by omega)
  rw [show (pad64 m).take (n + 1) = m ++ [128] by rw [← HML.out]; exact pad64_front m] at hrd
  refine (clone_any ⟨pb, 0, none⟩ (n + 1) c (m ++ [128]) _ hrd (by omega)).mono ?_
  rintro e w3 ⟨v, rfl, ho, hg⟩
  obtain ⟨a3, c3, rfl, hk⟩ := HK.out.sl hg ho
  clear ho hg hrd
  clear HK
  have HK := Lib.hid hk
  clear hk
  have hz5 : ((n : Int) + 1 + 16 + 128 - 1) / 128 * 128 - n - 1 - 8 = (zc5 n : Nat) := by unfold zc5; omega
  have HZ5 := Lib.hid hz5
  have hzp : 0 < zc5 n := by unfold zc5; omega
  have hzm : zc5 n ≤ 200 := by unfold zc5; omega
  clear hz5
  go_wp2_with (at_builtin; refine wpList_app_zeros rfl HK.out _ _ 22 3 rfl 5 .u8 1 Try.underlying22 Try.underlying3 (by kernel_rfl) _ _ _ _ rfl (by first | exact Del.here _ | exact Del.next _ (Del.here _) | exact Del.next _ (Del.next _ (Del.here _)) | exact Del.next _ (Del.next _ (Del.next _ (Del.here _))) | exact Del.next _ (Del.next _ (Del.next _ (Del.next _ (Del.here _)))) | exact Del.next _ (Del.next _ (Del.next _ (Del.next _ (Del.next _ (Del.here _))))) | exact Del.next _ (Del.next _ (Del.next _ (Del.next _ (Del.next _ (Del.next _ (Del.here _)))))) | exact Del.next _ (Del.next _ (Del.next _ (Del.next _ (Del.next _ (Del.next _ (Del.next _ (Del.here _))))))) | exact Del.next _ (Del.next _ (Del.next _ (Del.next _ (Del.next _ (Del.next _ (Del.next _ (Del.next _ (Del.here _)))))))) | exact Del.next _ (Del.next _ (Del.next _ (Del.next _ (Del.next _ (Del.next _ (Del.next _ (Del.next _ (Del.next _ (Del.here _)))))))))) (zc5 n) _ rfl HZ5.out hzp (by unfold maxLen; omega) (by omega) ?_)
  intro a4 c4 w4 hk
  clear HK
  have HK := Lib.hid hk
  clear hk
  obtain ⟨N, hN⟩ : ∃ N, N = n + 1 + zc n + 8 := ⟨_, rfl⟩
  have hN9 : N - 8 = n + 1 + zc n := by omega
  have hN8 : 8 ≤ N := by omega
  have hN1 : N ≤ 200000 := by have : zc n ≤ 63 := by unfold zc; omega
                              omega
  rw [← hN] at HK ⊢
  have hrd := HK.out.rdsl_from (.next _ (.here _)) (N - 8) 8 (by omega) (by omega)
  rw [show (pad64 m).drop (N - 8) = lenB8 n 8 by rw [hN9, ← HML.out]; exact pad64_back m] at hrd
  have HSRC := Lib.hid (rd_src (cap := c - (N - 8)) hrd)
  have hN8i : (8 : Int) ≤ (N : Int) := by omega
  have hN1i : (N : Int) ≤ 200000 := by omega
  have hcN : (N : Int) ≤ (c : Int) := by omega
  have HL8 := Lib.hid (length_lenB8 n 8)
  clear hN hN9 hrd hcb
  have HSL := Lib.hid (fun w : World => show (Instr.sliceAt 22 (.slice (some ⟨pb, 0, none⟩) N c) (some (.int .i64 ((N : Int) - 8))) none none).run Try.prog w = .ok (.slice (some ⟨pb, N - 8, none⟩) 8 (c - (N - 8))) w by
    rw [run_sub_l Try.underlying22 (by kernel_rfl) _ (N - 8) (by omega) (by omega) w, subAt, if_neg (by omega), Option.map_some, Addr.add_mid, Nat.mul_one, Nat.zero_add, show N - (N - 8) = 8 by omega])
  go_wp2_with (first | (refine wpList_slice rfl 22 _ _ _ rfl _ rfl _ _ rfl rfl _ HSL.out ?_) | (at_builtin; refine wpList_app_own rfl HK.out _ _ 22 rfl 5 (.int .u8 0) 1 Try.underlying22 (by kernel_rfl) rfl .u8 _ _ _ _ rfl (by first | exact Del.here _ | exact Del.next _ (Del.here _) | exact Del.next _ (Del.next _ (Del.here _)) | exact Del.next _ (Del.next _ (Del.next _ (Del.here _))) | exact Del.next _ (Del.next _ (Del.next _ (Del.next _ (Del.here _)))) | exact Del.next _ (Del.next _ (Del.next _ (Del.next _ (Del.next _ (Del.here _))))) | exact Del.next _ (Del.next _ (Del.next _ (Del.next _ (Del.next _ (Del.next _ (Del.here _)))))) | exact Del.next _ (Del.next _ (Del.next _ (Del.next _ (Del.next _ (Del.next _ (Del.next _ (Del.here _))))))) | exact Del.next _ (Del.next _ (Del.next _ (Del.next _ (Del.next _ (Del.next _ (Del.next _ (Del.next _ (Del.here _)))))))) | exact Del.next _ (Del.next _ (Del.next _ (Del.next _ (Del.next _ (Del.next _ (Del.next _ (Del.next _ (Del.next _ (Del.here _)))))))))) _ 8 (lenB8 n 8) rfl HL8.out HSRC.out (by unfold maxLen; omega) (by omega) ?_))
  intro a5 c5 w5 hk
  clear HK
  have HK := Lib.hid hk
  clear hk
  go_wp2_with fail
  have hp : pad128 m = m ++ 128 :: zer (zc5 n) ++ lenB8 n 8 := by rw [pad128, padZ, HML.out]; simp [zer]
  exact bodyPost_ret (results_tmp rfl _ _ _) rfl ⟨_, rfl, by rw [hp]; have := HK.out.get (.here _); simpa [It.has] using this, HK.out.grown⟩
end Go.Proofs.Ytncdbgpmhkiedaa
