/- HMAC, walked. -/
import Derived.Test.YtjogdbiaiflmpaaHkC
namespace Go.Proofs.Ytjogdbiaiflmpaa
set_option linter.unusedVariables false
set_option linter.unusedSimpArgs false
open Go.RowKit Go.Proofs.YtjogdbiaiflmpaaL

theorem parts_src {w : World} {ad : Option Addr} {len cap : Nat} {L : List Bs} (hl : L.length = len) (hcell : ∀ i b, L[i]? = some b → ∃ x, ad = some x ∧ w.cell? (x.add i) = some b.val) (hn : ad = none → cap = 0) : Go.Proofs.YtjogdbiaiflmpaaL.Src w (.slice ad len cap) (L.map Bs.val) := by
  cases ad with
  | none =>
    cases L with
    | nil => exact .inl ⟨by rw [hn rfl, ← hl]; rfl, rfl⟩
    | cons b r => obtain ⟨x, hx, -⟩ := hcell 0 b rfl; cases hx
  | some x =>
    refine .inr ⟨x, cap, by rw [List.length_map, hl], fun j u hu => ?_⟩
    rw [List.getElem?_map] at hu
    cases hb : L[j]? with
    | none => rw [hb] at hu; cases hu
    | some b =>
      rw [hb] at hu
      obtain ⟨y, hy, hc⟩ := hcell j b hb
      injection hy with hy
      subst hy
      rw [hc]; exact hu
theorem parts_one (L : List Bs) : ∀ u ∈ L.map Bs.val, u.oneCell' = true := fun u hu => by
  obtain ⟨b, -, rfl⟩ := List.mem_map.1 hu
  rfl

set_option maxHeartbeats 8000000 in
set_option maxRecDepth 100000 in
theorem mac_any (B : Bs) (ad : Option Addr) (len cap : Nat) (L : List Bs) (w : World) (hb : B.ok w) (hl : L.length = len) (hcell : ∀ i b, L[i]? = some b → ∃ x, ad = some x ∧ w.cell? (x.add i) = some b.val) (hok : ∀ b ∈ L, b.ok w) (hn : ad = none → cap = 0) (hlen : len ≤ 20) :
    Calls Try.prog 12 #[B.val, .slice ad len cap] w fun e w' => e = .returned (.agg (encK .u8 (hmac B.xs (catB L)))) ∧ w.grownBy w' none := by
  have HP1 := Lib.hid (fun (w' : World) (g : w.grownBy w' none) => pad_any B 54 w' (Bs.ok_keep hb g) (by decide) (by decide))
  have HP2 := Lib.hid (fun (w' : World) (g : w.grownBy w' none) => pad_any B 92 w' (Bs.ok_keep hb g) (by decide) (by decide))
  have HSRC := Lib.hid (fun (w' : World) (g : w.grownBy w' none) => parts_src (w := w') hl (fun i b hb => let ⟨x, h1, h2⟩ := hcell i b hb; ⟨x, h1, g.cell h2 (by simp)⟩) hn)
  have HOK := Lib.hid (fun (w' : World) (g : w.grownBy w' none) (b : Bs) (h : b ∈ L) => Bs.ok_keep (hok b h) g)
  have HL := Lib.hid hl
  obtain ⟨X, hX⟩ : ∃ X, X = xorL 54 (kpad B.xs) := ⟨_, rfl⟩
  obtain ⟨Y, hY⟩ : ∃ Y, Y = xorL 92 (kpad B.xs) := ⟨_, rfl⟩
  have HX := Lib.hid (show okB 256 X by rw [hX]; exact ok_xorL _ _)
  have HY := Lib.hid (show okB 256 Y by rw [hY]; exact ok_xorL _ _)
  rw [show hmac B.xs (catB L) = sum32 (Y ++ sum32 (X ++ catB L)) by rw [hmac, hX, hY]]
  rw [← hX] at HP1
  rw [← hY] at HP2
  obtain ⟨bv, hbv⟩ : ∃ bv, bv = B.val := ⟨_, rfl⟩
  rw [← hbv] at HP1 HP2 ⊢
  clear hX hY hbv hl hcell hok hn hb
  have HK := Lib.hid (own_start w)
  go_enter Try.func12, Try.ntmps12
  go_wp2_with ((refine wpList_new_ints rfl HK.out _ rfl .u8 26 32 (zer 32) (length_zer _) (fun w => by go_simp; first | exact ⟨rfl, rfl⟩ | kernel_rfl) ?_))
  intro wn po hkn
  have HKN := Lib.hid hkn
  clear hkn HK
  have HK := HKN
  clear HKN
  go_wp2_with fail
  refine (HP1.out _ HK.out.grown).mono ?_
  rintro e w1 ⟨v, rfl, ho, g⟩
  obtain ⟨a, c, rfl, hk⟩ := HK.out.sl g ho
  clear ho g
  clear HK
  have HK := Lib.hid hk
  clear hk
  go_wp2_with (refine wpList_stop 10 rfl ?_)
  obtain ⟨sb, hsb⟩ : ∃ sb, w1.heap.size = sb := ⟨_, rfl⟩
  have hkb := HK.out.row_vals (n := 1) 22 [.slice a 64 c] rfl hsb (show 1 ≤ maxLen by unfold maxLen; decide)
  rw [hsb]
  clear hsb
  rintro w' rfl
  clear HK
  have HK := Lib.hid hkb
  clear hkb
  refine Go.Proofs.YtjogdbiaiflmpaaL.wpList_app_vals rfl HK.out _ _ 51 rfl 22 (.slice none 0 0) 24 Try.underlying51 (by kernel_rfl) rfl _ _ _ _ rfl (by first | exact Del.here _ | exact Del.next _ (Del.here _) | exact Del.next _ (Del.next _ (Del.here _)) | exact Del.next _ (Del.next _ (Del.next _ (Del.here _))) | exact Del.next _ (Del.next _ (Del.next _ (Del.next _ (Del.here _)))) | exact Del.next _ (Del.next _ (Del.next _ (Del.next _ (Del.next _ (Del.here _))))) | exact Del.next _ (Del.next _ (Del.next _ (Del.next _ (Del.next _ (Del.next _ (Del.here _)))))) | exact Del.next _ (Del.next _ (Del.next _ (Del.next _ (Del.next _ (Del.next _ (Del.next _ (Del.here _))))))) | exact Del.next _ (Del.next _ (Del.next _ (Del.next _ (Del.next _ (Del.next _ (Del.next _ (Del.next _ (Del.here _)))))))) | exact Del.next _ (Del.next _ (Del.next _ (Del.next _ (Del.next _ (Del.next _ (Del.next _ (Del.next _ (Del.next _ (Del.here _)))))))))) (.slice ad len cap) len (L.map Bs.val) rfl (by rw [List.length_map, HL.out]) (parts_one L) (HSRC.out _ HK.out.grown) (by unfold maxLen; omega) (by omega) ?_
  intro a2 c2 wn hk
  clear HK
  have HK := Lib.hid hk
  clear hk
  have hcs : ∀ i b, ((⟨a, 64, c, X⟩ : Bs) :: L)[i]? = some b → ∃ x, a2 = some x ∧ wn.cell? (x.add i) = some b.val := fun i b hb =>
    HK.out.vals_cell (.here _) i b.val (by rw [show [Value.slice a 64 c] ++ L.map Bs.val = ((⟨a, 64, c, X⟩ : Bs) :: L).map Bs.val from rfl, List.getElem?_map, hb]; rfl)
  have hos : ∀ b ∈ ((⟨a, 64, c, X⟩ : Bs) :: L), b.ok wn := fun b hb => by
    rcases List.mem_cons.1 hb with rfl | hb
    · exact ⟨HK.out.rdsl (.next _ (.here _)), HX.out, (HK.out.cap (.next _ (.here _))).2.2, (show 64 ≤ 3000 by decide)⟩
    · exact HOK.out _ HK.out.grown b hb
  have HCS := Lib.hid hcs
  have HOS := Lib.hid hos
  clear hcs hos
  go_wp2_with fail
  refine (sum256_any a2 (1 + len) c2 (⟨a, 64, c, X⟩ :: L) _ (by rw [List.length_cons, HL.out]; omega) HCS.out HOS.out (by omega)).mono ?_
  rintro e w3 ⟨rfl, hg⟩
  have hk := HK.out.grow hg
  clear hg HCS HOS
  clear HK
  have HK := Lib.hid hk
  clear hk
  have hk := HK.out.sub (L' := [.ints po .u8 26 32 (zer 32)]) (List.Sublist.cons _ (List.Sublist.cons _ (List.Sublist.refl _)))
  clear HK
  have HK := Lib.hid hk
  clear hk
  rw [show catB ((⟨a, 64, c, X⟩ : Bs) :: L) = X ++ catB L from rfl]
  obtain ⟨S, hS⟩ : ∃ S, S = sum32 (X ++ catB L) := ⟨_, rfl⟩
  rw [← hS]
  have HS := Lib.hid hS
  have HSL := Lib.hid (show S.length = 32 by rw [hS, length_sum32])
  have HSO := Lib.hid (show okB 256 S by rw [hS]; exact ok_sum32 _)
  clear hS
  go_wp2_with ((refine wpList_new_ints rfl HK.out _ rfl .u8 26 32 (zer 32) (length_zer _) (fun w => by go_simp; first | exact ⟨rfl, rfl⟩ | kernel_rfl) ?_))
  intro wn pi hkn
  have HKN := Lib.hid hkn
  clear hkn HK
  have HK := HKN
  clear HKN
  go_wp2_with (refine wpList_put_row rfl HK.out 26 _ _ rfl _ _ S rfl rfl _ _ _ (by first | exact Upd.here _ | exact Upd.next _ (Upd.here _) | exact Upd.next _ (Upd.next _ (Upd.here _)) | exact Upd.next _ (Upd.next _ (Upd.next _ (Upd.here _))) | exact Upd.next _ (Upd.next _ (Upd.next _ (Upd.next _ (Upd.here _)))) | exact Upd.next _ (Upd.next _ (Upd.next _ (Upd.next _ (Upd.next _ (Upd.here _))))) | exact Upd.next _ (Upd.next _ (Upd.next _ (Upd.next _ (Upd.next _ (Upd.next _ (Upd.here _)))))) | exact Upd.next _ (Upd.next _ (Upd.next _ (Upd.next _ (Upd.next _ (Upd.next _ (Upd.next _ (Upd.here _))))))) | exact Upd.next _ (Upd.next _ (Upd.next _ (Upd.next _ (Upd.next _ (Upd.next _ (Upd.next _ (Upd.next _ (Upd.here _)))))))) | exact Upd.next _ (Upd.next _ (Upd.next _ (Upd.next _ (Upd.next _ (Upd.next _ (Upd.next _ (Upd.next _ (Upd.next _ (Upd.here _)))))))))) (by exact HSL.out) (by kernel_rfl) ?_; (intro wn hkn; have HKN := Lib.hid hkn; clear hkn; clear HK; have HK := HKN; clear HKN))
  refine wp_region_grow [(2, 0), (2, 2), (0, 1), (0, 3), (0, 4), (3, 5)] (by kernel_rfl) (by kernel_rfl) (fun _ _ _ _ _ h => h) (fun _ _ _ _ _ h => h) ?_
  refine gSeq_own HK.out fun wn hkn gn ein => ?_
  have HKN := Lib.hid hkn
  clear hkn HK
  have HK := HKN
  clear HKN
  clear gn ein
  (repeat (first | (refine gSeq_get_int rfl (by rfl) HK.out _ _ rfl _ _ rfl _ _ _ _ (by first | exact Has.here _ | exact Has.next _ (Has.here _) | exact Has.next _ (Has.next _ (Has.here _)) | exact Has.next _ (Has.next _ (Has.next _ (Has.here _))) | exact Has.next _ (Has.next _ (Has.next _ (Has.next _ (Has.here _)))) | exact Has.next _ (Has.next _ (Has.next _ (Has.next _ (Has.next _ (Has.here _))))) | exact Has.next _ (Has.next _ (Has.next _ (Has.next _ (Has.next _ (Has.next _ (Has.here _)))))) | exact Has.next _ (Has.next _ (Has.next _ (Has.next _ (Has.next _ (Has.next _ (Has.next _ (Has.here _))))))) | exact Has.next _ (Has.next _ (Has.next _ (Has.next _ (Has.next _ (Has.next _ (Has.next _ (Has.next _ (Has.here _)))))))) | exact Has.next _ (Has.next _ (Has.next _ (Has.next _ (Has.next _ (Has.next _ (Has.next _ (Has.next _ (Has.next _ (Has.here _)))))))))) rfl (by omega) ?_; (try simp only [Act.put, Act.eval, List.setIfInBounds_toArray, List.set_cons_zero, List.set_cons_succ, Array.getD_eq_getD_getElem?, List.getElem?_toArray, List.getElem?_cons_succ, List.getElem?_cons_zero, Option.getD_some])) | (refine gSeq_skip rfl (by rfl) ?_; (try simp only [Act.put, Act.eval, List.setIfInBounds_toArray, List.set_cons_zero, List.set_cons_succ, Array.getD_eq_getD_getElem?, List.getElem?_toArray, List.getElem?_cons_succ, List.getElem?_cons_zero, Option.getD_some])) | (refine gSeq_move _ rfl rfl (by rfl) ?_; (try simp only [Act.put, Act.eval, List.setIfInBounds_toArray, List.set_cons_zero, List.set_cons_succ, Array.getD_eq_getD_getElem?, List.getElem?_toArray, List.getElem?_cons_succ, List.getElem?_cons_zero, Option.getD_some])) | (refine gSeq_assign _ rfl rfl (by rfl) ?_; (try simp only [Act.put, Act.eval, List.setIfInBounds_toArray, List.set_cons_zero, List.set_cons_succ, Array.getD_eq_getD_getElem?, List.getElem?_toArray, List.getElem?_cons_succ, List.getElem?_cons_zero, Option.getD_some])) | (refine gSeq_pure rfl (by rfl) ?_ ?_ ?_; (rotate_left; (intro w'; (skip); go_simp; (first | done | with_reducible rfl)); (try simp only [Act.put, Act.eval, List.setIfInBounds_toArray, List.set_cons_zero, List.set_cons_succ, Array.getD_eq_getD_getElem?, List.getElem?_toArray, List.getElem?_cons_succ, List.getElem?_cons_zero, Option.getD_some]))) | (fail) | (refine gSeq_still rfl (by rfl) ?_ ?_ ?_; (rotate_left; (intro w' hG; (skip); go_simp; (first | done | with_reducible rfl)); (try simp only [Act.put, Act.eval, List.setIfInBounds_toArray, List.set_cons_zero, List.set_cons_succ, Array.getD_eq_getD_getElem?, List.getElem?_toArray, List.getElem?_cons_succ, List.getElem?_cons_zero, Option.getD_some])))))
  (refine gSeq_do rfl (by rfl) (fun K hK => ?_)); go_simp
  refine (HP2.out _ HK.out.grown).mono ?_
  rintro e wn ⟨v, rfl, ho, hg⟩
  obtain ⟨a5, c5, rfl, hkb⟩ := HK.out.sl hg ho
  refine hK _ _ hg ?_
  clear hK K hg ho
  (try simp only [Act.put, Act.eval, List.setIfInBounds_toArray, List.set_cons_zero, List.set_cons_succ, Array.getD_eq_getD_getElem?, List.getElem?_toArray, List.getElem?_cons_succ, List.getElem?_cons_zero, Option.getD_some])
  clear HK
  have HK := Lib.hid hkb
  clear hkb
  (repeat (first | (refine gSeq_get_int rfl (by rfl) HK.out _ _ rfl _ _ rfl _ _ _ _ (by first | exact Has.here _ | exact Has.next _ (Has.here _) | exact Has.next _ (Has.next _ (Has.here _)) | exact Has.next _ (Has.next _ (Has.next _ (Has.here _))) | exact Has.next _ (Has.next _ (Has.next _ (Has.next _ (Has.here _)))) | exact Has.next _ (Has.next _ (Has.next _ (Has.next _ (Has.next _ (Has.here _))))) | exact Has.next _ (Has.next _ (Has.next _ (Has.next _ (Has.next _ (Has.next _ (Has.here _)))))) | exact Has.next _ (Has.next _ (Has.next _ (Has.next _ (Has.next _ (Has.next _ (Has.next _ (Has.here _))))))) | exact Has.next _ (Has.next _ (Has.next _ (Has.next _ (Has.next _ (Has.next _ (Has.next _ (Has.next _ (Has.here _)))))))) | exact Has.next _ (Has.next _ (Has.next _ (Has.next _ (Has.next _ (Has.next _ (Has.next _ (Has.next _ (Has.next _ (Has.here _)))))))))) rfl (by omega) ?_; (try simp only [Act.put, Act.eval, List.setIfInBounds_toArray, List.set_cons_zero, List.set_cons_succ, Array.getD_eq_getD_getElem?, List.getElem?_toArray, List.getElem?_cons_succ, List.getElem?_cons_zero, Option.getD_some])) | (refine gSeq_skip rfl (by rfl) ?_; (try simp only [Act.put, Act.eval, List.setIfInBounds_toArray, List.set_cons_zero, List.set_cons_succ, Array.getD_eq_getD_getElem?, List.getElem?_toArray, List.getElem?_cons_succ, List.getElem?_cons_zero, Option.getD_some])) | (refine gSeq_move _ rfl rfl (by rfl) ?_; (try simp only [Act.put, Act.eval, List.setIfInBounds_toArray, List.set_cons_zero, List.set_cons_succ, Array.getD_eq_getD_getElem?, List.getElem?_toArray, List.getElem?_cons_succ, List.getElem?_cons_zero, Option.getD_some])) | (refine gSeq_assign _ rfl rfl (by rfl) ?_; (try simp only [Act.put, Act.eval, List.setIfInBounds_toArray, List.set_cons_zero, List.set_cons_succ, Array.getD_eq_getD_getElem?, List.getElem?_toArray, List.getElem?_cons_succ, List.getElem?_cons_zero, Option.getD_some])) | (refine gSeq_pure rfl (by rfl) ?_ ?_ ?_; (rotate_left; (intro w'; (skip); go_simp; (first | done | with_reducible rfl)); (try simp only [Act.put, Act.eval, List.setIfInBounds_toArray, List.set_cons_zero, List.set_cons_succ, Array.getD_eq_getD_getElem?, List.getElem?_toArray, List.getElem?_cons_succ, List.getElem?_cons_zero, Option.getD_some]))) | (fail) | (refine gSeq_still rfl (by rfl) ?_ ?_ ?_; (rotate_left; (intro w' hG; (skip); go_simp; (first | done | with_reducible rfl)); (try simp only [Act.put, Act.eval, List.setIfInBounds_toArray, List.set_cons_zero, List.set_cons_succ, Array.getD_eq_getD_getElem?, List.getElem?_toArray, List.getElem?_cons_succ, List.getElem?_cons_zero, Option.getD_some])))))
  (refine gSeq_do rfl (by rfl) (fun K hK => ?_)); go_simp
  obtain ⟨sb, hsb⟩ : ∃ sb, wn.heap.size = sb := ⟨_, rfl⟩
  have hkb := HK.out.blk (.cells #[Value.slice a5 64 c5, Value.slice (some ⟨pi, 0, none⟩) 32 32] 22 (0, 0)) hsb
  rw [hsb]
  clear hsb
  refine hK _ _ (World.grownBy_alloc _ _ _) ?_
  clear hK K
  (try simp only [Act.put, Act.eval, List.setIfInBounds_toArray, List.set_cons_zero, List.set_cons_succ, Array.getD_eq_getD_getElem?, List.getElem?_toArray, List.getElem?_cons_succ, List.getElem?_cons_zero, Option.getD_some])
  generalize wn.alloc (.cells #[Value.slice a5 64 c5, Value.slice (some ⟨pi, 0, none⟩) 32 32] 22 (0, 0)) = wn at hkb ⊢
  clear HK
  have HK := Lib.hid hkb
  clear hkb
  have hb1 : (⟨a5, 64, c5, Y⟩ : Bs).ok wn := ⟨HK.out.rdsl (.next _ (.here _)), HY.out, (HK.out.cap (.next _ (.here _))).2.2, (show 64 ≤ 3000 by decide)⟩
  have hb2 : (⟨some ⟨pi, 0, none⟩, 32, 32, S⟩ : Bs).ok wn := ⟨HK.out.rd (.next _ (.next _ (.here _))), HSO.out, (fun h => by cases h), (show 32 ≤ 3000 by decide)⟩
  have HO2 := Lib.hid (show ∀ b ∈ [(⟨a5, 64, c5, Y⟩ : Bs), (⟨some ⟨pi, 0, none⟩, 32, 32, S⟩ : Bs)], b.ok wn from fun b hb => by
    simp only [List.mem_cons, List.not_mem_nil, or_false] at hb
    rcases hb with rfl | rfl
    · exact hb1
    · exact hb2)
  clear hb1 hb2
  (refine gSeq_do rfl (by rfl) (fun K hK => ?_)); go_simp
  refine (sum256_row _ [⟨a5, 64, c5, Y⟩, ⟨some ⟨pi, 0, none⟩, 32, 32, S⟩] 2 _ (HK.out.at (.here _)) HO2.out rfl (by decide)).mono ?_
  rintro e wn ⟨rfl, hg⟩
  rw [show catB [(⟨a5, 64, c5, Y⟩ : Bs), (⟨some ⟨pi, 0, none⟩, 32, 32, S⟩ : Bs)] = Y ++ S by simp [catB]]
  refine hK _ _ hg ?_
  clear hK K
  (try simp only [Act.put, Act.eval, List.setIfInBounds_toArray, List.set_cons_zero, List.set_cons_succ, Array.getD_eq_getD_getElem?, List.getElem?_toArray, List.getElem?_cons_succ, List.getElem?_cons_zero, Option.getD_some])
  have hkb := (HK.out.sub (List.Sublist.cons _ (List.Sublist.refl _))).grow hg
  clear hg
  clear HK
  have HK := Lib.hid hkb
  clear hkb
  clear HO2
  obtain ⟨T, hT⟩ : ∃ T, T = sum32 (Y ++ S) := ⟨_, rfl⟩
  rw [← hT]
  have HT := Lib.hid (show sum32 (Y ++ sum32 (X ++ catB L)) = T by rw [hT, HS.out])
  have HTL := Lib.hid (show T.length = 32 by rw [hT, length_sum32])
  clear hT
  (repeat (first | (refine gSeq_get_int rfl (by rfl) HK.out _ _ rfl _ _ rfl _ _ _ _ (by first | exact Has.here _ | exact Has.next _ (Has.here _) | exact Has.next _ (Has.next _ (Has.here _)) | exact Has.next _ (Has.next _ (Has.next _ (Has.here _))) | exact Has.next _ (Has.next _ (Has.next _ (Has.next _ (Has.here _)))) | exact Has.next _ (Has.next _ (Has.next _ (Has.next _ (Has.next _ (Has.here _))))) | exact Has.next _ (Has.next _ (Has.next _ (Has.next _ (Has.next _ (Has.next _ (Has.here _)))))) | exact Has.next _ (Has.next _ (Has.next _ (Has.next _ (Has.next _ (Has.next _ (Has.next _ (Has.here _))))))) | exact Has.next _ (Has.next _ (Has.next _ (Has.next _ (Has.next _ (Has.next _ (Has.next _ (Has.next _ (Has.here _)))))))) | exact Has.next _ (Has.next _ (Has.next _ (Has.next _ (Has.next _ (Has.next _ (Has.next _ (Has.next _ (Has.next _ (Has.here _)))))))))) rfl (by omega) ?_; (try simp only [Act.put, Act.eval, List.setIfInBounds_toArray, List.set_cons_zero, List.set_cons_succ, Array.getD_eq_getD_getElem?, List.getElem?_toArray, List.getElem?_cons_succ, List.getElem?_cons_zero, Option.getD_some])) | (refine gSeq_skip rfl (by rfl) ?_; (try simp only [Act.put, Act.eval, List.setIfInBounds_toArray, List.set_cons_zero, List.set_cons_succ, Array.getD_eq_getD_getElem?, List.getElem?_toArray, List.getElem?_cons_succ, List.getElem?_cons_zero, Option.getD_some])) | (refine gSeq_move _ rfl rfl (by rfl) ?_; (try simp only [Act.put, Act.eval, List.setIfInBounds_toArray, List.set_cons_zero, List.set_cons_succ, Array.getD_eq_getD_getElem?, List.getElem?_toArray, List.getElem?_cons_succ, List.getElem?_cons_zero, Option.getD_some])) | (refine gSeq_assign _ rfl rfl (by rfl) ?_; (try simp only [Act.put, Act.eval, List.setIfInBounds_toArray, List.set_cons_zero, List.set_cons_succ, Array.getD_eq_getD_getElem?, List.getElem?_toArray, List.getElem?_cons_succ, List.getElem?_cons_zero, Option.getD_some])) | (refine gSeq_pure rfl (by rfl) ?_ ?_ ?_; (rotate_left; (intro w'; (skip); go_simp; (first | done | with_reducible rfl)); (try simp only [Act.put, Act.eval, List.setIfInBounds_toArray, List.set_cons_zero, List.set_cons_succ, Array.getD_eq_getD_getElem?, List.getElem?_toArray, List.getElem?_cons_succ, List.getElem?_cons_zero, Option.getD_some]))) | ((refine gSeq_put_row rfl (by rfl) HK.out 26 _ _ rfl _ _ T rfl rfl _ _ _ (by first | exact Upd.here _ | exact Upd.next _ (Upd.here _) | exact Upd.next _ (Upd.next _ (Upd.here _)) | exact Upd.next _ (Upd.next _ (Upd.next _ (Upd.here _))) | exact Upd.next _ (Upd.next _ (Upd.next _ (Upd.next _ (Upd.here _)))) | exact Upd.next _ (Upd.next _ (Upd.next _ (Upd.next _ (Upd.next _ (Upd.here _))))) | exact Upd.next _ (Upd.next _ (Upd.next _ (Upd.next _ (Upd.next _ (Upd.next _ (Upd.here _)))))) | exact Upd.next _ (Upd.next _ (Upd.next _ (Upd.next _ (Upd.next _ (Upd.next _ (Upd.next _ (Upd.here _))))))) | exact Upd.next _ (Upd.next _ (Upd.next _ (Upd.next _ (Upd.next _ (Upd.next _ (Upd.next _ (Upd.next _ (Upd.here _)))))))) | exact Upd.next _ (Upd.next _ (Upd.next _ (Upd.next _ (Upd.next _ (Upd.next _ (Upd.next _ (Upd.next _ (Upd.next _ (Upd.here _)))))))))) (by exact HTL.out) (by kernel_rfl) ?_; (intro wn hkn; have HKN := Lib.hid hkn; clear hkn; clear HK; have HK := HKN; clear HKN); (try simp only [Act.put, Act.eval, List.setIfInBounds_toArray, List.set_cons_zero, List.set_cons_succ, Array.getD_eq_getD_getElem?, List.getElem?_toArray, List.getElem?_cons_succ, List.getElem?_cons_zero, Option.getD_some]))) | (refine gSeq_still rfl (by rfl) ?_ ?_ ?_; (rotate_left; (intro w' hG; (skip); go_simp; (first | done | with_reducible rfl)); (try simp only [Act.put, Act.eval, List.setIfInBounds_toArray, List.set_cons_zero, List.set_cons_succ, Array.getD_eq_getD_getElem?, List.getElem?_toArray, List.getElem?_cons_succ, List.getElem?_cons_zero, Option.getD_some])))))
  refine gSeq_nil ?_
  go_wp2_with fail
  rw [HT.out]
  exact bodyPost_ret (results_own rfl _ HK.out _ rfl (by first | exact Has.here _ | exact Has.next _ (Has.here _) | exact Has.next _ (Has.next _ (Has.here _)) | exact Has.next _ (Has.next _ (Has.next _ (Has.here _))) | exact Has.next _ (Has.next _ (Has.next _ (Has.next _ (Has.here _)))) | exact Has.next _ (Has.next _ (Has.next _ (Has.next _ (Has.next _ (Has.here _))))) | exact Has.next _ (Has.next _ (Has.next _ (Has.next _ (Has.next _ (Has.next _ (Has.here _)))))) | exact Has.next _ (Has.next _ (Has.next _ (Has.next _ (Has.next _ (Has.next _ (Has.next _ (Has.here _))))))) | exact Has.next _ (Has.next _ (Has.next _ (Has.next _ (Has.next _ (Has.next _ (Has.next _ (Has.next _ (Has.here _)))))))) | exact Has.next _ (Has.next _ (Has.next _ (Has.next _ (Has.next _ (Has.next _ (Has.next _ (Has.next _ (Has.next _ (Has.here _)))))))))) _ Try.underlying26 rfl (by kernel_rfl)) rfl ⟨rfl, HK.out.grown⟩
end Go.Proofs.Ytjogdbiaiflmpaa
