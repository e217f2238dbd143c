/- SHA-256, walked. -/
import Derived.Test.YtjogdbiaiflmpaaShaD
namespace Go.Proofs.Ytjogdbiaiflmpaa
set_option linter.unusedVariables false
set_option linter.unusedSimpArgs false
open Go.RowKit Go.Proofs.YtjogdbiaiflmpaaL

theorem ok_app {B : Int} {s t : List Int} (hs : okB B s) (ht : okB B t) : okB B (s ++ t) := fun x hx => by
  rcases List.mem_append.1 hx with hx | hx
  · exact hs x hx
  · exact ht x hx
theorem ok_rep {B : Int} (hB : 0 < B) (n : Nat) : okB B (List.replicate n 0) := fun x hx => by rw [List.eq_of_mem_replicate hx]; exact ⟨Int.le_refl _, hB⟩
theorem ok_one {B x : Int} (h : 0 ≤ x ∧ x < B) : okB B [x] := fun y hy => by rw [List.mem_singleton] at hy; rw [hy]; exact h
theorem ok_lenB8 (n : Nat) : ∀ k, okB 256 (lenB8 n k)
  | 0 => fun x hx => by cases hx
  | k + 1 => ok_app (ok_lenB8 n k) (ok_one ⟨Int.emod_nonneg _ (by decide), Int.emod_lt_of_pos _ (by decide)⟩)
theorem ok_pad64 {m : List Int} (h : okB 256 m) : okB 256 (pad64 m) := ok_app (ok_app (ok_app h (ok_one (by decide))) (ok_rep (by decide) _)) (ok_lenB8 _ _)
theorem ok_catB : ∀ (L : List Bs) {w : World}, (∀ b ∈ L, b.ok w) → okB 256 (catB L)
  | [], _, _ => fun x hx => by cases hx
  | b :: r, w, h => ok_app (h b (by simp)).2.1 (ok_catB r fun c hc => h c (by simp [hc]))
theorem ok_drop' {B : Int} {s : List Int} (h : okB B s) (n : Nat) : okB B (s.drop n) := fun x hx => h x (List.mem_of_mem_drop hx)

set_option maxHeartbeats 4000000 in
set_option maxRecDepth 100000 in
theorem sum256_any (ad : Option Addr) (len cap : Nat) (L : List Bs) (w : World) (hl : L.length = len) (hcell : ∀ i b, L[i]? = some b → ∃ x, ad = some x ∧ w.cell? (x.add i) = some b.val) (hok : ∀ b ∈ L, b.ok w) (hlen : len ≤ 30) :
    Calls Try.prog 22 #[.slice ad len cap] w fun e w' => e = .returned (.agg (encK .u8 (sum32 (catB L)))) ∧ w.grownBy w' none := by
  have HPAD := Lib.hid (fun (w' : World) (g : w.grownBy w' none) => padded_any ad len cap L w' hl (fun i b hb => let ⟨x, h1, h2⟩ := hcell i b hb; ⟨x, h1, g.cell h2 (by simp)⟩) (fun b hb => Bs.ok_keep (hok b hb) g) hlen)
  have hm := lenB_le L hok
  have hml := length_catB L hok
  obtain ⟨M, hM⟩ : ∃ M, M = pad64 (catB L) := ⟨_, rfl⟩
  obtain ⟨nb, hnb⟩ : ∃ nb, nb = (lenB L + 1 + zc (lenB L) + 8) / 64 := ⟨_, rfl⟩
  have HMO := Lib.hid (show okB 256 M by rw [hM]; exact ok_pad64 (ok_catB L hok))
  have hw := whole64 (lenB L)
  have hN : lenB L + 1 + zc (lenB L) + 8 = 64 * nb := by omega
  have hzc : zc (lenB L) ≤ 63 := by unfold zc; omega
  have hnb0 : 0 < nb := by omega
  have hnb1 : nb ≤ 2000 := by omega
  have HS := Lib.hid (show sum32 (catB L) = outA (hs32 M nb) 32 by rw [sum32, ← hM]; congr 2; rw [hM, length_pad64, hml, hN]; omega)
  rw [← hM, hN] at HPAD
  clear hl hcell hok hlen hm hml hM hnb hw hN hzc
  have HK := Lib.hid (own_start w)
  go_enter Try.func22, Try.ntmps22
  go_wp2_with ((refine wpList_new_ints rfl HK.out _ rfl .u8 26 32 (zer 32) (length_zer _) (fun w => by go_simp; first | exact ⟨rfl, rfl⟩ | kernel_rfl) ?_))
  intro wn po hkn
  have HKN := Lib.hid hkn
  clear hkn HK
  have HK := HKN
  clear HKN
  go_wp2_with fail
  refine (start256_any _).mono ?_
  rintro e w1 ⟨rfl, g1⟩
  have HK1 := Lib.hid (HK.out.grow g1)
  clear HK g1
  go_wp2_with fail
  refine (round256_any _).mono ?_
  rintro e w2 ⟨rfl, g2⟩
  have HK := Lib.hid (HK1.out.grow g2)
  clear HK1 g2
  go_wp2_with ((refine wpList_new_ints rfl HK.out _ rfl .u32 46 8 (zer 8) (length_zer _) (fun w => by go_simp; first | exact ⟨rfl, rfl⟩ | kernel_rfl) ?_))
  intro wn ph hkn
  have HKN := Lib.hid hkn
  clear hkn HK
  have HK := HKN
  clear HKN
  go_wp2_with ((refine wpList_new_ints rfl HK.out _ rfl .u32 49 64 (zer 64) (length_zer _) (fun w => by go_simp; first | exact ⟨rfl, rfl⟩ | kernel_rfl) ?_))
  intro wn pk hkn
  have HKN := Lib.hid hkn
  clear hkn HK
  have HK := HKN
  clear HKN
  go_wp2_with (first | (refine wpList_put_row rfl HK.out 46 _ _ rfl _ _ H32 rfl rfl _ _ _ (by first | exact Upd.here _ | exact Upd.next _ (Upd.here _) | exact Upd.next _ (Upd.next _ (Upd.here _)) | exact Upd.next _ (Upd.next _ (Upd.next _ (Upd.here _))) | exact Upd.next _ (Upd.next _ (Upd.next _ (Upd.next _ (Upd.here _)))) | exact Upd.next _ (Upd.next _ (Upd.next _ (Upd.next _ (Upd.next _ (Upd.here _))))) | exact Upd.next _ (Upd.next _ (Upd.next _ (Upd.next _ (Upd.next _ (Upd.next _ (Upd.here _)))))) | exact Upd.next _ (Upd.next _ (Upd.next _ (Upd.next _ (Upd.next _ (Upd.next _ (Upd.next _ (Upd.here _))))))) | exact Upd.next _ (Upd.next _ (Upd.next _ (Upd.next _ (Upd.next _ (Upd.next _ (Upd.next _ (Upd.next _ (Upd.here _)))))))) | exact Upd.next _ (Upd.next _ (Upd.next _ (Upd.next _ (Upd.next _ (Upd.next _ (Upd.next _ (Upd.next _ (Upd.next _ (Upd.here _)))))))))) (by rfl) (by kernel_rfl) ?_; (intro wn hkn; have HKN := Lib.hid hkn; clear hkn; clear HK; have HK := HKN; clear HKN)) | (refine wpList_put_row rfl HK.out 49 _ _ rfl _ _ K32 rfl rfl _ _ _ (by first | exact Upd.here _ | exact Upd.next _ (Upd.here _) | exact Upd.next _ (Upd.next _ (Upd.here _)) | exact Upd.next _ (Upd.next _ (Upd.next _ (Upd.here _))) | exact Upd.next _ (Upd.next _ (Upd.next _ (Upd.next _ (Upd.here _)))) | exact Upd.next _ (Upd.next _ (Upd.next _ (Upd.next _ (Upd.next _ (Upd.here _))))) | exact Upd.next _ (Upd.next _ (Upd.next _ (Upd.next _ (Upd.next _ (Upd.next _ (Upd.here _)))))) | exact Upd.next _ (Upd.next _ (Upd.next _ (Upd.next _ (Upd.next _ (Upd.next _ (Upd.next _ (Upd.here _))))))) | exact Upd.next _ (Upd.next _ (Upd.next _ (Upd.next _ (Upd.next _ (Upd.next _ (Upd.next _ (Upd.next _ (Upd.here _)))))))) | exact Upd.next _ (Upd.next _ (Upd.next _ (Upd.next _ (Upd.next _ (Upd.next _ (Upd.next _ (Upd.next _ (Upd.next _ (Upd.here _)))))))))) (by rfl) (by kernel_rfl) ?_; (intro wn hkn; have HKN := Lib.hid hkn; clear hkn; clear HK; have HK := HKN; clear HKN)))
  refine (HPAD.out _ HK.out.grown).mono ?_
  rintro e w3 ⟨v, rfl, ho, g3⟩
  obtain ⟨a, c, rfl, hk⟩ := HK.out.sl g3 ho
  clear HK ho g3
  obtain ⟨pm, rfl, hcap⟩ := hk.addr (.here _) (by omega)
  have hcm := (hk.cap (.here _)).2.1
  have HK := Lib.hid hk
  clear hk HPAD
  go_wp2_with fail
  obtain ⟨zs, hzs⟩ : ∃ zs, zs = List.replicate 32 (0 : Int) := ⟨_, rfl⟩
  have HZS := Lib.hid hzs
  obtain ⟨KK, hkk⟩ : ∃ KK, KK = K32 := ⟨_, rfl⟩
  have HKK := Lib.hid hkk
  have HK' : Hid (Own w w3 [.sl 5 .u8 (some ⟨pm, 0, none⟩) (64 * nb) c M, .ints pk .u32 49 64 KK, .ints ph .u32 46 8 H32, .ints po .u8 26 32 zs]) := by rw [hzs, hkk]; exact HK
  rw [← hkk]
  clear HK hzs hkk
  have HK := HK'
  clear HK'
  obtain ⟨N, hN⟩ : ∃ N, N = 64 * nb := ⟨_, rfl⟩
  rw [← hN] at HK hcap ⊢
  have HN := Lib.hid hN
  clear hN
  go_loopw [5] (fun v wr => ∃ (k R C : Nat) (ad' : Option Addr), k ≤ nb ∧ Hid (R = 64 * (nb - k)) ∧ Hid (0 < R → ad' = some ⟨pm, 64 * k, none⟩ ∧ R ≤ C ∧ C ≤ maxLen) ∧ v = .slice ad' R C ∧ Hid (Own w wr [.sl 5 .u8 (some ⟨pm, 0, none⟩) N c M, .ints pk .u32 49 64 KK, .ints ph .u32 46 8 (hs32 M k), .ints po .u8 26 32 zs])) (fun v _ => lenOf v)
  case atStart => exact ⟨0, N, c, _, by omega, Lib.hid (by rw [HN.out]; rfl), Lib.hid (fun _ => ⟨rfl, hcap, hcm⟩), rfl, HK⟩
  case round =>
    obtain ⟨k, R, C, ad', hk, HR, HA, rfl, HK'⟩ := hrel
    clear HK
    have HK := HK'
    clear HK'
    by_cases hlt : k < nb
    · have hR : R = 64 * (nb - k) := HR.out
      obtain ⟨rfl, hRC, hCm⟩ := HA.out (by omega)
      have hR0 : (64 : Int) ≤ (R : Int) := by omega
      have hR1 : (R : Int) ≤ 200000 := by omega
      have hR2 : 64 ≤ R := by omega
      have hR3 : R ≤ 200000 := by omega
      have hRp : 0 < R := by omega
      have HRD := Lib.hid (show N - 64 * k = R by rw [HN.out, hR]; omega)
      have HRE := Lib.hid (show 64 * k ≤ N by rw [HN.out]; omega)
      clear hR HA hcap hcm
      obtain ⟨H, hH⟩ : ∃ H, H = hs32 M k := ⟨_, rfl⟩
      rw [← hH] at HK
      have HH8 := Lib.hid (show H.length = 8 by rw [hH]; exact length_hs32 M k)
      have HHO := Lib.hid (show okB 4294967296 H by rw [hH]; exact ok_hs32 M k)
      obtain ⟨ws, hws⟩ : ∃ ws, ws = wd32 (M.drop (64 * k)) := ⟨_, rfl⟩
      have HWL := Lib.hid (show ws.length = 64 by rw [hws]; exact length_wd32 _)
      have HNX := Lib.hid (show hs32 M (k + 1) = addH H (rn H ws 64) 8 by rw [hs32, comp32, hws, hH])
      have HWS := Lib.hid hws
      clear hws hH
      go_wp2_with fail
      refine (words256_any ⟨pm, 64 * k, none⟩ R C (M.drop (64 * k)) _ (HK.out.rdsl_from (.here _) (64 * k) R HRE.out HRD.out) ?_ hR2 (by omega)).mono ?_
      · exact ok_drop' HMO.out _
      rintro e w4 ⟨rfl, g4⟩
      have HK' := Lib.hid (HK.out.grow g4)
      clear HK g4
      have HK := HK'
      clear HK'
      rw [show wdB (wdA (M.drop (64 * k)) 16) 48 = ws from HWS.out.symm]
      go_wp2_with ((refine wpList_new_ints rfl HK.out _ rfl .u32 49 64 (zer 64) (length_zer _) (fun w => by go_simp; first | exact ⟨rfl, rfl⟩ | kernel_rfl) ?_))
      intro wn pw hkn
      have HKN := Lib.hid hkn
      clear hkn HK
      have HK := HKN
      clear HKN
      go_wp2_with (first | (refine wpList_put_row rfl HK.out 49 _ _ rfl _ _ ws rfl rfl _ _ _ (by first | exact Upd.here _ | exact Upd.next _ (Upd.here _) | exact Upd.next _ (Upd.next _ (Upd.here _)) | exact Upd.next _ (Upd.next _ (Upd.next _ (Upd.here _))) | exact Upd.next _ (Upd.next _ (Upd.next _ (Upd.next _ (Upd.here _)))) | exact Upd.next _ (Upd.next _ (Upd.next _ (Upd.next _ (Upd.next _ (Upd.here _))))) | exact Upd.next _ (Upd.next _ (Upd.next _ (Upd.next _ (Upd.next _ (Upd.next _ (Upd.here _)))))) | exact Upd.next _ (Upd.next _ (Upd.next _ (Upd.next _ (Upd.next _ (Upd.next _ (Upd.next _ (Upd.here _))))))) | exact Upd.next _ (Upd.next _ (Upd.next _ (Upd.next _ (Upd.next _ (Upd.next _ (Upd.next _ (Upd.next _ (Upd.here _)))))))) | exact Upd.next _ (Upd.next _ (Upd.next _ (Upd.next _ (Upd.next _ (Upd.next _ (Upd.next _ (Upd.next _ (Upd.next _ (Upd.here _)))))))))) (by exact HWL.out) (by kernel_rfl) ?_; (intro wn hkn; have HKN := Lib.hid hkn; clear hkn; clear HK; have HK := HKN; clear HKN)) | (refine wpList_get_row rfl HK.out 46 _ rfl _ rfl _ _ _ _ (by first | exact Has.here _ | exact Has.next _ (Has.here _) | exact Has.next _ (Has.next _ (Has.here _)) | exact Has.next _ (Has.next _ (Has.next _ (Has.here _))) | exact Has.next _ (Has.next _ (Has.next _ (Has.next _ (Has.here _)))) | exact Has.next _ (Has.next _ (Has.next _ (Has.next _ (Has.next _ (Has.here _))))) | exact Has.next _ (Has.next _ (Has.next _ (Has.next _ (Has.next _ (Has.next _ (Has.here _)))))) | exact Has.next _ (Has.next _ (Has.next _ (Has.next _ (Has.next _ (Has.next _ (Has.next _ (Has.here _))))))) | exact Has.next _ (Has.next _ (Has.next _ (Has.next _ (Has.next _ (Has.next _ (Has.next _ (Has.next _ (Has.here _)))))))) | exact Has.next _ (Has.next _ (Has.next _ (Has.next _ (Has.next _ (Has.next _ (Has.next _ (Has.next _ (Has.next _ (Has.here _)))))))))) _ Try.underlying46 rfl (by kernel_rfl) ?_) | (refine wpList_new_ints rfl HK.out _ rfl .u32 46 8 (zer 8) (length_zer _) (fun w => by go_simp; first | exact ⟨rfl, rfl⟩ | kernel_rfl) ?_))
      intro wn pv hkn
      have HKN := Lib.hid hkn
      clear hkn HK
      have HK := HKN
      clear HKN
      go_wp2_with (refine wpList_put_row rfl HK.out 46 _ _ rfl _ _ H rfl rfl _ _ _ (by first | exact Upd.here _ | exact Upd.next _ (Upd.here _) | exact Upd.next _ (Upd.next _ (Upd.here _)) | exact Upd.next _ (Upd.next _ (Upd.next _ (Upd.here _))) | exact Upd.next _ (Upd.next _ (Upd.next _ (Upd.next _ (Upd.here _)))) | exact Upd.next _ (Upd.next _ (Upd.next _ (Upd.next _ (Upd.next _ (Upd.here _))))) | exact Upd.next _ (Upd.next _ (Upd.next _ (Upd.next _ (Upd.next _ (Upd.next _ (Upd.here _)))))) | exact Upd.next _ (Upd.next _ (Upd.next _ (Upd.next _ (Upd.next _ (Upd.next _ (Upd.next _ (Upd.here _))))))) | exact Upd.next _ (Upd.next _ (Upd.next _ (Upd.next _ (Upd.next _ (Upd.next _ (Upd.next _ (Upd.next _ (Upd.here _)))))))) | exact Upd.next _ (Upd.next _ (Upd.next _ (Upd.next _ (Upd.next _ (Upd.next _ (Upd.next _ (Upd.next _ (Upd.next _ (Upd.here _)))))))))) (by exact HH8.out) (by kernel_rfl) ?_; (intro wn hkn; have HKN := Lib.hid hkn; clear hkn; clear HK; have HK := HKN; clear HKN))
      go_loopw [30] (fun v wr => ∃ (j : Nat), j ≤ 64 ∧ v = .int .i64 j ∧ Hid (Own w wr [.ints pv .u32 46 8 (rn H ws j), .ints pw .u32 49 64 ws, .sl 5 .u8 (some ⟨pm, 0, none⟩) N c M, .ints pk .u32 49 64 KK, .ints ph .u32 46 8 H, .ints po .u8 26 32 zs])) (fun v _ => 64 - (intOf v).toNat)
      case atStart => exact ⟨0, by omega, rfl, HK⟩
      case round =>
        obtain ⟨j, hj, rfl, HK'⟩ := hrel
        clear HK
        have HK := HK'
        clear HK'
        by_cases hlj : j < 64
        · obtain ⟨v, hv⟩ : ∃ v, v = rn H ws j := ⟨_, rfl⟩
          rw [← hv] at HK
          have HV := Lib.hid (show okB 4294967296 v by rw [hv]; exact ok_rn HHO.out ws j)
          have HNV := Lib.hid (show rn H ws (j + 1) = step32 v (KK.getD j 0) (ws.getD j 0) by rw [rn, hv, HKK.out])
          clear hv
          have hj0 : (0 : Int) ≤ j := by omega
          have hj64 : (j : Int) < 64 := by omega
          have e4 := ok_getD (by decide) HV.out 4
          have e0 := ok_getD (by decide) HV.out 0
          go_wp2_with fail
          refine wp_region_grow [(2, 0), (1, 1), (2, 2), (1, 3), (2, 4), (2, 5)] (by kernel_rfl) (by kernel_rfl) (fun _ _ _ _ _ h => h) (fun _ _ _ _ _ h => h) ?_
          refine gSeq_own HK.out fun wn hkn gn ein => ?_
          have HKN := Lib.hid hkn
          clear hkn HK
          have HK := HKN
          clear HKN
          clear gn ein
          (repeat (first | (refine gSeq_get_int rfl (by rfl) HK.out _ _ rfl _ _ rfl _ _ _ _ (by first | exact Has.here _ | exact Has.next _ (Has.here _) | exact Has.next _ (Has.next _ (Has.here _)) | exact Has.next _ (Has.next _ (Has.next _ (Has.here _))) | exact Has.next _ (Has.next _ (Has.next _ (Has.next _ (Has.here _)))) | exact Has.next _ (Has.next _ (Has.next _ (Has.next _ (Has.next _ (Has.here _))))) | exact Has.next _ (Has.next _ (Has.next _ (Has.next _ (Has.next _ (Has.next _ (Has.here _)))))) | exact Has.next _ (Has.next _ (Has.next _ (Has.next _ (Has.next _ (Has.next _ (Has.next _ (Has.here _))))))) | exact Has.next _ (Has.next _ (Has.next _ (Has.next _ (Has.next _ (Has.next _ (Has.next _ (Has.next _ (Has.here _)))))))) | exact Has.next _ (Has.next _ (Has.next _ (Has.next _ (Has.next _ (Has.next _ (Has.next _ (Has.next _ (Has.next _ (Has.here _)))))))))) rfl (by omega) ?_; (try simp only [Act.put, Act.eval, List.setIfInBounds_toArray, List.set_cons_zero, List.set_cons_succ, Array.getD_eq_getD_getElem?, List.getElem?_toArray, List.getElem?_cons_succ, List.getElem?_cons_zero, Option.getD_some])) | (refine gSeq_skip rfl (by rfl) ?_; (try simp only [Act.put, Act.eval, List.setIfInBounds_toArray, List.set_cons_zero, List.set_cons_succ, Array.getD_eq_getD_getElem?, List.getElem?_toArray, List.getElem?_cons_succ, List.getElem?_cons_zero, Option.getD_some])) | (refine gSeq_move _ rfl rfl (by rfl) ?_; (try simp only [Act.put, Act.eval, List.setIfInBounds_toArray, List.set_cons_zero, List.set_cons_succ, Array.getD_eq_getD_getElem?, List.getElem?_toArray, List.getElem?_cons_succ, List.getElem?_cons_zero, Option.getD_some])) | (refine gSeq_assign _ rfl rfl (by rfl) ?_; (try simp only [Act.put, Act.eval, List.setIfInBounds_toArray, List.set_cons_zero, List.set_cons_succ, Array.getD_eq_getD_getElem?, List.getElem?_toArray, List.getElem?_cons_succ, List.getElem?_cons_zero, Option.getD_some])) | (refine gSeq_pure rfl (by rfl) ?_ ?_ ?_; (rotate_left; (intro w'; (skip); go_simp; (first | done | with_reducible rfl)); (try simp only [Act.put, Act.eval, List.setIfInBounds_toArray, List.set_cons_zero, List.set_cons_succ, Array.getD_eq_getD_getElem?, List.getElem?_toArray, List.getElem?_cons_succ, List.getElem?_cons_zero, Option.getD_some]))) | (fail) | (refine gSeq_still rfl (by rfl) ?_ ?_ ?_; (rotate_left; (intro w' hG; (skip); go_simp; (first | done | with_reducible rfl)); (try simp only [Act.put, Act.eval, List.setIfInBounds_toArray, List.set_cons_zero, List.set_cons_succ, Array.getD_eq_getD_getElem?, List.getElem?_toArray, List.getElem?_cons_succ, List.getElem?_cons_zero, Option.getD_some])))))
          refine gSeq_nil ?_
          obtain ⟨x4, hx4⟩ : ∃ y, y = v.getD 4 0 := ⟨_, rfl⟩
          obtain ⟨x0, hx0⟩ : ∃ y, y = v.getD 0 0 := ⟨_, rfl⟩
          rw [← hx4] at e4 ⊢
          rw [← hx0] at e0 ⊢
          have HX4 := Lib.hid hx4
          have HX0 := Lib.hid hx0
          clear hx4 hx0
          obtain ⟨a4, b4⟩ := e4
          obtain ⟨a0, b0⟩ := e0
          go_wp2_with (first | ((go_at_call 28; with_reducible refine (rotl32_6 _ a4 b4 _).mono ?_); (rintro e w1 ⟨rfl, hww⟩; subst hww)) | ((go_at_call 28; with_reducible refine (rotl32_11 _ a4 b4 _).mono ?_); (rintro e w1 ⟨rfl, hww⟩; subst hww)) | ((go_at_call 28; with_reducible refine (rotl32_25 _ a4 b4 _).mono ?_); (rintro e w1 ⟨rfl, hww⟩; subst hww)))
          refine wp_region_grow [(2, 0), (1, 1), (2, 2), (2, 3), (2, 4), (2, 5), (1, 6), (2, 7), (2, 8), (2, 9), (2, 10), (1, 11), (2, 12), (2, 13), (2, 14), (2, 15), (2, 16), (1, 17), (2, 18), (2, 19), (2, 20), (1, 21), (2, 22), (2, 23)] (by kernel_rfl) (by kernel_rfl) (fun _ _ _ _ _ h => h) (fun _ _ _ _ _ h => h) ?_
          refine gSeq_own HK.out fun wn hkn gn ein => ?_
          have HKN := Lib.hid hkn
          clear hkn HK
          have HK := HKN
          clear HKN
          clear gn ein
          (repeat (first | (refine gSeq_get_int rfl (by rfl) HK.out _ _ rfl _ _ rfl _ _ _ _ (by first | exact Has.here _ | exact Has.next _ (Has.here _) | exact Has.next _ (Has.next _ (Has.here _)) | exact Has.next _ (Has.next _ (Has.next _ (Has.here _))) | exact Has.next _ (Has.next _ (Has.next _ (Has.next _ (Has.here _)))) | exact Has.next _ (Has.next _ (Has.next _ (Has.next _ (Has.next _ (Has.here _))))) | exact Has.next _ (Has.next _ (Has.next _ (Has.next _ (Has.next _ (Has.next _ (Has.here _)))))) | exact Has.next _ (Has.next _ (Has.next _ (Has.next _ (Has.next _ (Has.next _ (Has.next _ (Has.here _))))))) | exact Has.next _ (Has.next _ (Has.next _ (Has.next _ (Has.next _ (Has.next _ (Has.next _ (Has.next _ (Has.here _)))))))) | exact Has.next _ (Has.next _ (Has.next _ (Has.next _ (Has.next _ (Has.next _ (Has.next _ (Has.next _ (Has.next _ (Has.here _)))))))))) rfl (by omega) ?_; (try simp only [Act.put, Act.eval, List.setIfInBounds_toArray, List.set_cons_zero, List.set_cons_succ, Array.getD_eq_getD_getElem?, List.getElem?_toArray, List.getElem?_cons_succ, List.getElem?_cons_zero, Option.getD_some])) | (refine gSeq_skip rfl (by rfl) ?_; (try simp only [Act.put, Act.eval, List.setIfInBounds_toArray, List.set_cons_zero, List.set_cons_succ, Array.getD_eq_getD_getElem?, List.getElem?_toArray, List.getElem?_cons_succ, List.getElem?_cons_zero, Option.getD_some])) | (refine gSeq_move _ rfl rfl (by rfl) ?_; (try simp only [Act.put, Act.eval, List.setIfInBounds_toArray, List.set_cons_zero, List.set_cons_succ, Array.getD_eq_getD_getElem?, List.getElem?_toArray, List.getElem?_cons_succ, List.getElem?_cons_zero, Option.getD_some])) | (refine gSeq_assign _ rfl rfl (by rfl) ?_; (try simp only [Act.put, Act.eval, List.setIfInBounds_toArray, List.set_cons_zero, List.set_cons_succ, Array.getD_eq_getD_getElem?, List.getElem?_toArray, List.getElem?_cons_succ, List.getElem?_cons_zero, Option.getD_some])) | (refine gSeq_pure rfl (by rfl) ?_ ?_ ?_; (rotate_left; (intro w'; (skip); go_simp; (first | done | with_reducible rfl)); (try simp only [Act.put, Act.eval, List.setIfInBounds_toArray, List.set_cons_zero, List.set_cons_succ, Array.getD_eq_getD_getElem?, List.getElem?_toArray, List.getElem?_cons_succ, List.getElem?_cons_zero, Option.getD_some]))) | (fail) | (refine gSeq_still rfl (by rfl) ?_ ?_ ?_; (rotate_left; (intro w' hG; (skip); go_simp; (first | done | with_reducible rfl)); (try simp only [Act.put, Act.eval, List.setIfInBounds_toArray, List.set_cons_zero, List.set_cons_succ, Array.getD_eq_getD_getElem?, List.getElem?_toArray, List.getElem?_cons_succ, List.getElem?_cons_zero, Option.getD_some])))))
          refine gSeq_nil ?_
          generalize hT : IntKind.u32.wrap _ = t1
          generalize IntKind.u32.wrap _ = j1
          generalize IntKind.u32.wrap _ = j2
          generalize IntKind.u32.wrap _ = j3
          generalize bits BinOp.xor IntKind.u32 (bits BinOp.and IntKind.u32 x4 _) _ = j4
          generalize bits BinOp.and IntKind.u32 (bits BinOp.xor IntKind.u32 _ x4) _ = j5
          generalize bits BinOp.xor IntKind.u32 (if IntKind.u32.signed = true then -1 else IntKind.u32.max) x4 = j6
          have HT := Lib.hid hT
          clear hT
          go_wp2_with (first | ((go_at_call 28; with_reducible refine (rotl32_2 _ a0 b0 _).mono ?_); (rintro e w1 ⟨rfl, hww⟩; subst hww)) | ((go_at_call 28; with_reducible refine (rotl32_13 _ a0 b0 _).mono ?_); (rintro e w1 ⟨rfl, hww⟩; subst hww)) | ((go_at_call 28; with_reducible refine (rotl32_22 _ a0 b0 _).mono ?_); (rintro e w1 ⟨rfl, hww⟩; subst hww)) | (refine wpList_get_int rfl HK.out _ _ rfl _ _ rfl _ _ _ _ (by first | exact Has.here _ | exact Has.next _ (Has.here _) | exact Has.next _ (Has.next _ (Has.here _)) | exact Has.next _ (Has.next _ (Has.next _ (Has.here _))) | exact Has.next _ (Has.next _ (Has.next _ (Has.next _ (Has.here _)))) | exact Has.next _ (Has.next _ (Has.next _ (Has.next _ (Has.next _ (Has.here _))))) | exact Has.next _ (Has.next _ (Has.next _ (Has.next _ (Has.next _ (Has.next _ (Has.here _)))))) | exact Has.next _ (Has.next _ (Has.next _ (Has.next _ (Has.next _ (Has.next _ (Has.next _ (Has.here _))))))) | exact Has.next _ (Has.next _ (Has.next _ (Has.next _ (Has.next _ (Has.next _ (Has.next _ (Has.next _ (Has.here _)))))))) | exact Has.next _ (Has.next _ (Has.next _ (Has.next _ (Has.next _ (Has.next _ (Has.next _ (Has.next _ (Has.next _ (Has.here _)))))))))) rfl (by omega) ?_) | (refine wpList_put_row rfl HK.out 46 _ _ rfl _ _ [(t1 + tmp2 v x0) % 4294967296, v.getD 0 0, v.getD 1 0, v.getD 2 0, (v.getD 3 0 + t1) % 4294967296, v.getD 4 0, v.getD 5 0, v.getD 6 0] rfl rfl _ _ _ (by first | exact Upd.here _ | exact Upd.next _ (Upd.here _) | exact Upd.next _ (Upd.next _ (Upd.here _)) | exact Upd.next _ (Upd.next _ (Upd.next _ (Upd.here _))) | exact Upd.next _ (Upd.next _ (Upd.next _ (Upd.next _ (Upd.here _)))) | exact Upd.next _ (Upd.next _ (Upd.next _ (Upd.next _ (Upd.next _ (Upd.here _))))) | exact Upd.next _ (Upd.next _ (Upd.next _ (Upd.next _ (Upd.next _ (Upd.next _ (Upd.here _)))))) | exact Upd.next _ (Upd.next _ (Upd.next _ (Upd.next _ (Upd.next _ (Upd.next _ (Upd.next _ (Upd.here _))))))) | exact Upd.next _ (Upd.next _ (Upd.next _ (Upd.next _ (Upd.next _ (Upd.next _ (Upd.next _ (Upd.next _ (Upd.here _)))))))) | exact Upd.next _ (Upd.next _ (Upd.next _ (Upd.next _ (Upd.next _ (Upd.next _ (Upd.next _ (Upd.next _ (Upd.next _ (Upd.here _)))))))))) (by rfl) (by kernel_rfl) ?_; (intro wn hkn; have HKN := Lib.hid hkn; clear hkn; clear HK; have HK := HKN; clear HKN)))
          have ht1 : tmp1 v x4 (KK.getD j 0) (ws.getD j 0) = t1 := HT.out
          have hst : step32 v (KK.getD j 0) (ws.getD j 0) = [(t1 + tmp2 v x0) % 4294967296, v.getD 0 0, v.getD 1 0, v.getD 2 0, (v.getD 3 0 + t1) % 4294967296, v.getD 4 0, v.getD 5 0, v.getD 6 0] := by rw [step32, stepX, ← ht1, HX4.out, HX0.out]
          have HK' : Hid (Own w wn [.ints pv .u32 46 8 (rn H ws (j + 1)), .ints pw .u32 49 64 ws, .sl 5 .u8 (some ⟨pm, 0, none⟩) N c M, .ints pk .u32 49 64 KK, .ints ph .u32 46 8 H, .ints po .u8 26 32 zs]) := by rw [HNV.out, hst]; exact HK
          clear HK ht1 hst
          have HK := HK'
          clear HK'
          go_wp2_with fail
          exact ⟨⟨j + 1, by omega, by go_num, HK⟩, by simp [intOf]; omega⟩
        · have hj2 : j = 64 := by omega
          subst hj2
          clear hlj hj
          rw [show ((64 : Nat) : Int) = 64 from rfl]
          obtain ⟨V, hV⟩ : ∃ V, V = rn H ws 64 := ⟨_, rfl⟩
          rw [← hV] at HK
          have HNX' := Lib.hid (show hs32 M (k + 1) = addH H V 8 by rw [hV]; exact HNX.out)
          clear hV HNX
          go_wp2_with fail
          go_loopw [114] (fun v wr => ∃ (j : Nat), j ≤ 8 ∧ v = .int .i64 j ∧ Hid (Own w wr [.ints pv .u32 46 8 V, .ints pw .u32 49 64 ws, .sl 5 .u8 (some ⟨pm, 0, none⟩) N c M, .ints pk .u32 49 64 KK, .ints ph .u32 46 8 (addH H V j), .ints po .u8 26 32 zs])) (fun v _ => 8 - (intOf v).toNat)
          case atStart => exact ⟨0, by omega, rfl, HK⟩
          case round =>
            obtain ⟨j, hj, rfl, HK'⟩ := hrel
            clear HK
            have HK := HK'
            clear HK'
            by_cases hlj : j < 8
            · obtain ⟨A, hA⟩ : ∃ A, A = addH H V j := ⟨_, rfl⟩
              rw [← hA] at HK
              have HNA := Lib.hid (show addH H V (j + 1) = A.set j (w32 (A.getD j 0 + V.getD j 0)) by rw [addH, hA])
              clear hA
              have hj0 : (0 : Int) ≤ j := by omega
              have hj8 : (j : Int) < 8 := by omega
              go_wp2_with fail
              refine wp_region_grow [(2, 0), (2, 1), (1, 2), (2, 3), (2, 4), (1, 5), (2, 6), (2, 7), (3, 8)] (by kernel_rfl) (by kernel_rfl) (fun _ _ _ _ _ h => h) (fun _ _ _ _ _ h => h) ?_
              refine gSeq_own HK.out fun wn hkn gn ein => ?_
              have HKN := Lib.hid hkn
              clear hkn HK
              have HK := HKN
              clear HKN
              clear gn ein
              (repeat (first | (refine gSeq_get_int rfl (by rfl) HK.out _ _ rfl _ _ rfl _ _ _ _ (by first | exact Has.here _ | exact Has.next _ (Has.here _) | exact Has.next _ (Has.next _ (Has.here _)) | exact Has.next _ (Has.next _ (Has.next _ (Has.here _))) | exact Has.next _ (Has.next _ (Has.next _ (Has.next _ (Has.here _)))) | exact Has.next _ (Has.next _ (Has.next _ (Has.next _ (Has.next _ (Has.here _))))) | exact Has.next _ (Has.next _ (Has.next _ (Has.next _ (Has.next _ (Has.next _ (Has.here _)))))) | exact Has.next _ (Has.next _ (Has.next _ (Has.next _ (Has.next _ (Has.next _ (Has.next _ (Has.here _))))))) | exact Has.next _ (Has.next _ (Has.next _ (Has.next _ (Has.next _ (Has.next _ (Has.next _ (Has.next _ (Has.here _)))))))) | exact Has.next _ (Has.next _ (Has.next _ (Has.next _ (Has.next _ (Has.next _ (Has.next _ (Has.next _ (Has.next _ (Has.here _)))))))))) rfl (by omega) ?_; (try simp only [Act.put, Act.eval, List.setIfInBounds_toArray, List.set_cons_zero, List.set_cons_succ, Array.getD_eq_getD_getElem?, List.getElem?_toArray, List.getElem?_cons_succ, List.getElem?_cons_zero, Option.getD_some])) | (refine gSeq_skip rfl (by rfl) ?_; (try simp only [Act.put, Act.eval, List.setIfInBounds_toArray, List.set_cons_zero, List.set_cons_succ, Array.getD_eq_getD_getElem?, List.getElem?_toArray, List.getElem?_cons_succ, List.getElem?_cons_zero, Option.getD_some])) | (refine gSeq_move _ rfl rfl (by rfl) ?_; (try simp only [Act.put, Act.eval, List.setIfInBounds_toArray, List.set_cons_zero, List.set_cons_succ, Array.getD_eq_getD_getElem?, List.getElem?_toArray, List.getElem?_cons_succ, List.getElem?_cons_zero, Option.getD_some])) | (refine gSeq_assign _ rfl rfl (by rfl) ?_; (try simp only [Act.put, Act.eval, List.setIfInBounds_toArray, List.set_cons_zero, List.set_cons_succ, Array.getD_eq_getD_getElem?, List.getElem?_toArray, List.getElem?_cons_succ, List.getElem?_cons_zero, Option.getD_some])) | (refine gSeq_pure rfl (by rfl) ?_ ?_ ?_; (rotate_left; (intro w'; (skip); go_simp; (first | done | with_reducible rfl)); (try simp only [Act.put, Act.eval, List.setIfInBounds_toArray, List.set_cons_zero, List.set_cons_succ, Array.getD_eq_getD_getElem?, List.getElem?_toArray, List.getElem?_cons_succ, List.getElem?_cons_zero, Option.getD_some]))) | ((refine gSeq_put_int rfl (by rfl) HK.out _ _ _ rfl _ _ _ _ rfl rfl _ _ _ (by first | exact Upd.here _ | exact Upd.next _ (Upd.here _) | exact Upd.next _ (Upd.next _ (Upd.here _)) | exact Upd.next _ (Upd.next _ (Upd.next _ (Upd.here _))) | exact Upd.next _ (Upd.next _ (Upd.next _ (Upd.next _ (Upd.here _)))) | exact Upd.next _ (Upd.next _ (Upd.next _ (Upd.next _ (Upd.next _ (Upd.here _))))) | exact Upd.next _ (Upd.next _ (Upd.next _ (Upd.next _ (Upd.next _ (Upd.next _ (Upd.here _)))))) | exact Upd.next _ (Upd.next _ (Upd.next _ (Upd.next _ (Upd.next _ (Upd.next _ (Upd.next _ (Upd.here _))))))) | exact Upd.next _ (Upd.next _ (Upd.next _ (Upd.next _ (Upd.next _ (Upd.next _ (Upd.next _ (Upd.next _ (Upd.here _)))))))) | exact Upd.next _ (Upd.next _ (Upd.next _ (Upd.next _ (Upd.next _ (Upd.next _ (Upd.next _ (Upd.next _ (Upd.next _ (Upd.here _)))))))))) (by omega) (by kernel_rfl) ?_; (intro wn hkn; have HKN := Lib.hid hkn; clear hkn; clear HK; have HK := HKN; clear HKN); (try simp only [Act.put, Act.eval, List.setIfInBounds_toArray, List.set_cons_zero, List.set_cons_succ, Array.getD_eq_getD_getElem?, List.getElem?_toArray, List.getElem?_cons_succ, List.getElem?_cons_zero, Option.getD_some]))) | (refine gSeq_still rfl (by rfl) ?_ ?_ ?_; (rotate_left; (intro w' hG; (skip); go_simp; (first | done | with_reducible rfl)); (try simp only [Act.put, Act.eval, List.setIfInBounds_toArray, List.set_cons_zero, List.set_cons_succ, Array.getD_eq_getD_getElem?, List.getElem?_toArray, List.getElem?_cons_succ, List.getElem?_cons_zero, Option.getD_some])))))
              refine gSeq_nil ?_
              have HK' : Hid (Own w wn [.ints pv .u32 46 8 V, .ints pw .u32 49 64 ws, .sl 5 .u8 (some ⟨pm, 0, none⟩) N c M, .ints pk .u32 49 64 KK, .ints ph .u32 46 8 (addH H V (j + 1)), .ints po .u8 26 32 zs]) := by rw [HNA.out]; exact HK
              clear HK
              have HK := HK'
              clear HK'
              go_wp2_with fail
              exact ⟨⟨j + 1, by omega, by go_num, HK⟩, by simp [intOf]; omega⟩
            · have hj2 : j = 8 := by omega
              subst hj2
              clear hlj hj
              rw [show ((8 : Nat) : Int) = 8 from rfl]
              rw [← HNX'.out] at HK
              have hsub := (HK.out.sub (List.Sublist.cons _ (List.Sublist.cons _ (List.Sublist.refl _))))
              clear HK
              have HK := Lib.hid hsub
              clear hsub
              go_wp2_with (refine wpList_slice rfl 22 _ _ _ rfl _ rfl _ _ rfl rfl _ (run_sub_l Try.underlying22 (by kernel_rfl) 64 64 rfl hR2) ?_)
              have hR := HR.out
              exact ⟨⟨k + 1, R - 64, C - 64, _, by omega, Lib.hid (by rw [hR]; omega), Lib.hid (fun hp => ⟨by rw [subAt, if_neg (by omega)]; simp [Addr.add_mid], by omega, by omega⟩), rfl, HK⟩, by simp [lenOf]; omega⟩
    · have hkn : k = nb := by omega
      have hR0 : R = 0 := by rw [HR.out, hkn, Nat.sub_self, Nat.mul_zero]
      subst hR0
      rw [hkn] at HK
      obtain ⟨H, hH⟩ : ∃ H, H = hs32 M nb := ⟨_, rfl⟩
      rw [← hH] at HK
      have HH8 := Lib.hid (show H.length = 8 by rw [hH]; exact length_hs32 M nb)
      have HHO := Lib.hid (show okB 4294967296 H by rw [hH]; exact ok_hs32 M nb)
      have HS' := Lib.hid (show sum32 (catB L) = outA H 32 by rw [hH]; exact HS.out)
      clear hH hkn hlt hk HA HR HS
      go_wp2_with ((refine wpList_new_ints rfl HK.out _ rfl .u8 26 32 (zer 32) (length_zer _) (fun w => by go_simp; first | exact ⟨rfl, rfl⟩ | kernel_rfl) ?_))
      intro wn pr hkn
      have HKN := Lib.hid hkn
      clear hkn HK
      have HK := HKN
      clear HKN
      go_wp2_with fail
      go_loopw [126] (fun v wr => ∃ (j : Nat), j ≤ 32 ∧ v = .int .i64 j ∧ Hid (Own w wr [.ints pr .u8 26 32 (outA H j), .sl 5 .u8 (some ⟨pm, 0, none⟩) N c M, .ints pk .u32 49 64 KK, .ints ph .u32 46 8 H, .ints po .u8 26 32 zs])) (fun v _ => 32 - (intOf v).toNat)
      case atStart => exact ⟨0, by omega, rfl, HK⟩
      case round =>
        obtain ⟨j, hj, rfl, HK'⟩ := hrel
        clear HK
        have HK := HK'
        clear HK'
        by_cases hlj : j < 32
        · have hj0 : (0 : Int) ≤ j := by omega
          have hj32 : (j : Int) < 32 := by omega
          have hq0 : (0 : Int) ≤ (j : Int) / 4 := by omega
          have hq8 : (j : Int) / 4 < 8 := by omega
          have hq : ((j : Int) / 4).toNat = j / 4 := by omega
          have hs0 : 0 ≤ 24 - 8 * ((j : Int) % 4) := by omega
          have hq8' : j / 4 < 8 := by omega
          obtain ⟨A, hA⟩ : ∃ A, A = outA H j := ⟨_, rfl⟩
          rw [← hA] at HK
          have HNA := Lib.hid (show outA H (j + 1) = A.set j (H.getD (j / 4) 0 / 2 ^ (24 - 8 * (j % 4)) % 256) by rw [outA, hA])
          have hx := ok_getD (by decide) HHO.out (j / 4)
          clear hA
          go_wp2_with (first | (refine wpList_get_int rfl HK.out _ _ rfl _ _ rfl _ _ _ _ (by first | exact Has.here _ | exact Has.next _ (Has.here _) | exact Has.next _ (Has.next _ (Has.here _)) | exact Has.next _ (Has.next _ (Has.next _ (Has.here _))) | exact Has.next _ (Has.next _ (Has.next _ (Has.next _ (Has.here _)))) | exact Has.next _ (Has.next _ (Has.next _ (Has.next _ (Has.next _ (Has.here _))))) | exact Has.next _ (Has.next _ (Has.next _ (Has.next _ (Has.next _ (Has.next _ (Has.here _)))))) | exact Has.next _ (Has.next _ (Has.next _ (Has.next _ (Has.next _ (Has.next _ (Has.next _ (Has.here _))))))) | exact Has.next _ (Has.next _ (Has.next _ (Has.next _ (Has.next _ (Has.next _ (Has.next _ (Has.next _ (Has.here _)))))))) | exact Has.next _ (Has.next _ (Has.next _ (Has.next _ (Has.next _ (Has.next _ (Has.next _ (Has.next _ (Has.next _ (Has.here _)))))))))) rfl (by omega) ?_) | (refine wpList_put_int rfl HK.out _ _ _ rfl _ _ _ _ rfl rfl _ _ _ (by first | exact Upd.here _ | exact Upd.next _ (Upd.here _) | exact Upd.next _ (Upd.next _ (Upd.here _)) | exact Upd.next _ (Upd.next _ (Upd.next _ (Upd.here _))) | exact Upd.next _ (Upd.next _ (Upd.next _ (Upd.next _ (Upd.here _)))) | exact Upd.next _ (Upd.next _ (Upd.next _ (Upd.next _ (Upd.next _ (Upd.here _))))) | exact Upd.next _ (Upd.next _ (Upd.next _ (Upd.next _ (Upd.next _ (Upd.next _ (Upd.here _)))))) | exact Upd.next _ (Upd.next _ (Upd.next _ (Upd.next _ (Upd.next _ (Upd.next _ (Upd.next _ (Upd.here _))))))) | exact Upd.next _ (Upd.next _ (Upd.next _ (Upd.next _ (Upd.next _ (Upd.next _ (Upd.next _ (Upd.next _ (Upd.here _)))))))) | exact Upd.next _ (Upd.next _ (Upd.next _ (Upd.next _ (Upd.next _ (Upd.next _ (Upd.next _ (Upd.next _ (Upd.next _ (Upd.here _)))))))))) (by omega) (by kernel_rfl) ?_; (intro wn hkn; have HKN := Lib.hid hkn; clear hkn; clear HK; have HK := HKN; clear HKN)))
          have HK' : Hid (Own w wn [.ints pr .u8 26 32 (outA H (j + 1)), .sl 5 .u8 (some ⟨pm, 0, none⟩) N c M, .ints pk .u32 49 64 KK, .ints ph .u32 46 8 H, .ints po .u8 26 32 zs]) := by rw [HNA.out]; exact HK
          exact ⟨⟨j + 1, by omega, by go_num, HK'⟩, by simp [intOf]; omega⟩
        · have hj2 : j = 32 := by omega
          subst hj2
          clear hlj hj
          rw [show ((32 : Nat) : Int) = 32 from rfl]
          rw [← HS'.out] at HK
          have HL := Lib.hid (length_sum32 (catB L))
          go_wp2_with (first | (refine wpList_get_row rfl HK.out 26 _ rfl _ rfl _ _ _ _ (by first | exact Has.here _ | exact Has.next _ (Has.here _) | exact Has.next _ (Has.next _ (Has.here _)) | exact Has.next _ (Has.next _ (Has.next _ (Has.here _))) | exact Has.next _ (Has.next _ (Has.next _ (Has.next _ (Has.here _)))) | exact Has.next _ (Has.next _ (Has.next _ (Has.next _ (Has.next _ (Has.here _))))) | exact Has.next _ (Has.next _ (Has.next _ (Has.next _ (Has.next _ (Has.next _ (Has.here _)))))) | exact Has.next _ (Has.next _ (Has.next _ (Has.next _ (Has.next _ (Has.next _ (Has.next _ (Has.here _))))))) | exact Has.next _ (Has.next _ (Has.next _ (Has.next _ (Has.next _ (Has.next _ (Has.next _ (Has.next _ (Has.here _)))))))) | exact Has.next _ (Has.next _ (Has.next _ (Has.next _ (Has.next _ (Has.next _ (Has.next _ (Has.next _ (Has.next _ (Has.here _)))))))))) _ Try.underlying26 rfl (by kernel_rfl) ?_) | (refine wpList_put_row rfl HK.out 26 _ _ rfl _ _ (sum32 (catB L)) rfl rfl _ _ _ (by first | exact Upd.here _ | exact Upd.next _ (Upd.here _) | exact Upd.next _ (Upd.next _ (Upd.here _)) | exact Upd.next _ (Upd.next _ (Upd.next _ (Upd.here _))) | exact Upd.next _ (Upd.next _ (Upd.next _ (Upd.next _ (Upd.here _)))) | exact Upd.next _ (Upd.next _ (Upd.next _ (Upd.next _ (Upd.next _ (Upd.here _))))) | exact Upd.next _ (Upd.next _ (Upd.next _ (Upd.next _ (Upd.next _ (Upd.next _ (Upd.here _)))))) | exact Upd.next _ (Upd.next _ (Upd.next _ (Upd.next _ (Upd.next _ (Upd.next _ (Upd.next _ (Upd.here _))))))) | exact Upd.next _ (Upd.next _ (Upd.next _ (Upd.next _ (Upd.next _ (Upd.next _ (Upd.next _ (Upd.next _ (Upd.here _)))))))) | exact Upd.next _ (Upd.next _ (Upd.next _ (Upd.next _ (Upd.next _ (Upd.next _ (Upd.next _ (Upd.next _ (Upd.next _ (Upd.here _)))))))))) (by exact HL.out) (by kernel_rfl) ?_; (intro wn hkn; have HKN := Lib.hid hkn; clear hkn; clear HK; have HK := HKN; clear HKN)))
          exact bodyPost_ret (results_own rfl _ HK.out _ rfl (by first | exact Has.here _ | exact Has.next _ (Has.here _) | exact Has.next _ (Has.next _ (Has.here _)) | exact Has.next _ (Has.next _ (Has.next _ (Has.here _))) | exact Has.next _ (Has.next _ (Has.next _ (Has.next _ (Has.here _)))) | exact Has.next _ (Has.next _ (Has.next _ (Has.next _ (Has.next _ (Has.here _))))) | exact Has.next _ (Has.next _ (Has.next _ (Has.next _ (Has.next _ (Has.next _ (Has.here _)))))) | exact Has.next _ (Has.next _ (Has.next _ (Has.next _ (Has.next _ (Has.next _ (Has.next _ (Has.here _))))))) | exact Has.next _ (Has.next _ (Has.next _ (Has.next _ (Has.next _ (Has.next _ (Has.next _ (Has.next _ (Has.here _)))))))) | exact Has.next _ (Has.next _ (Has.next _ (Has.next _ (Has.next _ (Has.next _ (Has.next _ (Has.next _ (Has.next _ (Has.here _)))))))))) _ Try.underlying26 rfl (by kernel_rfl)) rfl ⟨rfl, HK.out.grown⟩
end Go.Proofs.Ytjogdbiaiflmpaa
