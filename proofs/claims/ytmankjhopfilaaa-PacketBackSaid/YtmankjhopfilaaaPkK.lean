/- Are bytes alike? slices.Equal, walked. -/
import Derived.Test.YtmankjhopfilaaaPkC
namespace Go.Proofs.Ytmankjhopfilaaa
set_option linter.unusedVariables false
set_option linter.unusedSimpArgs false
open Go.RowKit Go.Proofs.YtmankjhopfilaaaL

theorem take_eq_next {xs ys : List Int} {j : Nat} (h : xs.take j = ys.take j) (hx : j < xs.length) (hy : j < ys.length) (he : xs.getD j 0 = ys.getD j 0) : xs.take (j + 1) = ys.take (j + 1) := by
  rw [take_next xs j hx, take_next ys j hy, h, he]

set_option maxHeartbeats 4000000 in
set_option maxRecDepth 100000 in
theorem equal_any (a1 : Option Addr) (l1 c1 : Nat) (xs : List Int) (a2 : Option Addr) (l2 c2 : Nat) (ys : List Int) (w : World) (h1 : Rd .u8 w a1 l1 xs) (h2 : Rd .u8 w a2 l2 ys) (hl1 : l1 ≤ 3000) (hl2 : l2 ≤ 3000) :
    Calls Try.prog 40 #[.slice a1 l1 c1, .slice a2 l2 c2] w fun e w' => e = .returned (.bool (decide (xs = ys))) ∧ w.grownBy w' none := by
  have HX := Lib.hid h1
  have HY := Lib.hid h2
  clear h1 h2
  have hi1 : (l1 : Int) ≤ 3000 := by omega
  have hi2 : (l2 : Int) ≤ 3000 := by omega
  obtain ⟨r, hr⟩ : ∃ r, r = decide (xs = ys) := ⟨_, rfl⟩
  rw [← hr]
  have HRR := Lib.hid hr
  clear hr
  have HK := Lib.hid (own_start w)
  go_enter Try.func40, Try.ntmps40
  by_cases hl : l1 = l2
  · subst hl
    have hbb : ((l1 : Int) != (l1 : Int)) = false := by simp
    go_wp2_with fail
    clear hbb
    go_loopw [13] (fun i wr => ∃ (j : Nat), j ≤ l1 ∧ i = .int .i64 j ∧ Hid (xs.take j = ys.take j) ∧ Hid (Own w wr [])) (fun i _ => l1 - (intOf i).toNat)
    case atStart => exact ⟨0, by omega, rfl, Lib.hid rfl, HK⟩
    case round =>
      obtain ⟨j, hj, rfl, HT, HK'⟩ := hrel
      clear HK
      have HK := HK'
      clear HK'
      by_cases hlt : j < l1
      · obtain ⟨x, hx, -⟩ := HX.out.2 j hlt
        obtain ⟨y, hy, -⟩ := HY.out.2 j hlt
        subst hx hy
        have hj0 : (0 : Int) ≤ j := by omega
        have hj1 : (j : Int) < l1 := by omega
        go_wp2_with fail
        refine wp_region_grow [(2, 0), (2, 1), (2, 2), (1, 3), (2, 4), (2, 5), (2, 6), (1, 7), (2, 8)] (by kernel_rfl) (by kernel_rfl) (fun _ _ _ _ _ h => h) (fun _ _ _ _ _ h => h) ?_
        refine gSeq_own HK.out fun wn hkn gn ein => ?_
        have HKN := Lib.hid hkn
        clear hkn HK
        have HK := HKN
        clear HKN
        clear gn ein
        have c0 := rdx_at (HX.out.kept HK.out.grown) j hlt
        have d0 := rdx_at (HY.out.kept HK.out.grown) j hlt
        obtain ⟨X, hX⟩ : ∃ X, X = xs.getD j 0 := ⟨_, rfl⟩
        obtain ⟨Y, hY⟩ : ∃ Y, Y = ys.getD j 0 := ⟨_, rfl⟩
        have HXX := Lib.hid hX
        have HYY := Lib.hid hY
        rw [← hX] at c0
        rw [← hY] at d0
        clear hX hY
        (repeat (first | (refine gSeq_get_int rfl (by rfl) HK.out _ _ rfl _ _ rfl _ _ _ _ (by first | exact Has.here _ | exact Has.next _ (Has.here _) | exact Has.next _ (Has.next _ (Has.here _)) | exact Has.next _ (Has.next _ (Has.next _ (Has.here _))) | exact Has.next _ (Has.next _ (Has.next _ (Has.next _ (Has.here _)))) | exact Has.next _ (Has.next _ (Has.next _ (Has.next _ (Has.next _ (Has.here _))))) | exact Has.next _ (Has.next _ (Has.next _ (Has.next _ (Has.next _ (Has.next _ (Has.here _)))))) | exact Has.next _ (Has.next _ (Has.next _ (Has.next _ (Has.next _ (Has.next _ (Has.next _ (Has.here _))))))) | exact Has.next _ (Has.next _ (Has.next _ (Has.next _ (Has.next _ (Has.next _ (Has.next _ (Has.next _ (Has.here _)))))))) | exact Has.next _ (Has.next _ (Has.next _ (Has.next _ (Has.next _ (Has.next _ (Has.next _ (Has.next _ (Has.next _ (Has.here _)))))))))) rfl (by omega) ?_; (try simp only [Act.put, Act.eval, List.setIfInBounds_toArray, List.set_cons_zero, List.set_cons_succ, Array.getD_eq_getD_getElem?, List.getElem?_toArray, List.getElem?_cons_succ, List.getElem?_cons_zero, Option.getD_some])) | (refine gSeq_skip rfl (by rfl) ?_; (try simp only [Act.put, Act.eval, List.setIfInBounds_toArray, List.set_cons_zero, List.set_cons_succ, Array.getD_eq_getD_getElem?, List.getElem?_toArray, List.getElem?_cons_succ, List.getElem?_cons_zero, Option.getD_some])) | (refine gSeq_move _ rfl rfl (by rfl) ?_; (try simp only [Act.put, Act.eval, List.setIfInBounds_toArray, List.set_cons_zero, List.set_cons_succ, Array.getD_eq_getD_getElem?, List.getElem?_toArray, List.getElem?_cons_succ, List.getElem?_cons_zero, Option.getD_some])) | (refine gSeq_assign _ rfl rfl (by rfl) ?_; (try simp only [Act.put, Act.eval, List.setIfInBounds_toArray, List.set_cons_zero, List.set_cons_succ, Array.getD_eq_getD_getElem?, List.getElem?_toArray, List.getElem?_cons_succ, List.getElem?_cons_zero, Option.getD_some])) | (refine gSeq_pure rfl (by rfl) ?_ ?_ ?_; (rotate_left; (intro w'; (try (have e0 := hG.cell c0 (by simp); have f0 := hG.cell d0 (by simp))); go_simp; (first | done | with_reducible rfl)); (try simp only [Act.put, Act.eval, List.setIfInBounds_toArray, List.set_cons_zero, List.set_cons_succ, Array.getD_eq_getD_getElem?, List.getElem?_toArray, List.getElem?_cons_succ, List.getElem?_cons_zero, Option.getD_some]))) | (fail) | (refine gSeq_still rfl (by rfl) ?_ ?_ ?_; (rotate_left; (intro w' hG; (try (have e0 := hG.cell c0 (by simp); have f0 := hG.cell d0 (by simp))); go_simp; (first | done | with_reducible rfl)); (try simp only [Act.put, Act.eval, List.setIfInBounds_toArray, List.set_cons_zero, List.set_cons_succ, Array.getD_eq_getD_getElem?, List.getElem?_toArray, List.getElem?_cons_succ, List.getElem?_cons_zero, Option.getD_some])))))
        refine gSeq_nil ?_
        clear c0 d0
        by_cases he : X = Y
        · have HTN := Lib.hid (take_eq_next HT.out (by rw [HX.out.1]; exact hlt) (by rw [HY.out.1]; exact hlt) (by rw [← HXX.out, ← HYY.out, he]))
          have hne : (X != Y) = false := by simp [he]
          clear he
          go_wp2_with fail
          exact ⟨⟨j + 1, by omega, by go_num, HTN, HK⟩, by simp [intOf]; omega⟩
        · have hne : (X != Y) = true := by simp [he]
          have HR := Lib.hid (show r = false by
            rw [HRR.out, decide_eq_false_iff_not]
            rintro rfl
            exact he (by rw [HXX.out, HYY.out]))
          clear he
          go_wp2_with fail
          exact bodyPost_ret (results_tmp rfl _ _ _) rfl ⟨by rw [HR.out]; rfl, HK.out.grown⟩
      · have hj2 : j = l1 := by omega
        subst hj2
        clear hlt hj
        have HR := Lib.hid (show r = true by
          rw [HRR.out, decide_eq_true_iff]
          have := HT.out
          rwa [List.take_of_length_le (Nat.le_of_eq HX.out.1), List.take_of_length_le (Nat.le_of_eq HY.out.1)] at this)
        go_wp2_with fail
        exact bodyPost_ret (results_tmp rfl _ _ _) rfl ⟨by rw [HR.out]; rfl, HK.out.grown⟩
  · have hbb : ((l1 : Int) != (l2 : Int)) = true := bne_iff_ne.2 (by omega)
    have HR := Lib.hid (show r = false by
      rw [HRR.out, decide_eq_false_iff_not]
      intro e
      exact hl (by rw [← HX.out.1, ← HY.out.1, e]))
    go_wp2_with fail
    exact bodyPost_ret (results_tmp rfl _ _ _) rfl ⟨by rw [HR.out]; rfl, HK.out.grown⟩
end Go.Proofs.Ytmankjhopfilaaa
