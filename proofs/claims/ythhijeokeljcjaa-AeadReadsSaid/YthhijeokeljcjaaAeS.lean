/- Are bytes alike? hkdf.Same, walked. -/
import Derived.Test.YthhijeokeljcjaaCat
import Derived.OpenShut
import Derived.Laws.BitsAllLaws
import Derived.Test.YthhijeokeljcjaaOwn
import Derived.Test.YthhijeokeljcjaaNum
namespace Go.Proofs.Ythhijeokeljcjaa
set_option linter.unusedVariables false
set_option linter.unusedSimpArgs false
open Go.RowKit Go.Proofs.YthhijeokeljcjaaL

theorem or_zero8 {x y : Int} (hx0 : 0 ≤ x) (hx1 : x < 256) (hy0 : 0 ≤ y) (hy1 : y < 256) : bits .or .u8 x y = 0 ↔ x = 0 ∧ y = 0 := by
  rw [u8_or x y hx0 hx1 hy0 hy1, show (((x.toNat ||| y.toNat : Nat) : Int) = 0 ↔ (x.toNat ||| y.toNat) = 0) by omega, Nat.or_eq_zero_iff]
  omega
theorem nat_xor_zero (a b : Nat) : a ^^^ b = 0 ↔ a = b := by
  constructor
  · intro h
    refine Nat.eq_of_testBit_eq fun i => ?_
    have := congrArg (fun n => n.testBit i) h
    simp only [Nat.testBit_xor, Nat.zero_testBit] at this
    revert this
    cases a.testBit i <;> cases b.testBit i <;> simp
  · rintro rfl; exact Nat.xor_self a
theorem xor_zero8 {x y : Int} (hx0 : 0 ≤ x) (hx1 : x < 256) (hy0 : 0 ≤ y) (hy1 : y < 256) : bits .xor .u8 x y = 0 ↔ x = y := by
  rw [u8_xor x y hx0 hx1 hy0 hy1, show (((x.toNat ^^^ y.toNat : Nat) : Int) = 0 ↔ (x.toNat ^^^ y.toNat) = 0) by omega, nat_xor_zero]
  omega
def orX (xs ys : List Int) : Nat → Int
  | 0 => 0
  | j + 1 => bits .or .u8 (orX xs ys j) (bits .xor .u8 (xs.getD j 0) (ys.getD j 0))
theorem orX_range (xs ys : List Int) : ∀ j, 0 ≤ orX xs ys j ∧ orX xs ys j < 256
  | 0 => ⟨Int.le_refl _, (by decide : (0 : Int) < 256)⟩
  | j + 1 => wf_u8_range (wf_bits .or .u8 _ _)
theorem orX_zero {xs ys : List Int} (hx : okB 256 xs) (hy : okB 256 ys) : ∀ j, orX xs ys j = 0 ↔ ∀ i, i < j → xs.getD i 0 = ys.getD i 0
  | 0 => ⟨fun _ i hi => by omega, fun _ => rfl⟩
  | j + 1 => by
    have h1 := orX_range xs ys j
    have h2 : 0 ≤ bits .xor .u8 (xs.getD j 0) (ys.getD j 0) ∧ bits .xor .u8 (xs.getD j 0) (ys.getD j 0) < 256 := wf_u8_range (wf_bits .xor .u8 _ _)
    have h3 := ok_getD (B := 256) (by decide) hx j
    have h4 := ok_getD (B := 256) (by decide) hy j
    rw [orX, or_zero8 h1.1 h1.2 h2.1 h2.2, xor_zero8 h3.1 h3.2 h4.1 h4.2, orX_zero hx hy j]
    constructor
    · rintro ⟨a, b⟩ i hi
      by_cases e : i = j
      · rw [e]; exact b
      · exact a i (by omega)
    · intro h
      exact ⟨fun i hi => h i (by omega), h j (by omega)⟩
theorem orX_same {xs ys : List Int} (hx : okB 256 xs) (hy : okB 256 ys) (hl : xs.length = ys.length) : (orX xs ys xs.length == 0) = (xs == ys) := by
  rw [Bool.eq_iff_iff, beq_iff_eq, beq_iff_eq, orX_zero hx hy]
  constructor
  · intro h
    refine List.ext_getElem hl fun i h1 h2 => ?_
    have := h i h1
    rw [List.getD_eq_getElem?_getD, List.getD_eq_getElem?_getD, List.getElem?_eq_getElem h1, List.getElem?_eq_getElem h2] at this
    exact this
  · rintro rfl i _; rfl
theorem rdx_at {k : IntKind} {w : World} {x : Addr} {len : Nat} {xs : List Int} (h : Rd k w (some x) len xs) (i : Nat) (hi : i < len) : w.cell? (x.add i) = some (.int k (xs.getD i 0)) := by
  obtain ⟨y, hy, hc⟩ := h.2 i hi
  injection hy with hy
  rw [hy]; exact hc

set_option maxHeartbeats 4000000 in
set_option maxRecDepth 100000 in
theorem same_any (a1 : Option Addr) (l1 c1 : Nat) (xs : List Int) (a2 : Option Addr) (l2 c2 : Nat) (ys : List Int) (w : World) (h1 : Rd .u8 w a1 l1 xs) (h2 : Rd .u8 w a2 l2 ys) (o1 : okB 256 xs) (o2 : okB 256 ys) (hl1 : l1 ≤ 3000) (hl2 : l2 ≤ 3000) :
    Calls Try.prog 15 #[.slice a1 l1 c1, .slice a2 l2 c2] w fun e w' => e = .returned (.bool (xs == ys)) ∧ w.grownBy w' none := by
  have HX := Lib.hid h1
  have HY := Lib.hid h2
  have HOX := Lib.hid o1
  have HOY := Lib.hid o2
  clear h1 h2 o1 o2
  have hi1 : (l1 : Int) ≤ 3000 := by omega
  have hi2 : (l2 : Int) ≤ 3000 := by omega
  obtain ⟨r, hr⟩ : ∃ r, r = (xs == ys) := ⟨_, rfl⟩
  rw [← hr]
  have HRR := Lib.hid hr
  clear hr
  have HK := Lib.hid (own_start w)
  go_enter Try.func15, Try.ntmps15
  by_cases hl : l1 = l2
  · subst hl
    have hbb : ((l1 : Int) != (l1 : Int)) = false := by simp
    have HR := Lib.hid (show r = (orX xs ys l1 == 0) by
      rw [HRR.out]
      have := orX_same HOX.out HOY.out (HX.out.1.trans HY.out.1.symm)
      rw [HX.out.1] at this; exact this.symm)
    go_wp2_with fail
    clear hbb
    go_loopw [5, 14] (fun v i wr => ∃ (j : Nat), j ≤ l1 ∧ i = .int .i64 j ∧ v = .int .u8 (orX xs ys j) ∧ Hid (Own w wr [])) (fun _ v _ => l1 - (intOf v).toNat)
    case atStart => exact ⟨0, by omega, rfl, rfl, HK⟩
    case round =>
      obtain ⟨j, hj, rfl, rfl, HK'⟩ := hrel
      clear HK
      have HK := HK'
      clear HK'
      by_cases hlt : j < l1
      · obtain ⟨x, hx, -⟩ := HX.out.2 j hlt
        obtain ⟨y, hy, -⟩ := HY.out.2 j hlt
        subst hx hy
        have hj0 : (0 : Int) ≤ j := by omega
        have hj1 : (j : Int) < l1 := by omega
        obtain ⟨o, ho⟩ : ∃ o, o = orX xs ys j := ⟨_, rfl⟩
        have HNO := Lib.hid (show orX xs ys (j + 1) = bits .or .u8 o (bits .xor .u8 (xs.getD j 0) (ys.getD j 0)) by rw [orX, ho])
        rw [← ho]
        clear ho
        go_wp2_with fail
        refine wp_region_grow [(2, 0), (2, 1), (2, 2), (2, 3), (1, 4), (2, 5), (2, 6), (2, 7), (1, 8), (2, 9), (2, 10), (2, 11)] (by kernel_rfl) (by kernel_rfl) (fun _ _ _ _ _ h => h) (fun _ _ _ _ _ h => h) ?_
        refine gSeq_own HK.out fun wn hkn gn ein => ?_
        have HKN := Lib.hid hkn
        clear hkn HK
        have HK := HKN
        clear HKN
        clear gn ein
        have c0 := rdx_at (HX.out.kept HK.out.grown) j hlt
        have d0 := rdx_at (HY.out.kept HK.out.grown) j hlt
        (repeat (first | (refine gSeq_get_int rfl (by rfl) HK.out _ _ rfl _ _ rfl _ _ _ _ (by first | exact Has.here _ | exact Has.next _ (Has.here _) | exact Has.next _ (Has.next _ (Has.here _)) | exact Has.next _ (Has.next _ (Has.next _ (Has.here _))) | exact Has.next _ (Has.next _ (Has.next _ (Has.next _ (Has.here _)))) | exact Has.next _ (Has.next _ (Has.next _ (Has.next _ (Has.next _ (Has.here _))))) | exact Has.next _ (Has.next _ (Has.next _ (Has.next _ (Has.next _ (Has.next _ (Has.here _)))))) | exact Has.next _ (Has.next _ (Has.next _ (Has.next _ (Has.next _ (Has.next _ (Has.next _ (Has.here _))))))) | exact Has.next _ (Has.next _ (Has.next _ (Has.next _ (Has.next _ (Has.next _ (Has.next _ (Has.next _ (Has.here _)))))))) | exact Has.next _ (Has.next _ (Has.next _ (Has.next _ (Has.next _ (Has.next _ (Has.next _ (Has.next _ (Has.next _ (Has.here _)))))))))) rfl (by omega) ?_; (try simp only [Act.put, Act.eval, List.setIfInBounds_toArray, List.set_cons_zero, List.set_cons_succ, Array.getD_eq_getD_getElem?, List.getElem?_toArray, List.getElem?_cons_succ, List.getElem?_cons_zero, Option.getD_some])) | (refine gSeq_skip rfl (by rfl) ?_; (try simp only [Act.put, Act.eval, List.setIfInBounds_toArray, List.set_cons_zero, List.set_cons_succ, Array.getD_eq_getD_getElem?, List.getElem?_toArray, List.getElem?_cons_succ, List.getElem?_cons_zero, Option.getD_some])) | (refine gSeq_move _ rfl rfl (by rfl) ?_; (try simp only [Act.put, Act.eval, List.setIfInBounds_toArray, List.set_cons_zero, List.set_cons_succ, Array.getD_eq_getD_getElem?, List.getElem?_toArray, List.getElem?_cons_succ, List.getElem?_cons_zero, Option.getD_some])) | (refine gSeq_assign _ rfl rfl (by rfl) ?_; (try simp only [Act.put, Act.eval, List.setIfInBounds_toArray, List.set_cons_zero, List.set_cons_succ, Array.getD_eq_getD_getElem?, List.getElem?_toArray, List.getElem?_cons_succ, List.getElem?_cons_zero, Option.getD_some])) | (refine gSeq_pure rfl (by rfl) ?_ ?_ ?_; (rotate_left; (intro w'; (try (have e0 := hG.cell c0 (by simp); have f0 := hG.cell d0 (by simp))); go_simp; (first | done | with_reducible rfl)); (try simp only [Act.put, Act.eval, List.setIfInBounds_toArray, List.set_cons_zero, List.set_cons_succ, Array.getD_eq_getD_getElem?, List.getElem?_toArray, List.getElem?_cons_succ, List.getElem?_cons_zero, Option.getD_some]))) | (fail) | (refine gSeq_still rfl (by rfl) ?_ ?_ ?_; (rotate_left; (intro w' hG; (try (have e0 := hG.cell c0 (by simp); have f0 := hG.cell d0 (by simp))); go_simp; (first | done | with_reducible rfl)); (try simp only [Act.put, Act.eval, List.setIfInBounds_toArray, List.set_cons_zero, List.set_cons_succ, Array.getD_eq_getD_getElem?, List.getElem?_toArray, List.getElem?_cons_succ, List.getElem?_cons_zero, Option.getD_some])))))
        refine gSeq_nil ?_
        clear c0 d0
        go_wp2_with fail
        exact ⟨⟨j + 1, by omega, by go_num, by rw [HNO.out]; rfl, HK⟩, by simp [intOf]; omega⟩
      · have hj2 : j = l1 := by omega
        subst hj2
        clear hlt hj
        obtain ⟨o, ho⟩ : ∃ o, o = orX xs ys j := ⟨_, rfl⟩
        rw [← ho] at HR ⊢
        clear ho
        go_wp2_with fail
        exact bodyPost_ret (results_tmp rfl _ _ _) rfl ⟨by rw [HR.out]; rfl, HK.out.grown⟩
  · have hbb : ((l1 : Int) != (l2 : Int)) = true := bne_iff_ne.2 (by omega)
    have HR := Lib.hid (show r = false by
      rw [HRR.out, beq_eq_false_iff_ne]
      intro e
      exact hl (by rw [← HX.out.1, ← HY.out.1, e]))
    go_wp2_with fail
    exact bodyPost_ret (results_tmp rfl _ _ _) rfl ⟨by rw [HR.out]; rfl, HK.out.grown⟩
end Go.Proofs.Ythhijeokeljcjaa
