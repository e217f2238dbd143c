/- WindowEdges: just how far below the greatest number one may be taken still. -/
import Derived.Test.YtebabmpmhihijaaWinP
namespace Go.Proofs.Ytebabmpmhihijaa
set_option linter.unusedVariables false
set_option linter.unusedSimpArgs false
open Go.RowKit Go.Proofs.YtebabmpmhihijaaL

theorem edge_facts (top d : Int) (h0 : 0 ≤ top) (hd : d ≤ top) (hd0 : (d == 0) = false) (hp : 0 ≤ d) :
    (PW.new.take top).top = top ∧ (PW.new.take top).may (top - d) = decide (d < 2048) ∧ ((PW.new.take top).take (top - d)).top = top ∧ ((PW.new.take top).take (top - d)).may (top - d) = false := by
  obtain ⟨i1, t1⟩ := take_inv inv_new top h0 rfl
  have t1 : (PW.new.take top).top = top := t1
  have hne : d ≠ 0 := by simpa using hd0
  have m1 := may_inv i1 (top - d) (by omega)
  have m1 : (PW.new.take top).may (top - d) = decide (d < 2048) := by
    rw [m1, t1, mayL]
    have e1 : ¬ top < top - d := by omega
    have e2 : top - (top - d) = d := by omega
    have e3 : top - d ≠ top := by omega
    simp [e1, e2, e3]
  refine ⟨t1, m1, ?_⟩
  by_cases h : d < 2048
  · obtain ⟨i2, t2⟩ := take_inv i1 (top - d) (by omega) (by rw [m1]; simpa using h)
    have ht : ((PW.new.take top).take (top - d)).top = top := by
      rw [t2, topL]
      have ha : (PW.new.take top).any = true := by rw [i1.any]; rfl
      rw [if_pos ⟨ha, by rw [t1]; omega⟩, t1]
    refine ⟨ht, ?_⟩
    rw [may_inv i2 (top - d) (by omega), ht, mayL]
    have e1 : ¬ top < top - d := by omega
    simp [e1]
  · have hf : (PW.new.take top).may (top - d) = false := by rw [m1]; simpa using h
    rw [take_no _ _ hf]
    exact ⟨t1, hf⟩

set_option maxHeartbeats 1000000 in
theorem edges_walk (top n : Int) (first : Bool) (ht0 : 0 ≤ top) (ht : top < 18446744073709551616) (hn0 : 0 ≤ n) (hn : n < 65536) (w : World) :
    Calls Try.prog 4 #[.int .u64 top, .int .u16 n, .bool first] w fun e w' => e = .returned (.bool true) ∧ w.grownBy w' none := by
  go_enter Try.func4, Try.ntmps4
  go_wp2_with fail
  refine (known_any _).mono ?_
  rintro e w1 ⟨rfl, g1⟩
  have G1 := Lib.hid g1
  clear g1
  go_wp2_with fail
  refine (new_any _).mono ?_
  rintro e w2 ⟨rfl, h2, g2, l2⟩
  have L2 := Lib.hid l2
  clear l2
  obtain ⟨b, hb⟩ : ∃ b, w1.heap.size = b := ⟨_, rfl⟩
  have HB := Lib.hid hb
  rw [hb] at h2 ⊢
  clear hb
  have H2 := Lib.hid h2
  have G2 := Lib.hid g2
  clear h2 g2
  go_wp2_with fail
  refine (take_any b top PW.new _ ht0 ht (by decide) (by decide) H2.out).mono ?_
  have m0 : PW.new.may top = true := rfl
  rw [m0]
  rintro e w3 ⟨rfl, h3, g3⟩
  have H3 := Lib.hid h3
  have G3 := Lib.hid g3
  clear h3 g3
  go_wp2_with fail
  all_goals try (go_ret; exact ⟨rfl, grown_trans G1.out (grown_own G2.out (Nat.le_of_eq HB.out) G3.out)⟩)
  · have hd1 : 2046 + n % 5 ≤ top := by assumption
    have hd2 : (2046 + n % 5 == 0) = false := (by assumption : 2046 + n % 5 ≤ top ∧ (2046 + n % 5 == 0) = false).2
    obtain ⟨f1, f2, f3, f4⟩ := edge_facts top _ ht0 hd1 hd2 (by omega)
    have F1 := Lib.hid f1
    have F3 := Lib.hid f3
    clear f1 f3
    refine (may_any b (top - (2046 + n % 5)) _ _ (by omega) (by omega) (by rw [F1.out]; exact ht0) (by rw [F1.out]; exact ht) H3.out).mono ?_
    rw [f2]
    rintro e w4 ⟨rfl, rfl⟩
    go_wp2_with fail
    refine (take_any b (top - (2046 + n % 5)) _ _ (by omega) (by omega) (by rw [F1.out]; exact ht0) (by rw [F1.out]; exact ht) H3.out).mono ?_
    rw [f2]
    rintro e w5 ⟨rfl, h5, g5⟩
    have H5 := Lib.hid h5
    have G5 := Lib.hid g5
    clear h5 g5
    go_wp2_with fail
    refine (take_any b (top - (2046 + n % 5)) _ _ (by omega) (by omega) (by rw [F3.out]; exact ht0) (by rw [F3.out]; exact ht) H5.out).mono ?_
    rw [f4]
    rintro e w6 ⟨rfl, h6, g6⟩
    have G6 := Lib.hid g6
    clear h6 g6
    go_wp2_with fail
    go_ret
    exact ⟨rfl, grown_trans G1.out (grown_own (grown_own (grown_own G2.out (Nat.le_of_eq HB.out) G3.out) (Nat.le_of_eq HB.out) G5.out) (Nat.le_of_eq HB.out) G6.out)⟩
  · have hd1 : n % 5000 ≤ top := by assumption
    have hd2 : (n % 5000 == 0) = false := (by assumption : n % 5000 ≤ top ∧ (n % 5000 == 0) = false).2
    obtain ⟨f1, f2, f3, f4⟩ := edge_facts top _ ht0 hd1 hd2 (by omega)
    have F1 := Lib.hid f1
    have F3 := Lib.hid f3
    clear f1 f3
    refine (may_any b (top - (n % 5000)) _ _ (by omega) (by omega) (by rw [F1.out]; exact ht0) (by rw [F1.out]; exact ht) H3.out).mono ?_
    rw [f2]
    rintro e w4 ⟨rfl, rfl⟩
    go_wp2_with fail
    refine (take_any b (top - (n % 5000)) _ _ (by omega) (by omega) (by rw [F1.out]; exact ht0) (by rw [F1.out]; exact ht) H3.out).mono ?_
    rw [f2]
    rintro e w5 ⟨rfl, h5, g5⟩
    have H5 := Lib.hid h5
    have G5 := Lib.hid g5
    clear h5 g5
    go_wp2_with fail
    refine (take_any b (top - (n % 5000)) _ _ (by omega) (by omega) (by rw [F3.out]; exact ht0) (by rw [F3.out]; exact ht) H5.out).mono ?_
    rw [f4]
    rintro e w6 ⟨rfl, h6, g6⟩
    have G6 := Lib.hid g6
    clear h6 g6
    go_wp2_with fail
    go_ret
    exact ⟨rfl, grown_trans G1.out (grown_own (grown_own (grown_own G2.out (Nat.le_of_eq HB.out) G3.out) (Nat.le_of_eq HB.out) G5.out) (Nat.le_of_eq HB.out) G6.out)⟩
theorem edges_row (top n : Int) (first : Bool) (w : World) (ht0 : 0 ≤ top) (ht : top < 18446744073709551616) (hn0 : 0 ≤ n) (hn : n < 65536) :
    Calls Try.prog 4 #[.int .u64 top, .int .u16 n, .bool first] w fun e w' => e = .returned (.bool true) ∧ w.grownBy w' none :=
  edges_walk top n first ht0 ht hn0 hn w

end Go.Proofs.Ytebabmpmhihijaa
