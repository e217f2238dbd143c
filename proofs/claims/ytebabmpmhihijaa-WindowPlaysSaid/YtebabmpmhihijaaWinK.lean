/- The known case of the window's statements: 5 is taken once, 6 may be taken. -/
import Derived.Test.YtebabmpmhihijaaWinW
namespace Go.Proofs.Ytebabmpmhihijaa
set_option linter.unusedVariables false
set_option linter.unusedSimpArgs false
open Go.RowKit Go.Proofs.YtebabmpmhihijaaL

theorem grown_sub {a b : World} {r : Option Nat} (h : a.grownBy b none) : a.grownBy b r :=
  ⟨h.os, h.tape, h.output, h.size, fun k hk _ => h.block k hk (by simp)⟩
/-- What an own new block's writes leave of the world before. -/
theorem grown_own {a b c : World} {k : Nat} (h : a.grownBy b none) (hk : a.heap.size ≤ k) (g : b.grownBy c (some k)) : a.grownBy c none :=
  ⟨g.os.trans h.os, g.tape.trans h.tape, g.output.trans h.output, Nat.le_trans h.size g.size, fun i hi hr => (g.block i (Nat.lt_of_lt_of_le hi h.size) (by intro e; cases e; omega)).trans (h.block i hi hr)⟩
theorem grown_drawn {a b c : World} {r : Option Nat} (h : a.grownBy b r) (d : Drawn b c) : a.grownBy c r := by
  obtain ⟨n, rfl⟩ := d; exact grown_trans h (grown_drewN _ _ _)
theorem win_drawn {b c : World} {k : Nat} {s : PW} (h : WinAt b k s) (d : Drawn b c) : WinAt c k s := by
  obtain ⟨n, rfl⟩ := d; exact h

def K1 : PW := PW.new.take 5

set_option maxHeartbeats 400000 in
theorem known_any (w : World) :
    Calls Try.prog 7 #[] w fun e w' => e = .returned (.bool true) ∧ w.grownBy w' none := by
  have m0 : PW.new.may 5 = true := by kernel_rfl
  have m1 : K1.may 5 = false := by kernel_rfl
  have m2 : K1.may 6 = true := by kernel_rfl
  have m3 : K1.top = 5 := by kernel_rfl
  have m4 : K1.any = true := by kernel_rfl
  go_enter Try.func7, Try.ntmps7
  go_wp2_with fail
  refine (new_any _).mono ?_
  rintro e w1 ⟨rfl, h1, g1, l1⟩
  have L1 := Lib.hid l1
  clear l1
  obtain ⟨b, hb⟩ : ∃ b, w.heap.size = b := ⟨_, rfl⟩
  have HB := Lib.hid hb
  rw [hb] at h1 ⊢
  clear hb
  have H1 := Lib.hid h1
  have G1 := Lib.hid g1
  clear h1 g1
  go_wp2_with fail
  refine (take_any b 5 PW.new _ (by decide) (by decide) (by decide) (by decide) H1.out).mono ?_
  rw [m0]
  rintro e w2 ⟨rfl, h2, g2⟩
  have h2 : WinAt w2 b K1 := h2
  have H2 := Lib.hid h2
  have G2 := Lib.hid g2
  clear h2 g2
  go_wp2_with fail
  refine (take_any b 5 K1 _ (by decide) (by decide) (by rw [m3]; decide) (by rw [m3]; decide) H2.out).mono ?_
  rw [m1]
  rintro e w3 ⟨rfl, h3, g3⟩
  have e3 : K1.take 5 = K1 := by rw [PW.take, m1]; rfl
  rw [e3] at h3
  clear e3
  have H3 := Lib.hid h3
  have G3 := Lib.hid g3
  clear h3 g3
  go_wp2_with fail
  refine (may_any b 6 K1 _ (by decide) (by decide) (by rw [m3]; decide) (by rw [m3]; decide) H3.out).mono ?_
  rw [m2]
  rintro e w4 ⟨rfl, rfl⟩
  go_wp2_with fail
  refine (top_any b K1 _ H3.out).mono ?_
  rw [m3, m4]
  rintro e w5 ⟨rfl, d5⟩
  have D5 := Lib.hid d5
  clear d5
  go_wp2_with fail
  go_ret
  exact ⟨rfl, grown_drawn (grown_own (grown_own G1.out (Nat.le_of_eq HB.out) G2.out) (Nat.le_of_eq HB.out) G3.out) D5.out⟩
end Go.Proofs.Ytebabmpmhihijaa
