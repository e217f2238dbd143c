/- WindowAgain: two windows that take the same numbers, the one all of them twice, tell the same. -/
import Derived.Test.YtebabmpmhihijaaWinP
namespace Go.Proofs.Ytebabmpmhihijaa
set_option linter.unusedVariables false
set_option linter.unusedSimpArgs false
open Go.RowKit Go.Proofs.YtebabmpmhihijaaL

theorem win_other {w w' : World} {b b' : Nat} {s : PW} (h : WinAt w b s) (g : w.grownBy w' (some b')) (hne : b ≠ b') : WinAt w' b s := by
  unfold WinAt at *
  rw [g.block b (row_lt h) (by simpa using hne)]; exact h
theorem win_kept {w w' : World} {b : Nat} {s : PW} (h : WinAt w b s) (g : w.grownBy w' none) : WinAt w' b s := by
  unfold WinAt at *
  rw [g.block b (row_lt h) (by simp)]; exact h

theorem may_again {s : PW} {L : List Int} (h : Inv s L) (n : Int) (hn : 0 ≤ n) : (s.take n).may n = false ∧ (s.take n).any = true ∧ ∃ L', Inv (s.take n) L' := by
  cases hm : s.may n with
  | false =>
    rw [take_no _ _ hm]
    refine ⟨hm, ?_, L, h⟩
    rw [may_eq s h.ok] at hm
    cases ha : s.any with
    | true => rfl
    | false => rw [ha] at hm; simp at hm
  | true =>
    obtain ⟨i1, t1⟩ := take_inv h n hn hm
    have ha : (s.take n).any = true := by rw [i1.any]; rfl
    refine ⟨?_, ha, _, i1⟩
    rw [may_inv i1 n hn, mayL]
    have := i1.le n List.mem_cons_self
    have e : ¬ (s.take n).top < n := by omega
    simp [e]

set_option maxHeartbeats 1000000 in
theorem again_walk (a : Option Addr) (len cap : Nat) (z : List Int) (from_ : Int) (w : World) (hr : IsRow .u16 w a len cap z) (h0 : 0 ≤ from_) (h1 : from_ < 18446744073709551616) :
    Calls Try.prog 6 #[.slice a len cap, .int .u64 from_] w fun e w' => e = .returned (.bool true) ∧ w.grownBy w' none := by
  have HR := Lib.hid hr
  clear hr
  go_enter Try.func6, Try.ntmps6
  go_wp2_with fail
  refine (known_any _).mono ?_
  rintro e w1 ⟨rfl, g1⟩
  have G1 := Lib.hid g1
  clear g1
  by_cases hl : (len : Int) ≤ 60
  · go_wp2_with fail
    refine (new_any _).mono ?_
    rintro e w2 ⟨rfl, h2, g2, l2⟩
    clear l2
    obtain ⟨b, hb⟩ : ∃ b, w1.heap.size = b := ⟨_, rfl⟩
    have HB := Lib.hid hb
    rw [hb] at h2 ⊢
    clear hb
    have H2 := Lib.hid h2
    have G2 := Lib.hid g2
    clear h2 g2
    go_wp2_with fail
    refine (new_any _).mono ?_
    rintro e w3 ⟨rfl, h3, g3, l3⟩
    clear l3
    obtain ⟨c, hc⟩ : ∃ c, w2.heap.size = c := ⟨_, rfl⟩
    have HC := Lib.hid hc
    rw [hc] at h3 ⊢
    clear hc
    have H3 := Lib.hid h3
    have G3 := Lib.hid g3
    clear h3 g3
    go_wp2_with fail
    have HNE : Hid (b ≠ c) := by
      have := row_lt H2.out
      rw [← HC.out]; exact Nat.ne_of_lt this
    have HLB : Hid (w.heap.size ≤ b) := by rw [← HB.out]; exact G1.out.size
    have HLC : Hid (w.heap.size ≤ c) := by rw [← HC.out]; exact Nat.le_trans G1.out.size G2.out.size
    go_loopw [7] (fun v wr => ∃ k : Nat, k ≤ len ∧ v = .int .i64 k ∧ ∃ s L, Inv s L ∧ s.top < 18446744073709551616 ∧ WinAt wr b s ∧ WinAt wr c s ∧ w.grownBy wr none) (fun v _ => len - (intOf v).toNat)
    case atStart =>
      exact ⟨0, by omega, rfl, PW.new, [], inv_new, by decide, win_kept H2.out G3.out, H3.out, grown_trans G1.out (grown_trans G2.out G3.out)⟩
    case round =>
      obtain ⟨k, hk, rfl, s, L, hi, ht, hwb, hwc, hgr⟩ := hrel
      by_cases hlt : k < len
      · have HI := Lib.hid hi
        have HWB := Lib.hid hwb
        have HWC := Lib.hid hwc
        have HGR := Lib.hid hgr
        clear hi hwb hwc hgr
        obtain ⟨x, y, ha, -, hyw, hcell⟩ := isRow_at HR.out HGR.out k hlt
        obtain ⟨hy0, hy1⟩ := wf_u16_range hyw
        clear hyw
        subst ha
        go_wp2_with fail
        obtain ⟨n, hn⟩ : ∃ n, from_ / 16 + y = n := ⟨_, rfl⟩
        have hn0 : 0 ≤ n := by omega
        have hn1 : n < 18446744073709551616 := by omega
        rw [hn]
        clear hn
        have ht0 := HI.out.top0
        obtain ⟨f1, f2, L', f3⟩ := may_again HI.out n hn0
        have ht2 : (s.take n).top < 18446744073709551616 := by
          cases hm : s.may n with
          | false => rw [take_no _ _ hm]; exact ht
          | true => rw [(take_inv HI.out n hn0 hm).2, topL]; split <;> omega
        have ht3 := f3.top0
        have f4 := take_no _ _ f1
        have FI := Lib.hid f3
        have FT := Lib.hid f4
        clear f3 f4
        obtain ⟨s', hs'⟩ : ∃ s', s.take n = s' := ⟨_, rfl⟩
        rw [hs'] at f1 f2 ht2 ht3
        have HS := Lib.hid hs'
        clear hs'
        refine (take_any b n s _ hn0 hn1 ht0 ht HWB.out).mono ?_
        rintro e w4 ⟨rfl, h4, g4⟩
        rw [HS.out] at h4
        have H4 := Lib.hid h4
        have G4 := Lib.hid g4
        clear h4 g4
        go_wp2_with fail
        refine (take_any c n s _ hn0 hn1 ht0 ht (win_other HWC.out G4.out HNE.out.symm)).mono ?_
        rintro e w5 ⟨rfl, h5, g5⟩
        rw [HS.out] at h5
        have H5 := Lib.hid h5
        have G5 := Lib.hid g5
        clear h5 g5
        go_wp2_with fail
        refine (take_any c n s' _ hn0 hn1 ht3 ht2 H5.out).mono ?_
        rw [f1]
        rintro e w6 ⟨rfl, h6, g6⟩
        have e6 : s'.take n = s' := take_no _ _ f1
        rw [e6] at h6
        have H6 := Lib.hid h6
        have G6 := Lib.hid g6
        clear h6 g6 e6
        go_wp2_with fail
        refine (may_any c n s' _ hn0 hn1 ht3 ht2 H6.out).mono ?_
        rw [f1]
        rintro e w7 ⟨rfl, rfl⟩
        go_wp2_with fail
        refine (top_any b s' _ (win_other (win_other H4.out G5.out HNE.out) G6.out HNE.out)).mono ?_
        rw [f2]
        rintro e w8 ⟨rfl, d8⟩
        have D8 := Lib.hid d8
        clear d8
        go_wp2_with fail
        refine (top_any c s' _ (win_drawn H6.out D8.out)).mono ?_
        rw [f2]
        rintro e w9 ⟨rfl, d9⟩
        have D9 := Lib.hid d9
        clear d9
        go_wp2_with fail
        go_roundw
        case rel =>
          refine ⟨k + 1, by omega, by go_num, s', L', by rw [← HS.out]; exact FI.out, ht2, ?_, ?_, ?_⟩
          · exact win_drawn (win_drawn (win_other (win_other H4.out G5.out HNE.out) G6.out HNE.out) D8.out) D9.out
          · exact win_drawn (win_drawn H6.out D8.out) D9.out
          · exact grown_drawn (grown_drawn (grown_own (grown_own (grown_own HGR.out HLB.out G4.out) HLC.out G5.out) HLC.out G6.out) D8.out) D9.out
        case measure => simp [intOf]; omega
      · have : k = len := by omega
        subst this
        go_wp2_with fail
        go_ret
        exact ⟨rfl, hgr⟩
  · go_wp2_with fail
    go_ret
    exact ⟨rfl, G1.out⟩
end Go.Proofs.Ytebabmpmhihijaa
