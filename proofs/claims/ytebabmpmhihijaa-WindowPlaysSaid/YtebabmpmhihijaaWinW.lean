/- The window's calls, walked: what New, at, May, rise, Take, Top do to a window's block. -/
import Derived.Test.YtebabmpmhihijaaRows
import Derived.Test.YtebabmpmhihijaaLib
namespace Go.Proofs.Ytebabmpmhihijaa
set_option linter.unusedVariables false
set_option linter.unusedSimpArgs false
open Go.RowKit Go.Proofs.YtebabmpmhihijaaL

/-- A window's numbers. -/
structure PW where
  f : Nat → Int
  top : Int
  any : Bool

def winCells (s : PW) : Array Value := (((List.range 32).map fun i => Value.int .u64 (s.f i)) ++ [Value.int .u64 s.top, Value.bool s.any]).toArray

def WinAt (w : World) (b : Nat) (s : PW) : Prop := w.heap[b]? = some (.cells (winCells s) 42 (0, 0))

def PW.new : PW := ⟨fun _ => 0, 0, false⟩
def wbit (n : Int) : Int := IntKind.u64.wrap (2 ^ (n % 64).toNat)
def PW.may (s : PW) (n : Int) : Bool := if s.any = true then (if s.top < n then true else if 2048 ≤ s.top - n then false else (bits .and .u64 (s.f (n % 2048 / 64).toNat) (wbit n) == 0)) else true

theorem win_bits {w : World} {b : Nat} {s : PW} (h : WinAt w b s) (i : Nat) (hi : i < 32) : w.cell? ⟨b, i, none⟩ = some (.int .u64 (s.f i)) :=
  row_cell h i _ (by simp [winCells, List.getElem?_append, hi])
theorem win_top {w : World} {b : Nat} {s : PW} (h : WinAt w b s) : w.cell? ⟨b, 32, none⟩ = some (.int .u64 s.top) :=
  row_cell h _ _ (by simp [winCells])
theorem win_any {w : World} {b : Nat} {s : PW} (h : WinAt w b s) : w.cell? ⟨b, 33, none⟩ = some (.bool s.any) :=
  row_cell h _ _ (by simp [winCells])

set_option maxHeartbeats 400000 in
theorem at_any (n : Int) (h0 : 0 ≤ n) (w : World) :
    Calls Try.prog 15 #[.int .u64 n] w fun e w' => e = .returned (.tuple #[.int .i64 (n % 2048 / 64), .int .u64 (wbit n)]) ∧ w = w' := by
  go_enter Try.func15, Try.ntmps15
  go_wp2
  go_ret2
  exact ⟨rfl, rfl⟩

set_option maxHeartbeats 400000 in
theorem may_any (b : Nat) (n : Int) (s : PW) (w : World) (h0 : 0 ≤ n) (hn : n < 18446744073709551616) (ht0 : 0 ≤ s.top) (ht : s.top < 18446744073709551616) (hb : WinAt w b s) :
    Calls Try.prog 9 #[.pointer (some ⟨b, 0, none⟩), .int .u64 n] w fun e w' => e = .returned (.bool (s.may n)) ∧ w = w' := by
  have c32 := win_top hb
  have c33 := win_any hb
  have hi : (n % 2048 / 64).toNat < 32 := by omega
  have ci := win_bits hb _ hi
  have HB := Lib.hid hb; clear hb
  obtain ⟨r, HM⟩ : ∃ r, Hid (s.may n = r) := ⟨_, rfl⟩
  rw [HM.out]
  go_enter Try.func9, Try.ntmps9
  go_wp2_with (go_at_call 15; refine (at_any _ (by omega) _).mono ?_; rintro e w' ⟨rfl, rfl⟩)
  all_goals
    go_ret
    refine ⟨ret_bool ?_, rfl⟩
    rw [← HM.out, PW.may]
    first | rw [if_pos (by assumption), if_pos (by assumption)] | rw [if_pos (by assumption), if_neg (by omega), if_pos (by assumption)] | rw [if_pos (by assumption), if_neg (by omega), if_neg (by omega)] | rw [if_neg (by assumption)]

def PW.clear (s : PW) (k : Int) : PW := { s with f := fun i => if i = (k % 2048 / 64).toNat then bits .andNot .u64 (s.f i) (wbit k) else s.f i }

def zero32 : List Value := List.replicate 32 (.int .u64 0)
theorem put_zero (s : PW) : putAt (winCells s) 0 zero32 = winCells ⟨fun _ => 0, s.top, s.any⟩ := by
  have h := putAt_mid zero32 [] ((List.range 32).map fun i => Value.int .u64 (s.f i)) [Value.int .u64 s.top, Value.bool s.any] (by simp [zero32])
  simp only [List.nil_append, List.length_nil] at h
  unfold winCells
  rw [h]
  simp [zero32, List.replicate, List.range, List.range.loop]

theorem win_set_top {w : World} {b : Nat} {s : PW} (h : WinAt w b s) (n : Int) : WinAt (w.setCell ⟨b, 32, none⟩ (.int .u64 n)) b { s with top := n } := by
  have := row_set h 32 (.int .u64 n)
  unfold WinAt; rw [this]
  simp [winCells]
theorem win_set_any {w : World} {b : Nat} {s : PW} (h : WinAt w b s) (x : Bool) : WinAt (w.setCell ⟨b, 33, none⟩ (.bool x)) b { s with any := x } := by
  have := row_set h 33 (.bool x)
  unfold WinAt; rw [this]
  simp [winCells]
theorem win_set_bit {w : World} {b : Nat} {s : PW} (h : WinAt w b s) (i : Nat) (hi : i < 32) (v : Int) :
    WinAt (w.setCell ⟨b, i, none⟩ (.int .u64 v)) b { s with f := fun j => if j = i then v else s.f j } := by
  have := row_set h i (.int .u64 v)
  unfold WinAt; rw [this]
  congr 2
  simp only [winCells, List.setIfInBounds_toArray]
  rw [List.set_append_left _ _ (by simpa using hi)]
  congr 2
  apply List.ext_getElem?
  intro j
  simp only [List.getElem?_set, List.length_map, List.length_range, List.getElem?_map]
  by_cases hj : i = j
  · subst hj; simp [hi]
  · simp only [hj, if_false]
    rcases Nat.lt_or_ge j 32 with h' | h'
    · simp [h', Ne.symm hj]
    · simp [h']

theorem rise_end (w w1 : World) (b : Nat) (n : Int) (s : PW) (hg : w.grownBy w1 (some b)) (h : WinAt w1 b s) (r : Ending) (hr : r = .returned (.tuple #[])) :
    r = .returned (.tuple #[]) ∧ WinAt ((w1.setCell ⟨b, 32, none⟩ (.int .u64 n)).setCell ⟨b, 33, none⟩ (.bool true)) b ⟨s.f, n, true⟩ ∧
      w.grownBy ((w1.setCell ⟨b, 32, none⟩ (.int .u64 n)).setCell ⟨b, 33, none⟩ (.bool true)) (some b) :=
  ⟨hr, win_set_any (win_set_top h n) true, grown_trans hg (grown_trans (grown_setCell _ _ _ _) (grown_setCell _ _ _ _))⟩

set_option maxHeartbeats 400000 in
set_option maxRecDepth 100000 in
theorem rise_zero (b : Nat) (n : Int) (s : PW) (w : World) (h0 : 0 ≤ n) (hn : n < 18446744073709551616) (ht0 : 0 ≤ s.top) (ht : s.top < 18446744073709551616) (hb : WinAt w b s)
    (hz : s.any = false ∨ (s.any = true ∧ s.top < n ∧ 2048 ≤ n - s.top)) :
    Calls Try.prog 16 #[.pointer (some ⟨b, 0, none⟩), .int .u64 n] w fun e w' => e = .returned (.tuple #[]) ∧ WinAt w' b ⟨fun _ => 0, n, true⟩ ∧ w.grownBy w' (some b) := by
  have c32 := win_top hb
  have c33 := win_any hb
  have HB := Lib.hid hb; clear hb
  rcases hz with hz | ⟨hz, hlt, hge⟩
  all_goals
    rw [hz] at c33; clear hz
    go_enter Try.func16, Try.ntmps16
    go_wp2_with (refine wpList_store_range rfl 40 (.tmp 24) (.tmp 22) rfl b 0 zero32.toArray rfl rfl _ _ HB.out (by simp [zero32, winCells]) (by kernel_rfl) (by kernel_rfl) ?_)
    clear c32 c33
    intro w1 hr1 hg1
    have hb1 : WinAt w1 b ⟨fun _ => 0, s.top, s.any⟩ := by unfold WinAt; rw [← put_zero]; exact hr1
    clear hr1
    have c32 := win_top hb1
    have c33 := win_any hb1
    have hfr := row_free hb1
    have HB1 := Lib.hid hb1; clear hb1
    have HG1 := Lib.hid hg1; clear hg1
    go_wp2
    go_end0
    exact rise_end w w1 b n _ HG1.out HB1.out _ rfl

def PW.set (s : PW) (n : Int) : PW := { s with f := fun i => if i = (n % 2048 / 64).toNat then bits .or .u64 (s.f i) (wbit n) else s.f i }
theorem win_or {w : World} {b : Nat} {s : PW} (h : WinAt w b s) (n : Int) (hi : (n % 2048 / 64).toNat < 32) :
    WinAt (w.setCell ⟨b, (n % 2048 / 64).toNat, none⟩ (.int .u64 (bits .or .u64 (s.f (n % 2048 / 64).toNat) (wbit n)))).drew b (s.set n) := by
  have := win_set_bit h _ hi (bits .or .u64 (s.f (n % 2048 / 64).toNat) (wbit n))
  have e : s.set n = { s with f := fun j => if j = (n % 2048 / 64).toNat then bits .or .u64 (s.f (n % 2048 / 64).toNat) (wbit n) else s.f j } := by
    rw [PW.set]
    congr 1
    funext j
    by_cases hj : j = (n % 2048 / 64).toNat
    · rw [if_pos hj, if_pos hj, hj]
    · rw [if_neg hj, if_neg hj]
  rw [e]
  exact this

/-- The numbers from k on, d of them, forgotten. -/
def PW.clears (s : PW) (k : Int) : Nat → PW
  | 0 => s
  | d + 1 => (s.clears k d).clear (k + d)
theorem clears_top (s : PW) (k : Int) (d : Nat) : (s.clears k d).top = s.top := by
  induction d with
  | zero => rfl
  | succ d ih => exact ih

set_option maxHeartbeats 400000 in
set_option maxRecDepth 100000 in
theorem rise_on (b : Nat) (n : Int) (s : PW) (w : World) (h0 : 0 ≤ n) (hn : n < 18446744073709551616) (ht0 : 0 ≤ s.top) (ht : s.top < 18446744073709551616) (hb : WinAt w b s)
    (hz : s.any = true) (hlt : s.top < n) (hge : n - s.top < 2048) :
    Calls Try.prog 16 #[.pointer (some ⟨b, 0, none⟩), .int .u64 n] w fun e w' => e = .returned (.tuple #[]) ∧ WinAt w' b ⟨(s.clears (s.top + 1) (n - s.top - 1).toNat).f, n, true⟩ ∧ w.grownBy w' (some b) := by
  have c32 := win_top hb
  have c33 := win_any hb
  have HB := Lib.hid hb; clear hb
  rw [hz] at c33; clear hz
  obtain ⟨tp, htp⟩ : ∃ tp, tp = s.top := ⟨_, rfl⟩
  rw [← htp] at c32 hlt hge ht0 ht ⊢
  obtain ⟨sf, hsf⟩ : ∃ sf, sf = s.clears (tp + 1) (n - tp - 1).toNat := ⟨_, rfl⟩
  rw [← hsf]
  have HS := Lib.hid hsf; clear hsf
  have HT := Lib.hid htp; clear htp
  go_enter Try.func16, Try.ntmps16
  go_wp2_with fail
  go_loopw [4] (fun v wr => ∃ d : Nat, tp + 1 + d ≤ n ∧ v = .int .u64 (tp + 1 + d) ∧ WinAt wr b (s.clears (tp + 1) d) ∧ w.grownBy wr (some b)) (fun v _ => (n - intOf v).toNat)
  case atStart => exact ⟨0, by omega, by simp, HB.out, grown_refl _ _⟩
  case round =>
    obtain ⟨d, hd, rfl, hbr, hgr⟩ := hrel
    clear c32 c33
    by_cases hne : tp + 1 + (d : Int) = n
    · have hd2 : (n - tp - 1).toNat = d := by omega
      have hbf : WinAt wr b sf := by rw [HS.out, hd2]; exact hbr
      rw [hne]
      clear hd2 hne
      have HBR := Lib.hid hbf
      have HGR := Lib.hid hgr
      have c32 := win_top hbr
      have c33 := win_any hbr
      have hfr := row_free hbr
      clear hbr hgr hbf
      go_wp2
      go_end0
      exact rise_end w wr b n _ HGR.out HBR.out _ rfl
    · have hlt2 : tp + 1 + (d : Int) < n := by omega
      obtain ⟨k, hk⟩ : ∃ k : Int, k = tp + 1 + d := ⟨_, rfl⟩
      have hk0 : 0 ≤ k := by omega
      rw [← hk] at hlt2 hne hd ⊢
      have HK := Lib.hid hk; clear hk
      have hi1 : 0 ≤ k % 2048 / 64 := by omega
      have hi2 : k % 2048 / 64 < 32 := by omega
      have hi : (k % 2048 / 64).toNat < 32 := by omega
      have ci := win_bits hbr _ hi
      have hfr := row_free hbr
      have HBR := Lib.hid hbr; clear hbr
      have HGR := Lib.hid hgr; clear hgr
      go_wp2_with (first | (go_at_call 15; refine (at_any _ (by omega) _).mono ?_; rintro e w' ⟨rfl, rfl⟩) | go_still_tail 10, (by kernel_rfl))
      go_roundw
      case rel =>
        have hk := HK.out
        refine ⟨d + 1, by omega, ?_, ?_, ?_⟩
        · rw [HK.out]; congr 1; omega
        · have := win_set_bit HBR.out _ hi (bits .andNot .u64 ((s.clears (tp + 1) d).f (k % 2048 / 64).toNat) (wbit k))
          have e : s.clears (tp + 1) (d + 1) = { s.clears (tp + 1) d with f := fun j => if j = (k % 2048 / 64).toNat then bits .andNot .u64 ((s.clears (tp + 1) d).f (k % 2048 / 64).toNat) (wbit k) else (s.clears (tp + 1) d).f j } := by
            rw [PW.clears, PW.clear, ← HK.out]
            congr 1
            funext j
            by_cases hj : j = (k % 2048 / 64).toNat
            · rw [if_pos hj, if_pos hj, hj]
            · rw [if_neg hj, if_neg hj]
          rw [e]
          exact this
        · exact grown_trans HGR.out (grown_trans (grown_setCell _ _ _ _) (grown_drew _ _))
      case measure => simp only [intOf]; omega

def PW.rise (s : PW) (n : Int) : PW :=
  if s.any = true ∧ n - s.top < 2048 then ⟨(s.clears (s.top + 1) (n - s.top - 1).toNat).f, n, true⟩ else ⟨fun _ => 0, n, true⟩
theorem rise_any (b : Nat) (n : Int) (s : PW) (w : World) (h0 : 0 ≤ n) (hn : n < 18446744073709551616) (ht0 : 0 ≤ s.top) (ht : s.top < 18446744073709551616) (hb : WinAt w b s)
    (hlt : s.any = true → s.top < n) :
    Calls Try.prog 16 #[.pointer (some ⟨b, 0, none⟩), .int .u64 n] w fun e w' => e = .returned (.tuple #[]) ∧ WinAt w' b (s.rise n) ∧ w.grownBy w' (some b) := by
  by_cases h : s.any = true ∧ n - s.top < 2048
  · rw [PW.rise, if_pos h]; exact rise_on b n s w h0 hn ht0 ht hb h.1 (hlt h.1) h.2
  · rw [PW.rise, if_neg h]
    refine rise_zero b n s w h0 hn ht0 ht hb ?_
    cases ha : s.any with
    | false => exact .inl rfl
    | true => exact .inr ⟨rfl, hlt ha, Int.not_lt.1 fun x => h ⟨ha, x⟩⟩

def PW.take (s : PW) (n : Int) : PW :=
  if s.may n then (if s.any = true ∧ n ≤ s.top then s else s.rise n).set n else s

set_option maxHeartbeats 400000 in
set_option maxRecDepth 100000 in
theorem take_any (b : Nat) (n : Int) (s : PW) (w : World) (h0 : 0 ≤ n) (hn : n < 18446744073709551616) (ht0 : 0 ≤ s.top) (ht : s.top < 18446744073709551616) (hb : WinAt w b s) :
    Calls Try.prog 11 #[.pointer (some ⟨b, 0, none⟩), .int .u64 n] w fun e w' => e = .returned (.bool (s.may n)) ∧ WinAt w' b (s.take n) ∧ w.grownBy w' (some b) := by
  have c32 := win_top hb
  have c33 := win_any hb
  have hi1 : 0 ≤ n % 2048 / 64 := by omega
  have hi2 : n % 2048 / 64 < 32 := by omega
  have hi : (n % 2048 / 64).toNat < 32 := by omega
  have ci := win_bits hb _ hi
  have hfr := row_free hb
  have HB := Lib.hid hb; clear hb
  have HT := Lib.hid (rfl : s.take n = s.take n)
  obtain ⟨s2, HS⟩ : ∃ s2, Hid (s2 = s.take n) := ⟨_, rfl⟩
  obtain ⟨m, HM⟩ : ∃ m, Hid (m = s.may n) := ⟨_, rfl⟩
  rw [← HS.out, ← HM.out]
  go_enter Try.func11, Try.ntmps11
  go_wp2_with (first | (go_at_call 9; refine (may_any b n s _ h0 hn ht0 ht HB.out).mono ?_; rintro e w' ⟨rfl, rfl⟩; rw [← HM.out]) | (go_at_call 16; refine (rise_any b n s _ h0 hn ht0 ht HB.out ?_).mono ?_) | (go_at_call 15; refine (at_any _ h0 _).mono ?_; rintro e w' ⟨rfl, rfl⟩) | go_still_tail 10, (by kernel_rfl))
  · rw [Bool.not_eq_true'] at *
    go_ret
    have hm : m = false := by assumption
    refine ⟨ret_bool hm.symm, ?_, grown_refl _ _⟩
    rw [HS.out, PW.take, ← HM.out, hm]; exact HB.out
  · intro _; assumption
  · rintro e w1 ⟨rfl, hb1, hg1⟩
    have c1 := win_bits hb1 _ hi
    have f1 := row_free hb1
    have HB1 := Lib.hid hb1
    have HG1 := Lib.hid hg1
    clear hb1 hg1 ci hfr c32 c33
    go_wp2_with (first | (go_at_call 15; refine (at_any _ h0 _).mono ?_; rintro e w' ⟨rfl, rfl⟩) | go_still_tail 10, (by kernel_rfl))
    go_ret
    have hm : (!m) = false := by assumption
    have hm : m = true := by simpa using hm
    refine ⟨ret_bool hm.symm, ?_, grown_trans HG1.out (grown_trans (grown_setCell _ _ _ _) (grown_drew _ _))⟩
    rw [HS.out, PW.take, ← HM.out, hm, if_pos rfl, if_neg (by rintro ⟨-, h⟩; omega)]
    exact win_or HB1.out n hi
  · have hm : (!m) = false := by assumption
    have hm : m = true := by simpa using hm
    go_ret
    refine ⟨ret_bool hm.symm, ?_, grown_trans (grown_setCell _ _ _ _) (grown_drew _ _)⟩
    rw [HS.out, PW.take, ← HM.out, hm, if_pos rfl, if_pos ⟨by assumption, by assumption⟩]
    exact win_or HB.out n hi
  · intro h; contradiction
  · rintro e w1 ⟨rfl, hb1, hg1⟩
    have c1 := win_bits hb1 _ hi
    have f1 := row_free hb1
    have HB1 := Lib.hid hb1
    have HG1 := Lib.hid hg1
    clear hb1 hg1 ci hfr c32 c33
    go_wp2_with (first | (go_at_call 15; refine (at_any _ h0 _).mono ?_; rintro e w' ⟨rfl, rfl⟩) | go_still_tail 10, (by kernel_rfl))
    go_ret
    have hm : (!m) = false := by assumption
    have hm : m = true := by simpa using hm
    refine ⟨ret_bool hm.symm, ?_, grown_trans HG1.out (grown_trans (grown_setCell _ _ _ _) (grown_drew _ _))⟩
    rw [HS.out, PW.take, ← HM.out, hm, if_pos rfl, if_neg (by rintro ⟨h, -⟩; contradiction)]
    exact win_or HB1.out n hi

set_option maxHeartbeats 400000 in
theorem top_any (b : Nat) (s : PW) (w : World) (hb : WinAt w b s) :
    Calls Try.prog 13 #[.pointer (some ⟨b, 0, none⟩)] w fun e w' => e = .returned (.tuple #[.int .u64 s.top, .bool s.any]) ∧ Drawn w w' := by
  have c32 := win_top hb
  have c33 := win_any hb
  clear hb
  go_enter Try.func13, Try.ntmps13
  go_wp2
  go_quiet (fail)
  go_wp2
  go_ret2
  exact ⟨rfl, drawn_drewN _ _⟩

/-- A new block b of world w' is a new window; all that was there in w is as it was. -/
def NewWin (w : World) (b : Nat) (w' : World) : Prop := WinAt w' b PW.new ∧ w.grownBy w' none ∧ w.heap.size ≤ b
theorem newWin_alloc (w : World) : NewWin w w.heap.size (w.alloc (.cells (winCells PW.new) 42)) := ⟨heap_alloc_new _ _, World.grownBy_alloc _ _ _, Nat.le_refl _⟩

set_option maxHeartbeats 400000 in
theorem new_any (w : World) :
    Calls Try.prog 8 #[] w fun e w' => e = .returned (.pointer (some ⟨w.heap.size, 0, none⟩)) ∧ NewWin w w.heap.size w' := by
  go_enter Try.func8, Try.ntmps8
  go_wp2
  go_ret
  exact ⟨rfl, newWin_alloc w⟩

end Go.Proofs.Ytebabmpmhihijaa
