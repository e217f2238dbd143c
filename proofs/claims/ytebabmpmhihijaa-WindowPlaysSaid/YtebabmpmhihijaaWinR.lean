/- The reference's window, walked. -/
import Derived.Test.YtebabmpmhihijaaWinS
namespace Go.Proofs.Ytebabmpmhihijaa
set_option linter.unusedVariables false
set_option linter.unusedSimpArgs false
open Go.RowKit Go.Proofs.YtebabmpmhihijaaL

/-- The reference's window in block b: its list, which is the call's own from 'base' on. -/
def RefAt (w : World) (base b : Nat) (L : List Int) : Prop :=
  ∃ v, w.heap[b]? = some (.cells #[v] 30 (0, 0)) ∧ w.ownsRow base 24 1 v L.length (L.map (Value.int .u64)) ∧ b < base

def maxL (L : List Int) : Int := L.foldl max 0

theorem maxL_snoc (L : List Int) (x : Int) : maxL (L ++ [x]) = max (maxL L) x := by simp [maxL, List.foldl_append]
theorem foldl_max_nn : ∀ (L : List Int) (a : Int), a ≤ L.foldl max a := by
  intro L
  induction L with
  | nil => intro a; exact Int.le_refl _
  | cons x r ih => intro a; exact Int.le_trans (by omega) (ih (max a x))
theorem foldl_max_lt (C : Int) : ∀ (L : List Int) (a : Int), (∀ x ∈ L, x < C) → a < C → L.foldl max a < C := by
  intro L
  induction L with
  | nil => intro a _ h; exact h
  | cons x r ih => intro a h ha; exact ih _ (fun y hy => h y (List.mem_cons_of_mem _ hy)) (by have := h x List.mem_cons_self; omega)
theorem maxL_nn (L : List Int) : 0 ≤ maxL L := foldl_max_nn L 0

theorem take_getElem (L : List Int) (k : Nat) (x : Int) (h : L[k]? = some x) : L.take (k + 1) = L.take k ++ [x] := by
  rw [List.take_add_one, h]; rfl

set_option maxHeartbeats 1000000 in
theorem rtop_any (base b : Nat) (L : List Int) (w : World) (h : RefAt w base b L) (hb : ∀ x ∈ L, 0 ≤ x ∧ x < 18446744073709551616) (hlen : (L.length : Int) ≤ 1000) :
    Calls Try.prog 14 #[.pointer (some ⟨b, 0, none⟩)] w fun e w' => e = .returned (.tuple #[.int .u64 (maxL L), .bool (decide (0 < L.length))]) ∧ Drawn w w' := by
  obtain ⟨v, hrow, hown, -⟩ := h
  obtain ⟨a, c, hv⟩ := own_slice hown
  subst hv
  have c0 : w.cell? ⟨b, 0, none⟩ = some (.slice a L.length c) := row_cell hrow 0 _ rfl
  have HOW := Lib.hid hown
  have HBL := Lib.hid hb
  clear hown hrow hb
  obtain ⟨n, hn⟩ : ∃ n, n = L.length := ⟨_, rfl⟩
  obtain ⟨M, HM⟩ : ∃ M, Hid (M = maxL L) := ⟨_, rfl⟩
  rw [← hn] at c0 hlen ⊢
  rw [← HM.out]
  have HN := Lib.hid hn
  clear hn
  go_enter Try.func14, Try.ntmps14
  go_wp2_with fail
  go_loop [4, 5] (fun t i => ∃ k : Nat, k ≤ n ∧ i = .int .i64 k ∧ ∃ m, t = .int .u64 m ∧ Hid (m = maxL (L.take k)) ∧ 0 ≤ m ∧ m < 18446744073709551616) (fun _ i => n - (intOf i).toNat)
  case atStart => exact ⟨0, by omega, rfl, 0, rfl, rfl, by decide, by decide⟩
  case round =>
    obtain ⟨k, hk, rfl, m, rfl, hm, hm0, hm1⟩ := hrel
    by_cases hlt : k < n
    · obtain ⟨x, hx⟩ : ∃ x, L[k]? = some x := ⟨_, List.getElem?_eq_getElem (by rw [← HN.out]; exact hlt)⟩
      obtain ⟨g, c2, hv, hc⟩ := own_at HOW.out k (.int .u64 x) (by rw [List.getElem?_map, hx]; rfl)
      rw [← HN.out] at hv
      cases hv
      obtain ⟨hx0, hx1⟩ := HBL.out x (List.mem_of_getElem? hx)
      have HX := Lib.hid hx
      clear hx
      go_wp2_with fail
      go_round
      case rel =>
        refine ⟨k + 1, by omega, by go_num, _, rfl, ?_, by omega, by omega⟩
        rw [take_getElem _ _ _ HX.out, maxL_snoc, ← hm.out]
        show (if m < x then x else m) = max m x
        split <;> omega
      case measure => simp [intOf]; omega
    · have : k = n := by omega
      subst this
      have hM : m = M := by rw [HM.out, hm.out, HN.out, List.take_length]
      clear hm
      subst hM
      go_wp2_with fail
      go_quiet (fail)
      go_wp2
      go_ret2
      exact ⟨rfl, drawn_drewN _ _⟩

def mayR (L : List Int) (n : Int) : Bool := if n < maxL L ∧ 2048 ≤ maxL L - n then false else !L.contains n

theorem contains_snoc (L : List Int) (k : Nat) (x n : Int) (h : L[k]? = some x) : (L.take (k + 1)).contains n = ((L.take k).contains n || (n == x)) := by
  rw [take_getElem _ _ _ h, Bool.eq_iff_iff]
  simp

theorem ref_drawn {w w' : World} {base b : Nat} {L : List Int} (h : RefAt w base b L) (d : Drawn w w') : RefAt w' base b L := by
  obtain ⟨n, rfl⟩ := d; exact h

set_option maxHeartbeats 1000000 in
theorem rmay_any (base b : Nat) (L : List Int) (n : Int) (w : World) (h : RefAt w base b L) (hb : ∀ x ∈ L, 0 ≤ x ∧ x < 18446744073709551616) (hlen : (L.length : Int) ≤ 1000) (h0 : 0 ≤ n) (h1 : n < 18446744073709551616) :
    Calls Try.prog 10 #[.pointer (some ⟨b, 0, none⟩), .int .u64 n] w fun e w' => e = .returned (.bool (mayR L n)) ∧ Drawn w w' := by
  obtain ⟨r, HR⟩ : ∃ r, Hid (r = mayR L n) := ⟨_, rfl⟩
  rw [← HR.out]
  go_enter Try.func10, Try.ntmps10
  go_wp2_with fail
  refine (rtop_any base b L _ h hb hlen).mono ?_
  rintro e w1 ⟨rfl, d1⟩
  have h' := ref_drawn h d1
  have D1 := Lib.hid d1
  clear h d1
  obtain ⟨v, hrow, hown, -⟩ := h'
  obtain ⟨a, c, hv⟩ := own_slice hown
  subst hv
  have c0 : w1.cell? ⟨b, 0, none⟩ = some (.slice a L.length c) := row_cell hrow 0 _ rfl
  have HOW := Lib.hid hown
  have HBL := Lib.hid hb
  clear hown hrow hb
  obtain ⟨ln, hn⟩ : ∃ n, n = L.length := ⟨_, rfl⟩
  have hM0 := maxL_nn L
  have hM1 : maxL L < 18446744073709551616 := foldl_max_lt _ L 0 (fun x hx => (HBL.out x hx).2) (by decide)
  obtain ⟨M, hM⟩ : ∃ M, M = maxL L := ⟨_, rfl⟩
  rw [← hM] at hM0 hM1 ⊢
  rw [← hn] at c0 hlen ⊢
  have HN := Lib.hid hn
  have HM := Lib.hid hM
  clear hn hM
  by_cases hold : n < M ∧ 2048 ≤ M - n
  · obtain ⟨ho1, ho2⟩ := hold
    go_wp2_with fail
    go_ret
    refine ⟨ret_bool ?_, D1.out⟩
    rw [HR.out, mayR, ← HM.out, if_pos ⟨ho1, ho2⟩]
  · have hr2 : r = !L.contains n := by rw [HR.out, mayR, ← HM.out, if_neg hold]
    have HR2 := Lib.hid hr2
    clear hr2
    have hcase : M ≤ n ∨ (n < M ∧ M - n < 2048) := by omega
    clear hold
    rcases hcase with hc1 | ⟨hc1, hc2⟩
    all_goals
      go_wp2_with fail
      go_loop [7] (fun i => ∃ k : Nat, k ≤ ln ∧ i = .int .i64 k ∧ Hid ((L.take k).contains n = false)) (fun i => ln - (intOf i).toNat)
      case atStart => exact ⟨0, by omega, rfl, rfl⟩
      case round =>
        obtain ⟨k, hk, rfl, hnot⟩ := hrel
        by_cases hlt : k < ln
        · obtain ⟨x, hx⟩ : ∃ x, L[k]? = some x := ⟨_, List.getElem?_eq_getElem (by rw [← HN.out]; exact hlt)⟩
          obtain ⟨g, c2, hv, hc⟩ := own_at HOW.out k (.int .u64 x) (by rw [List.getElem?_map, hx]; rfl)
          rw [← HN.out] at hv
          cases hv
          have HX := Lib.hid hx
          clear hx
          cases hb : (x == n) with
          | false =>
            go_wp2_with fail
            go_round
            case rel =>
              refine ⟨k + 1, by omega, by go_num, ?_⟩
              show (L.take (k + 1)).contains n = false
              rw [contains_snoc _ _ _ _ HX.out, hnot.out]
              have : x ≠ n := by simpa using hb
              simp [Ne.symm this]
            case measure => simp [intOf]; omega
          | true =>
            go_wp2_with fail
            go_ret
            refine ⟨ret_bool ?_, D1.out⟩
            rw [HR2.out]
            have e : x = n := by simpa using hb
            rw [← e]
            simp [List.mem_of_getElem? HX.out]
        · have : k = ln := by omega
          subst this
          have hM : r = true := by rw [HR2.out]; have := hnot.out; rw [HN.out, List.take_length] at this; rw [this]; rfl
          clear hnot
          subst hM
          go_wp2_with fail
          go_ret
          exact ⟨rfl, D1.out⟩

theorem ref_win {w w' : World} {base b : Nat} {L : List Int} {r : Option Nat} (h : RefAt w base b L) (g : w.grownBy w' r) (hr : ∀ k, r = some k → k < b) : RefAt w' base b L := by
  obtain ⟨v, h1, h2, h3⟩ := h
  exact ⟨v, by rw [g.block b (row_lt h1) (by intro e; have := hr b e.symm; omega)]; exact h1, own_keep h2 g (fun k hk => Nat.lt_trans (hr k hk) h3), h3⟩

/-- All below 'base' but block b is as it was. -/
structure Frm (base b : Nat) (w w' : World) : Prop where
  os : w'.os = w.os
  tape : w'.tape = w.tape
  output : w'.output = w.output
  size : w.heap.size ≤ w'.heap.size
  block : ∀ k, k < base → k ≠ b → w'.heap[k]? = w.heap[k]?
theorem Frm.grown {base b : Nat} {a w w' : World} {r : Option Nat} (h : Frm base b a w) (hs : base ≤ w.heap.size) (g : w.grownBy w' r) (hr : ∀ k, r = some k → base ≤ k ∨ k = b) : Frm base b a w' :=
  ⟨g.os.trans h.os, g.tape.trans h.tape, g.output.trans h.output, Nat.le_trans h.size g.size, fun k hk hb => (g.block k (Nat.lt_of_lt_of_le hk hs) (by intro e; have := hr k e.symm; omega)).trans (h.block k hk hb)⟩
theorem Frm.to_grown {base b : Nat} {a w w' : World} (h : Frm base b w w') (g : a.grownBy w none) (h1 : a.heap.size ≤ base) (h2 : a.heap.size ≤ b) : a.grownBy w' none :=
  ⟨h.os.trans g.os, h.tape.trans g.tape, h.output.trans g.output, Nat.le_trans g.size h.size, fun k hk _ => (h.block k (by omega) (by omega)).trans (g.block k hk (by simp))⟩
theorem own_heap {w w' : World} {base e : Nat} {v : Value} {n : Nat} {xs : List Value} (h : w.ownsRow base e 1 v n xs) (hk : ∀ g, v.ownBlock = some g → w'.heap[g]? = w.heap[g]?) : w'.ownsRow base e 1 v n xs := by
  obtain ⟨h1, h2⟩ := h
  refine ⟨h1, ?_⟩
  rcases h2 with h2 | ⟨g, cap, cur, hv, hg, hh, r⟩
  · exact .inl h2
  · refine .inr ⟨g, cap, cur, hv, hg, ?_, r⟩
    rw [hk g (by rw [hv]; rfl)]; exact hh

set_option maxHeartbeats 1000000 in
theorem rtake_any (base b : Nat) (L : List Int) (n : Int) (w : World) (h : RefAt w base b L) (hb : ∀ x ∈ L, 0 ≤ x ∧ x < 18446744073709551616) (hlen : (L.length : Int) ≤ 1000) (h0 : 0 ≤ n) (h1 : n < 18446744073709551616)
    (hsz : base ≤ w.heap.size) :
    Calls Try.prog 12 #[.pointer (some ⟨b, 0, none⟩), .int .u64 n] w fun e w' => e = .returned (.bool (mayR L n)) ∧ RefAt w' base b (if mayR L n then L ++ [n] else L) ∧ Frm base b w w' := by
  obtain ⟨m, HM⟩ : ∃ m, Hid (mayR L n = m) := ⟨_, rfl⟩
  obtain ⟨L2, HL2⟩ : ∃ L2, Hid (L2 = if mayR L n then L ++ [n] else L) := ⟨_, rfl⟩
  rw [← HL2.out, HM.out]
  go_enter Try.func12, Try.ntmps12
  go_wp2_with fail
  refine (rmay_any base b L n _ h hb hlen h0 h1).mono ?_
  rw [HM.out]
  rintro e w1 ⟨rfl, d1⟩
  have h' := ref_drawn h d1
  have hbl : Frm base b w w1 := by obtain ⟨q, rfl⟩ := d1; exact ⟨rfl, rfl, rfl, Nat.le_refl _, fun _ _ _ => rfl⟩
  have HBL := Lib.hid hbl
  clear h d1 hbl
  have HHB := Lib.hid hb
  clear hb
  cases m with
  | false =>
    have HR1 := Lib.hid h'
    clear h'
    go_wp2_with fail
    go_ret
    exact ⟨rfl, by rw [HL2.out, HM.out]; exact HR1.out, HBL.out⟩
  | true =>
    obtain ⟨v, hrow, hown, hlt⟩ := h'
    have c0 : w1.cell? ⟨b, 0, none⟩ = some v := row_cell hrow 0 _ rfl
    have f0 := row_free hrow
    have HOW := Lib.hid hown
    have HROW := Lib.hid hrow
    clear hown hrow
    have hsz1 : base ≤ w1.heap.size := Nat.le_trans hsz HBL.out.size
    go_wp2_with (at_builtin; refine wpList_app rfl (.tmp 13) (.tmp 15) 22 rfl base 24 (.int .u64 0) 8 Try.underlying22 (by kernel_rfl) rfl _ L.length _ rfl (HOW.out.alloc _) ⟨w1.heap.size, 0, none⟩ 1 1 [.int .u64 n] rfl rfl ?c1 ?c2 ?c3 ?c4 ?c5 ?_)
    case c1 => intro j u hu; exact cell_one_new _ _ _ j u hu
    case c2 => simp [Value.oneCell']
    case c3 => unfold maxLen; omega
    case c4 => omega
    case c5 => simp; omega
    intro v5 w5 hown5 hg5
    obtain ⟨a6, c6, hv6⟩ := own_slice hown5
    subst hv6
    have hne : some b ≠ v.ownBlock := fun e => by have := (World.ownsRow.lt HOW.out b e.symm).1; omega
    have hrow5 : w5.heap[b]? = some (.cells #[v] 30 (0, 0)) := by
      have hbl := row_lt HROW.out
      rw [hg5.block b (by simp; omega) hne]
      exact (heap_alloc_old w1 _ hbl).trans HROW.out
    have c5 : w5.cell? ⟨b, 0, none⟩ = some v := row_cell hrow5 0 _ rfl
    have f5 := row_free hrow5
    have HROW5 := Lib.hid hrow5
    have HOWN5 := Lib.hid hown5
    have HG5 := Lib.hid hg5
    have HNE := Lib.hid hne
    clear hrow5 hown5 hg5 hne c0 f0
    go_wp2_with fail
    go_ret
    refine ⟨rfl, ?_, ?_⟩
    · rw [HL2.out, HM.out, if_pos rfl]
      refine ⟨_, by simpa using row_set HROW5.out 0 (.slice a6 (L.length + 1) c6), ?_, hlt⟩
      have := own_keep HOWN5.out (grown_setCell w5 b 0 (.slice a6 (L.length + 1) c6)) (fun k hk => by cases hk; exact hlt)
      simpa using this
    · have hge := fun k hk => (World.ownsRow.lt HOW.out k hk).1
      exact ((HBL.out.grown hsz1 (World.grownBy_alloc _ _ none) (by simp)).grown (by simp; omega) HG5.out (fun k hk => .inl (hge k hk))).grown (Nat.le_trans (by simp; omega) HG5.out.size) (grown_setCell _ _ _ _) (fun k hk => by cases hk; exact .inr rfl)
end Go.Proofs.Ytebabmpmhihijaa
