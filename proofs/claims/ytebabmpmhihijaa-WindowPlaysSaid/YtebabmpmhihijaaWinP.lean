/- What a window's numbers say, in plain: which numbers were taken. -/
import Derived.Test.YtebabmpmhihijaaWinK
namespace Go.Proofs.Ytebabmpmhihijaa
set_option linter.unusedVariables false
set_option linter.unusedSimpArgs false
open Go.RowKit Go.Proofs.YtebabmpmhihijaaL

def PW.ok (s : PW) : Prop := ∀ i, 0 ≤ s.f i ∧ s.f i < 18446744073709551616
def PW.has (s : PW) (m : Int) : Bool := (s.f (m % 2048 / 64).toNat).toNat.testBit (m % 64).toNat

theorem wbit_eq (m : Int) : wbit m = ((2 ^ (m % 64).toNat : Nat) : Int) := by
  have h : (m % 64).toNat ≤ 63 := by omega
  have h1 : (2 : Nat) ^ (m % 64).toNat ≤ 2 ^ 63 := Nat.pow_le_pow_right (by omega) h
  unfold wbit
  have h2 : ((2 : Int) ^ (m % 64).toNat) = ((2 ^ (m % 64).toNat : Nat) : Int) := by push_cast; rfl
  rw [h2]
  generalize (2 : Nat) ^ (m % 64).toNat = q at *
  simp [IntKind.wrap, IntKind.bits, IntKind.signed]
  omega
theorem wbit_lt (m : Int) : (2 ^ (m % 64).toNat : Nat) < 18446744073709551616 := by
  have h : (m % 64).toNat ≤ 63 := by omega
  have h1 : (2 : Nat) ^ (m % 64).toNat ≤ 2 ^ 63 := Nat.pow_le_pow_right (by omega) h
  omega

theorem wbit_ltI (m : Int) : ((2 ^ (m % 64).toNat : Nat) : Int) < 18446744073709551616 := by
  have h := wbit_lt m
  generalize (2 : Nat) ^ (m % 64).toNat = q at *
  omega

theorem and_bit (a k : Nat) : (a &&& 2 ^ k = 0) ↔ a.testBit k = false := by
  rw [nat_bit, Nat.testBit_eq_decide_div_mod_eq]
  have hp : 0 < 2 ^ k := Nat.two_pow_pos k
  have : a / 2 ^ k % 2 = 0 ∨ a / 2 ^ k % 2 = 1 := by omega
  rcases this with h | h <;> simp [h] <;> omega

theorem and_has (s : PW) (hs : s.ok) (m : Int) : (bits .and .u64 (s.f (m % 2048 / 64).toNat) (wbit m) == 0) = !s.has m := by
  obtain ⟨h1, h2⟩ := hs (m % 2048 / 64).toNat
  rw [wbit_eq, PW.has, u64_and _ _ h1 h2 (Int.natCast_nonneg _) (wbit_ltI m)]
  generalize (s.f (m % 2048 / 64).toNat).toNat = a
  rw [Int.toNat_natCast]
  have h := and_bit a (m % 64).toNat
  cases hb : a.testBit (m % 64).toNat with
  | false => rw [h.2 hb]; rfl
  | true =>
    have hn : a &&& 2 ^ (m % 64).toNat ≠ 0 := fun e => by rw [h.1 e] at hb; cases hb
    simp only [Bool.not_true, beq_eq_false_iff_ne, ne_eq]
    omega

theorem may_eq (s : PW) (hs : s.ok) (n : Int) : s.may n = if s.any = true then (if s.top < n then true else if 2048 ≤ s.top - n then false else !s.has n) else true := by
  rw [PW.may, and_has s hs]

theorem pow_ne {a b : Nat} (h : a ≠ b) : (2 ^ a : Nat).testBit b = false := by
  rw [Nat.testBit_two_pow]; simp [h]

theorem set_ok (s : PW) (hs : s.ok) (n : Int) : (s.set n).ok := by
  intro i
  show 0 ≤ (if i = (n % 2048 / 64).toNat then bits .or .u64 (s.f i) (wbit n) else s.f i) ∧ _
  have hi := hs i
  by_cases h : i = (n % 2048 / 64).toNat
  · simp only [PW.set, if_pos h]
    rw [wbit_eq, u64_or _ _ hi.1 hi.2 (Int.natCast_nonneg _) (wbit_ltI n)]
    have h2 := wbit_lt n
    rw [Int.toNat_natCast]
    have : (s.f i).toNat ||| (2 ^ (n % 64).toNat : Nat) < 2 ^ 64 := Nat.or_lt_two_pow (by omega) (by simpa using h2)
    generalize (s.f i).toNat ||| (2 ^ (n % 64).toNat : Nat) = q at *
    omega
  · simp only [PW.set, if_neg h]
    exact hi

theorem has_set (s : PW) (hs : s.ok) (n m : Int) (hm : 0 ≤ m) (hn : 0 ≤ n) : (s.set n).has m = (decide (m % 2048 = n % 2048) || s.has m) := by
  rw [PW.has, PW.has]
  simp only [PW.set]
  by_cases h : (m % 2048 / 64).toNat = (n % 2048 / 64).toNat
  · have hi := hs (m % 2048 / 64).toNat
    rw [if_pos h, wbit_eq, u64_or _ _ hi.1 hi.2 (Int.natCast_nonneg _) (wbit_ltI n), Int.toNat_natCast, Int.toNat_natCast, Nat.testBit_or]
    by_cases e : (m % 64).toNat = (n % 64).toNat
    · rw [e, Nat.testBit_two_pow_self, Bool.or_true]
      have : m % 2048 = n % 2048 := by omega
      simp [this]
    · rw [pow_ne (Ne.symm e), Bool.or_false]
      have : m % 2048 ≠ n % 2048 := by omega
      simp [this]
  · rw [if_neg h]
    have : m % 2048 ≠ n % 2048 := by omega
    simp [this]

theorem clear_ok (s : PW) (hs : s.ok) (n : Int) : (s.clear n).ok := by
  intro i
  show 0 ≤ (if i = (n % 2048 / 64).toNat then bits .andNot .u64 (s.f i) (wbit n) else s.f i) ∧ _
  have hi := hs i
  by_cases h : i = (n % 2048 / 64).toNat
  · simp only [PW.clear, if_pos h]
    rw [wbit_eq, u64_andNot _ _ hi.1 hi.2 (Int.natCast_nonneg _) (wbit_ltI n)]
    have : (s.f i).toNat &&& (18446744073709551615 - ((2 ^ (n % 64).toNat : Nat) : Int).toNat) ≤ (s.f i).toNat := Nat.and_le_left
    generalize (s.f i).toNat &&& (18446744073709551615 - ((2 ^ (n % 64).toNat : Nat) : Int).toNat) = q at *
    omega
  · simp only [PW.clear, if_neg h]
    exact hi

theorem not_bit (q b : Nat) (hq : q < 2 ^ 64) (hb : b < 64) : (18446744073709551615 - q).testBit b = !q.testBit b := by
  have : 18446744073709551615 - q = 2 ^ 64 - (q + 1) := by omega
  rw [this, Nat.testBit_two_pow_sub_succ hq]
  simp [hb]

theorem has_clear (s : PW) (hs : s.ok) (n m : Int) (hm : 0 ≤ m) (hn : 0 ≤ n) : (s.clear n).has m = (!decide (m % 2048 = n % 2048) && s.has m) := by
  rw [PW.has, PW.has]
  simp only [PW.clear]
  by_cases h : (m % 2048 / 64).toNat = (n % 2048 / 64).toNat
  · have hi := hs (m % 2048 / 64).toNat
    rw [if_pos h, wbit_eq, u64_andNot _ _ hi.1 hi.2 (Int.natCast_nonneg _) (wbit_ltI n), Int.toNat_natCast, Int.toNat_natCast, Nat.testBit_and, not_bit _ _ (wbit_lt n) (by omega)]
    by_cases e : (m % 64).toNat = (n % 64).toNat
    · rw [e, Nat.testBit_two_pow_self]
      have : m % 2048 = n % 2048 := by omega
      simp [this]
    · rw [pow_ne (Ne.symm e)]
      have : m % 2048 ≠ n % 2048 := by omega
      simp [this]
  · rw [if_neg h]
    have : m % 2048 ≠ n % 2048 := by omega
    simp [this]

theorem clears_ok (s : PW) (hs : s.ok) (k : Int) (d : Nat) : (s.clears k d).ok := by
  induction d with
  | zero => exact hs
  | succ d ih => exact clear_ok _ ih _

theorem has_clears (s : PW) (hs : s.ok) (k m : Int) (hm : 0 ≤ m) (hk : 0 ≤ k) (d : Nat) :
    (s.clears k d).has m = (!decide (∃ j : Nat, j < d ∧ m % 2048 = (k + j) % 2048) && s.has m) := by
  induction d with
  | zero => simp [PW.clears]
  | succ d ih =>
    rw [PW.clears, has_clear _ (clears_ok s hs k d) _ _ hm (by omega), ih]
    by_cases h : m % 2048 = (k + d) % 2048
    · have : ∃ j : Nat, j < d + 1 ∧ m % 2048 = (k + j) % 2048 := ⟨d, by omega, h⟩
      rw [decide_eq_true h, decide_eq_true this]
      simp
    · have : (∃ j : Nat, j < d + 1 ∧ m % 2048 = (k + j) % 2048) ↔ (∃ j : Nat, j < d ∧ m % 2048 = (k + j) % 2048) := by
        constructor
        · rintro ⟨j, hj, e⟩
          rcases Nat.lt_succ_iff_lt_or_eq.1 hj with h' | h'
          · exact ⟨j, h', e⟩
          · subst h'; exact absurd e h
        · rintro ⟨j, hj, e⟩; exact ⟨j, by omega, e⟩
      simp only [this, h, decide_false, Bool.not_false, Bool.true_and]

/-- A window that has taken just the numbers of L. -/
structure Inv (s : PW) (L : List Int) : Prop where
  ok : s.ok
  any : s.any = !L.isEmpty
  top0 : 0 ≤ s.top
  topm : s.any = true → s.top ∈ L
  le : ∀ m ∈ L, 0 ≤ m ∧ m ≤ s.top
  has : s.any = true → ∀ m, 0 ≤ m → m ≤ s.top → s.top - m < 2048 → (s.has m = true ↔ m ∈ L)

theorem inv_new : Inv PW.new [] := ⟨fun _ => by simp [PW.new], rfl, by decide, by simp [PW.new], by simp, by simp [PW.new]⟩

def mayL (L : List Int) (t n : Int) : Bool := L.isEmpty || decide (t < n) || (decide (t - n < 2048) && !L.contains n)
theorem may_inv {s : PW} {L : List Int} (h : Inv s L) (n : Int) (hn : 0 ≤ n) : s.may n = mayL L s.top n := by
  rw [may_eq s h.ok, h.any, mayL]
  cases hL : L.isEmpty with
  | true => simp
  | false =>
    have ha : s.any = true := by rw [h.any, hL]; rfl
    simp only [Bool.not_false, if_true, Bool.false_or]
    by_cases h1 : s.top < n
    · simp [h1]
    · rw [if_neg h1]
      by_cases h2 : 2048 ≤ s.top - n
      · have : ¬ s.top - n < 2048 := by omega
        simp [h1, h2, this]
      · have h3 : s.top - n < 2048 := by omega
        have := h.has ha n hn (by omega) h3
        rw [if_neg h2]
        simp only [h1, h3, decide_false, decide_true, Bool.false_or, Bool.true_and]
        congr 1
        rw [Bool.eq_iff_iff, this, List.contains_iff_mem]

theorem zero_ok (n : Int) (a : Bool) : (⟨fun _ => 0, n, a⟩ : PW).ok := fun _ => by simp
theorem has_zero (n : Int) (a : Bool) (m : Int) : (⟨fun _ => 0, n, a⟩ : PW).has m = false := by simp [PW.has]

def topL (s : PW) (n : Int) : Int := if s.any = true ∧ n ≤ s.top then s.top else n

theorem rise_has (s : PW) {L : List Int} (h : Inv s L) (n : Int) (hlt : s.any = true → s.top < n) :
    (s.rise n).ok ∧ (s.rise n).top = n ∧ (s.rise n).any = true ∧ ∀ m, 0 ≤ m → m < n → n - m < 2048 → ((s.rise n).has m = true ↔ m ∈ L) := by
  unfold PW.rise
  by_cases hc : s.any = true ∧ n - s.top < 2048
  · rw [if_pos hc]
    have hl := hlt hc.1
    refine ⟨fun i => clears_ok s h.ok _ _ i, rfl, rfl, fun m h0 hmn hd => ?_⟩
    show PW.has (s.clears (s.top + 1) (n - s.top - 1).toNat) m = true ↔ m ∈ L
    rw [has_clears s h.ok _ _ h0 (by have := h.top0; omega)]
    have htop := h.top0
    by_cases hmt : m ≤ s.top
    · have hno : ¬ ∃ j : Nat, j < (n - s.top - 1).toNat ∧ m % 2048 = (s.top + 1 + j) % 2048 := by
        rintro ⟨j, hj, e⟩; omega
      rw [decide_eq_false hno, Bool.not_false, Bool.true_and]
      exact h.has hc.1 m h0 hmt (by omega)
    · have hyes : ∃ j : Nat, j < (n - s.top - 1).toNat ∧ m % 2048 = (s.top + 1 + j) % 2048 := ⟨(m - s.top - 1).toNat, by omega, by
        have : s.top + 1 + ((m - s.top - 1).toNat : Int) = m := by omega
        rw [this]⟩
      rw [decide_eq_true hyes]
      simp only [Bool.not_true, Bool.false_and, Bool.false_eq_true, false_iff]
      intro hmem
      have := h.le m hmem
      omega
  · rw [if_neg hc]
    refine ⟨zero_ok _ _, rfl, rfl, fun m h0 hmn hd => ?_⟩
    rw [has_zero]
    simp only [Bool.false_eq_true, false_iff]
    intro hmem
    have hle := h.le m hmem
    have ha : s.any = true := by
      rw [h.any]; cases L with
      | nil => simp at hmem
      | cons a r => rfl
    have hl := hlt ha
    exact hc ⟨ha, by omega⟩

theorem take_inv {s : PW} {L : List Int} (h : Inv s L) (n : Int) (hn : 0 ≤ n) (hm : s.may n = true) :
    Inv (s.take n) (n :: L) ∧ (s.take n).top = topL s n := by
  unfold PW.take topL
  rw [if_pos hm]
  rw [may_eq s h.ok] at hm
  by_cases hc : s.any = true ∧ n ≤ s.top
  · rw [if_pos hc, if_pos hc]
    refine ⟨⟨set_ok _ h.ok _, hc.1, h.top0, fun _ => List.mem_cons_of_mem _ (h.topm hc.1), ?_, ?_⟩, rfl⟩
    · intro m hmem
      rcases List.mem_cons.1 hmem with e | e
      · subst e; exact ⟨hn, hc.2⟩
      · exact h.le m e
    · intro _ m h0 hle hd
      have hd' : s.top - m < 2048 := hd
      have hle' : m ≤ s.top := hle
      rw [if_pos hc.1, if_neg (by omega)] at hm
      have hn2 : s.top - n < 2048 := by
        by_cases h2 : 2048 ≤ s.top - n
        · rw [if_pos h2] at hm; cases hm
        · omega
      rw [has_set s h.ok n m h0 hn, Bool.or_eq_true, h.has hc.1 m h0 hle' hd', List.mem_cons, decide_eq_true_iff]
      constructor
      · rintro (e | e)
        · left; omega
        · exact .inr e
      · rintro (e | e)
        · left; rw [e]
        · exact .inr e
  · rw [if_neg hc, if_neg hc]
    have hlt : s.any = true → s.top < n := fun ha => by
      by_cases h' : s.top < n
      · exact h'
      · exact absurd ⟨ha, by omega⟩ hc
    obtain ⟨r1, r2, r3, r4⟩ := rise_has s h n hlt
    refine ⟨⟨set_ok _ r1 _, r3, by show 0 ≤ (s.rise n).top; rw [r2]; exact hn, fun _ => by show (s.rise n).top ∈ _; rw [r2]; exact List.mem_cons_self, ?_, ?_⟩, r2⟩
    · intro m hmem
      show 0 ≤ m ∧ m ≤ (s.rise n).top
      rw [r2]
      rcases List.mem_cons.1 hmem with e | e
      · subst e; exact ⟨hn, Int.le_refl _⟩
      · have := h.le m e
        have ha : s.any = true := by
          rw [h.any]; cases L with
          | nil => simp at e
          | cons a r => rfl
        have := hlt ha
        omega
    · intro _ m h0 hle hd
      have hle' : m ≤ (s.rise n).top := hle
      have hd' : (s.rise n).top - m < 2048 := hd
      rw [r2] at hle' hd'
      rw [has_set _ r1 n m h0 hn, Bool.or_eq_true, List.mem_cons, decide_eq_true_iff]
      by_cases e : m = n
      · simp [e]
      · have : m % 2048 ≠ n % 2048 := by omega
        simp only [this, e, false_or]
        exact r4 m h0 (by omega) hd'
theorem take_no (s : PW) (n : Int) (hm : s.may n = false) : s.take n = s := by rw [PW.take, hm]; rfl
end Go.Proofs.Ytebabmpmhihijaa
