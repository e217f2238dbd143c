/- Numbers written in digits, the lowest first. Plain Lean. -/
import Derived.Test.YtmankjhopfilaaaLib
import Derived.Laws.BitsAllLaws
namespace Go.Proofs.YtmankjhopfilaaaL
set_option linter.unusedVariables false
set_option linter.unusedSimpArgs false
/-- The number of these digits. -/
def numB (B : Int) : List Int → Int
  | [] => 0
  | x :: r => x + B * numB B r
/-- The lowest n digits of v. -/
def digB (B : Int) : Nat → Int → List Int
  | 0, _ => []
  | n + 1, v => v % B :: digB B n (v / B)
/-- Digits below B. -/
def okB (B : Int) (s : List Int) : Prop := ∀ x ∈ s, 0 ≤ x ∧ x < B
theorem length_digB (B : Int) : ∀ (n : Nat) (v : Int), (digB B n v).length = n
  | 0, _ => rfl
  | n + 1, v => by rw [digB, List.length_cons, length_digB B n]
theorem ok_digB {B : Int} (hB : 0 < B) : ∀ (n : Nat) (v : Int), okB B (digB B n v)
  | 0, _ => fun x hx => by cases hx
  | n + 1, v => fun x hx => by
    rcases List.mem_cons.1 hx with rfl | h
    · exact ⟨Int.emod_nonneg _ (by omega), Int.emod_lt_of_pos _ hB⟩
    · exact ok_digB hB n _ x h
theorem numB_range {B : Int} (hB : 0 < B) : ∀ (s : List Int), okB B s → 0 ≤ numB B s ∧ numB B s < B ^ s.length
  | [], _ => by simp [numB]
  | x :: r, h => by
    have hx := h x (by simp)
    have ih := numB_range hB r (fun y hy => h y (by simp [hy]))
    rw [numB, List.length_cons, Int.pow_succ]
    have h1 : 0 ≤ B * numB B r := Int.mul_nonneg (by omega) ih.1
    have h2 : B * (numB B r + 1) ≤ B * B ^ r.length := Int.mul_le_mul_of_nonneg_left (by omega) (by omega)
    rw [Int.mul_add, Int.mul_one] at h2
    rw [Int.mul_comm (B ^ r.length) B]
    exact ⟨by omega, by omega⟩
theorem emod_mul' {B C v : Int} (hB : 0 < B) (hC : 0 < C) : v % (B * C) = v % B + B * (v / B % C) := by
  have h1 := Int.emod_add_mul_ediv v B
  have h2 := Int.emod_add_mul_ediv (v / B) C
  have h3 := Int.emod_nonneg v (show B ≠ 0 by omega)
  have h4 := Int.emod_lt_of_pos v hB
  have h5 := Int.emod_nonneg (v / B) (show C ≠ 0 by omega)
  have h6 := Int.emod_lt_of_pos (v / B) hC
  have e : v = (v % B + B * (v / B % C)) + B * C * (v / B / C) := by
    have : B * (v / B) = B * (v / B % C) + B * (C * (v / B / C)) := by rw [← Int.mul_add, h2]
    rw [Int.mul_assoc]
    omega
  have lo : 0 ≤ v % B + B * (v / B % C) := by
    have := Int.mul_nonneg (show 0 ≤ B by omega) h5
    omega
  have hi : v % B + B * (v / B % C) < B * C := by
    have : B * (v / B % C + 1) ≤ B * C := Int.mul_le_mul_of_nonneg_left (by omega) (by omega)
    rw [Int.mul_add, Int.mul_one] at this
    omega
  rw [e, Int.add_mul_emod_self_left, Int.emod_eq_of_lt lo hi, ← e]
theorem numB_digB {B : Int} (hB : 0 < B) : ∀ (n : Nat) (v : Int), numB B (digB B n v) = v % B ^ n
  | 0, v => by simp [digB, numB, Int.emod_one]
  | n + 1, v => by
    rw [digB, numB, numB_digB hB n, Int.pow_succ, Int.mul_comm (B ^ n) B, emod_mul' hB (Int.pow_pos hB)]
theorem digB_numB {B : Int} (hB : 0 < B) : ∀ (s : List Int), okB B s → digB B s.length (numB B s) = s
  | [], _ => rfl
  | x :: r, h => by
    have hx := h x (by simp)
    have ih := digB_numB hB r (fun y hy => h y (by simp [hy]))
    have e1 : (x + B * numB B r) % B = x := by rw [Int.add_mul_emod_self_left, Int.emod_eq_of_lt hx.1 hx.2]
    have e2 : (x + B * numB B r) / B = numB B r := by rw [Int.add_mul_ediv_left _ _ (by omega), Int.ediv_eq_zero_of_lt hx.1 hx.2, Int.zero_add]
    rw [List.length_cons, numB, digB, e1, e2, ih]
theorem digB_at {B : Int} (hB : 0 < B) : ∀ (n : Nat) (v : Int) (i : Nat), i < n → (digB B n v).getD i 0 = v / B ^ i % B
  | n + 1, v, 0, _ => by simp [digB]
  | n + 1, v, i + 1, h => by
    have ih := digB_at hB n (v / B) i (by omega)
    rw [digB, List.getD_cons_succ, ih, Int.pow_succ, Int.mul_comm (B ^ i) B, Int.ediv_ediv_of_nonneg (by omega)]
theorem digB_mod {B : Int} (hB : 0 < B) (n : Nat) (v : Int) : digB B n (v % B ^ n) = digB B n v := by
  have h := digB_numB hB (digB B n v) (ok_digB hB n v)
  rw [length_digB, numB_digB hB] at h
  exact h
theorem numB_append (B : Int) : ∀ (s t : List Int), numB B (s ++ t) = numB B s + B ^ s.length * numB B t
  | [], t => by simp [numB]
  | x :: r, t => by
    rw [List.cons_append, numB, numB, numB_append B r t, List.length_cons, Int.pow_succ, Int.mul_add, Int.mul_comm (B ^ r.length) B, Int.mul_assoc, Int.add_assoc]
theorem numB_inj {B : Int} (hB : 0 < B) {s t : List Int} (hl : s.length = t.length) (hs : okB B s) (ht : okB B t) (h : numB B s = numB B t) : s = t := by
  rw [← digB_numB hB s hs, ← digB_numB hB t ht, h, hl]
/-! Adding and taking away, digit by digit. -/
theorem take_next (a : List Int) (k : Nat) (hk : k < a.length) : a.take (k + 1) = a.take k ++ [a.getD k 0] := by
  rw [List.take_add_one, List.getD_eq_getElem?_getD, List.getElem?_eq_getElem hk]; rfl
theorem numB_next (B : Int) (a : List Int) (k : Nat) (hk : k < a.length) : numB B (a.take (k + 1)) = numB B (a.take k) + B ^ k * a.getD k 0 := by
  rw [take_next a k hk, numB_append, List.length_take, Nat.min_eq_left (by omega)]
  simp [numB]
def carry (B : Int) (a b : List Int) : Nat → Int
  | 0 => 0
  | k + 1 => (a.getD k 0 + b.getD k 0 + carry B a b k) / B
def sumAt (B : Int) (a b : List Int) (k : Nat) : Int := (a.getD k 0 + b.getD k 0 + carry B a b k) % B
def sums (B : Int) (a b : List Int) (k : Nat) : List Int := (List.range k).map (sumAt B a b)
theorem length_sums (B : Int) (a b : List Int) (k : Nat) : (sums B a b k).length = k := by simp [sums]
theorem sums_next (B : Int) (a b : List Int) (k : Nat) : sums B a b (k + 1) = sums B a b k ++ [sumAt B a b k] := by simp [sums, List.range_succ]
theorem ok_getD {B : Int} (hB : 0 < B) {s : List Int} (h : okB B s) (i : Nat) : 0 ≤ s.getD i 0 ∧ s.getD i 0 < B := by
  rw [List.getD_eq_getElem?_getD]
  cases hs : s[i]? with
  | none => exact ⟨Int.le_refl _, hB⟩
  | some x => exact h x (List.mem_of_getElem? hs)
theorem carry_range {B : Int} (hB : 1 < B) {a b : List Int} (ha : okB B a) (hb : okB B b) : ∀ k, 0 ≤ carry B a b k ∧ carry B a b k ≤ 1
  | 0 => by simp [carry]
  | k + 1 => by
    have h1 := ok_getD (by omega) ha k
    have h2 := ok_getD (by omega) hb k
    have h3 := carry_range hB ha hb k
    rw [carry]
    refine ⟨Int.ediv_nonneg (by omega) (by omega), ?_⟩
    have : (a.getD k 0 + b.getD k 0 + carry B a b k) / B < 2 := Int.ediv_lt_of_lt_mul (by omega) (by omega)
    omega
theorem sums_num {B : Int} (hB : 1 < B) (a b : List Int) (n : Nat) (ha : a.length = n) (hb : b.length = n) : ∀ k, k ≤ n → numB B (sums B a b k) + B ^ k * carry B a b k = numB B (a.take k) + numB B (b.take k)
  | 0, _ => by simp [sums, numB, carry]
  | k + 1, hk => by
    have ih := sums_num hB a b n ha hb k (by omega)
    have hd := Int.emod_add_mul_ediv (a.getD k 0 + b.getD k 0 + carry B a b k) B
    rw [sums_next, numB_append, length_sums, numB_next B a k (by omega), numB_next B b k (by omega), Int.pow_succ, carry, sumAt]
    simp only [numB, Int.mul_zero, Int.add_zero]
    obtain ⟨C, hC⟩ : ∃ C, C = carry B a b k := ⟨_, rfl⟩
    rw [← hC] at ih hd ⊢
    obtain ⟨s, hs⟩ : ∃ s, s = a.getD k 0 + b.getD k 0 + C := ⟨_, rfl⟩
    have hab : B ^ k * a.getD k 0 + B ^ k * b.getD k 0 = B ^ k * s - B ^ k * C := by rw [hs, Int.mul_add, Int.mul_add]; omega
    rw [← hs] at hd ⊢
    have hsum : B ^ k * (s % B) + B ^ k * B * (s / B) = B ^ k * s := by rw [Int.mul_assoc, ← Int.mul_add, hd]
    omega
theorem ok_sums {B : Int} (hB : 0 < B) (a b : List Int) (k : Nat) : okB B (sums B a b k) := by
  intro x hx
  obtain ⟨i, -, rfl⟩ := List.mem_map.1 hx
  exact ⟨Int.emod_nonneg _ (by omega), Int.emod_lt_of_pos _ hB⟩
/-- The digits of a sum, and its carry. -/
theorem sums_eq {B : Int} (hB : 1 < B) {a b : List Int} {n : Nat} (ha : a.length = n) (hb : b.length = n) :
    sums B a b n = digB B n (numB B a + numB B b) ∧ carry B a b n = (numB B a + numB B b) / B ^ n := by
  have h := sums_num hB a b n ha hb n (Nat.le_refl _)
  rw [List.take_of_length_le (by omega), List.take_of_length_le (by omega)] at h
  have hr := numB_range (show 0 < B by omega) _ (ok_sums (show 0 < B by omega) a b n)
  rw [length_sums] at hr
  have hp : 0 < B ^ n := Int.pow_pos (by omega)
  constructor
  · have h1 := digB_numB (show 0 < B by omega) _ (ok_sums (show 0 < B by omega) a b n)
    rw [length_sums] at h1
    rw [← h1, ← digB_mod (by omega) n (numB B a + numB B b), ← h, Int.add_mul_emod_self_left, Int.emod_eq_of_lt hr.1 hr.2]
  · rw [← h, Int.add_mul_ediv_left _ _ (by omega), Int.ediv_eq_zero_of_lt hr.1 hr.2, Int.zero_add]
def borrow (B : Int) (a b : List Int) : Nat → Int
  | 0 => 0
  | k + 1 => if a.getD k 0 < b.getD k 0 + borrow B a b k then 1 else 0
def difAt (B : Int) (a b : List Int) (k : Nat) : Int := (a.getD k 0 + B - b.getD k 0 - borrow B a b k) % B
def difs (B : Int) (a b : List Int) (k : Nat) : List Int := (List.range k).map (difAt B a b)
theorem length_difs (B : Int) (a b : List Int) (k : Nat) : (difs B a b k).length = k := by simp [difs]
theorem difs_next (B : Int) (a b : List Int) (k : Nat) : difs B a b (k + 1) = difs B a b k ++ [difAt B a b k] := by simp [difs, List.range_succ]
theorem borrow_range (B : Int) (a b : List Int) : ∀ k, 0 ≤ borrow B a b k ∧ borrow B a b k ≤ 1
  | 0 => by simp [borrow]
  | k + 1 => by rw [borrow]; split <;> omega
theorem ok_difs {B : Int} (hB : 0 < B) (a b : List Int) (k : Nat) : okB B (difs B a b k) := by
  intro x hx
  obtain ⟨i, -, rfl⟩ := List.mem_map.1 hx
  exact ⟨Int.emod_nonneg _ (by omega), Int.emod_lt_of_pos _ hB⟩
theorem difAt_eq {B : Int} (hB : 1 < B) {a b : List Int} (ha : okB B a) (hb : okB B b) (k : Nat) : difAt B a b k = a.getD k 0 - b.getD k 0 - borrow B a b k + B * borrow B a b (k + 1) := by
  have h1 := ok_getD (by omega) ha k
  have h2 := ok_getD (by omega) hb k
  have h3 := borrow_range B a b k
  rw [difAt, borrow]
  split
  · rw [Int.emod_eq_of_lt (by omega) (by omega)]; omega
  · rw [show a.getD k 0 + B - b.getD k 0 - borrow B a b k = (a.getD k 0 - b.getD k 0 - borrow B a b k) + B * 1 by omega, Int.add_mul_emod_self_left, Int.emod_eq_of_lt (by omega) (by omega)]; omega
theorem difs_num {B : Int} (hB : 1 < B) {a b : List Int} {n : Nat} (ha : a.length = n) (hb : b.length = n) (hoa : okB B a) (hob : okB B b) : ∀ k, k ≤ n → numB B (difs B a b k) - B ^ k * borrow B a b k = numB B (a.take k) - numB B (b.take k)
  | 0, _ => by simp [difs, numB, borrow]
  | k + 1, hk => by
    have ih := difs_num hB ha hb hoa hob k (by omega)
    have hd := difAt_eq hB hoa hob k
    rw [difs_next, numB_append, length_difs, numB_next B a k (by omega), numB_next B b k (by omega), Int.pow_succ]
    simp only [numB, Int.mul_zero, Int.add_zero]
    rw [hd, Int.mul_add, Int.mul_sub, Int.mul_sub, ← Int.mul_assoc]
    omega
/-- The digits of a difference, and whether it is below 0. -/
theorem difs_eq {B : Int} (hB : 1 < B) {a b : List Int} {n : Nat} (ha : a.length = n) (hb : b.length = n) (hoa : okB B a) (hob : okB B b) :
    difs B a b n = digB B n (numB B a - numB B b) ∧ borrow B a b n = if numB B a < numB B b then 1 else 0 := by
  have h := difs_num hB ha hb hoa hob n (Nat.le_refl _)
  rw [List.take_of_length_le (by omega), List.take_of_length_le (by omega)] at h
  have hr := numB_range (show 0 < B by omega) _ (ok_difs (show 0 < B by omega) a b n)
  rw [length_difs] at hr
  have hp : 0 < B ^ n := Int.pow_pos (by omega)
  constructor
  · have h1 := digB_numB (show 0 < B by omega) _ (ok_difs (show 0 < B by omega) a b n)
    rw [length_difs] at h1
    rw [← h1, ← digB_mod (by omega) n (numB B a - numB B b), ← h, Int.sub_eq_add_neg, ← Int.mul_neg, Int.add_mul_emod_self_left, Int.emod_eq_of_lt hr.1 hr.2]
  · have hbr := borrow_range B a b n
    have hra := numB_range (show 0 < B by omega) a hoa
    have hrb := numB_range (show 0 < B by omega) b hob
    have hcase : borrow B a b n = 0 ∨ borrow B a b n = 1 := by omega
    rcases hcase with h0 | h0
    · rw [h0] at h ⊢
      rw [if_neg (by omega)]
    · rw [h0] at h ⊢
      rw [if_pos (by omega)]
/-! Digits of digits. -/
theorem digB_next (B : Int) (hB : 0 < B) : ∀ (n : Nat) (v : Int), digB B (n + 1) v = digB B n v ++ [v / B ^ n % B]
  | 0, v => by simp [digB]
  | n + 1, v => by
    rw [digB, digB_next B hB n (v / B), digB, List.cons_append, Int.ediv_ediv_of_nonneg (by omega), ← Int.pow_succ']
theorem numB_digit {b : Int} (hb : 1 < b) (m : Nat) (hm : 0 < m) : ∀ (a : List Int) (k : Nat), okB (b ^ m) a → numB (b ^ m) a / b ^ k % b = (a.getD (k / m) 0) / b ^ (k % m) % b
  | [], k, _ => by simp [numB]
  | x :: r, k, h => by
    have hx := h x (by simp)
    have hr : okB (b ^ m) r := fun y hy => h y (by simp [hy])
    by_cases hk : k < m
    · rw [Nat.div_eq_of_lt hk, Nat.mod_eq_of_lt hk, List.getD_cons_zero, numB]
      have e : b ^ m = b ^ k * (b * b ^ (m - k - 1)) := by
        rw [← Int.pow_succ', ← Int.pow_add]; congr 1; omega
      have hp : b ^ k ≠ 0 := by have := Int.pow_pos (n := b) (m := k) (by omega); omega
      rw [show x + b ^ m * numB (b ^ m) r = x + b ^ k * (b * (b ^ (m - k - 1) * numB (b ^ m) r)) by rw [← Int.mul_assoc b, ← Int.mul_assoc (b ^ k), ← e], Int.add_mul_ediv_left _ _ hp, Int.add_mul_emod_self_left]
    · have h1 : k / m = (k - m) / m + 1 := by
        have := Nat.add_div_right (k - m) hm
        rw [show k - m + m = k by omega] at this
        exact this
      have h2 : k % m = (k - m) % m := by
        have := Nat.add_mod_right (k - m) m
        rw [show k - m + m = k by omega] at this
        exact this
      rw [h1, h2, List.getD_cons_succ, ← numB_digit hb m hm r (k - m) hr, numB]
      have hp : 0 < b ^ m := Int.pow_pos (by omega)
      have e : b ^ k = b ^ m * b ^ (k - m) := by rw [← Int.pow_add]; congr 1; omega
      rw [e, ← Int.ediv_ediv_of_nonneg (by omega), Int.add_mul_ediv_left _ _ (by omega), Int.ediv_eq_zero_of_lt hx.1 hx.2, Int.zero_add]
/-- A digit raised, with no carry. -/
theorem digB_put {B : Int} (hB : 1 < B) : ∀ (n q : Nat) (N y : Int), q < n → 0 ≤ N → 0 ≤ y → N / B ^ q + y < B → digB B n (N + B ^ q * y) = (digB B n N).set q (N / B ^ q + y)
  | n + 1, 0, N, y, _, hN, hy, h => by
    simp only [Int.pow_zero, Int.ediv_one, Int.one_mul] at h ⊢
    rw [digB, digB, List.set_cons_zero, Int.emod_eq_of_lt (by omega) h, Int.ediv_eq_zero_of_lt (by omega) h, Int.ediv_eq_zero_of_lt hN (by omega)]
  | n + 1, q + 1, N, y, hq, hN, hy, h => by
    have e : N / B ^ (q + 1) = N / B / B ^ q := by rw [Int.ediv_ediv_of_nonneg (by omega), ← Int.pow_succ']
    rw [e] at h ⊢
    have ih := digB_put hB n q (N / B) y (by omega) (Int.ediv_nonneg hN (by omega)) hy h
    rw [digB, digB, List.set_cons_succ, ← ih, show N + B ^ (q + 1) * y = N + B * (B ^ q * y) by rw [← Int.mul_assoc, ← Int.pow_succ'], Int.add_mul_emod_self_left, Int.add_mul_ediv_left _ _ (by omega)]
theorem u64_or_add (x z : Int) (m : Nat) (hx : 0 ≤ x) (hx1 : x < 2 ^ m) (hx2 : x < 18446744073709551616) (hz : 0 ≤ z) (hy : z * 2 ^ m < 18446744073709551616) : bits .or .u64 x (z * 2 ^ m) = x + z * 2 ^ m := by
  have hp : (0 : Int) ≤ 2 ^ m := Int.le_of_lt (Int.pow_pos (by decide))
  have hzm := Int.mul_nonneg hz hp
  rw [u64_or x (z * 2 ^ m) hx hx2 hzm hy]
  obtain ⟨X, rfl⟩ := Int.eq_ofNat_of_zero_le hx
  obtain ⟨Z, rfl⟩ := Int.eq_ofNat_of_zero_le hz
  have e1 : ((Z : Int) * 2 ^ m).toNat = 2 ^ m * Z := by
    rw [show ((Z : Int) * 2 ^ m) = ((2 ^ m * Z : Nat) : Int) by rw [Nat.mul_comm]; simp]; rfl
  have h1 : X < 2 ^ m := by
    have : (X : Int) < ((2 ^ m : Nat) : Int) := by simpa using hx1
    omega
  rw [e1, Int.toNat_natCast, Nat.or_comm, ← Nat.two_pow_add_eq_or_of_lt h1]
  simp; rw [Int.mul_comm]; omega
/-- The digits below the k-th. -/
theorem numB_take_range {b : Int} (hb : 1 < b) {a : List Int} (h : okB b a) (k : Nat) (hk : k ≤ a.length) : 0 ≤ numB b (a.take k) ∧ numB b (a.take k) < b ^ k := by
  have := numB_range (show 0 < b by omega) (a.take k) (fun x hx => h x (List.mem_of_mem_take hx))
  rw [List.length_take, Nat.min_eq_left hk] at this
  exact this
theorem ipow_le {b : Int} (hb : 1 ≤ b) {m n : Nat} (h : m ≤ n) : b ^ m ≤ b ^ n := by
  have h1 : 0 < b ^ m := Int.pow_pos (by omega)
  have h2 : 0 < b ^ (n - m) := Int.pow_pos (by omega)
  have h3 : b ^ n = b ^ m * b ^ (n - m) := by rw [← Int.pow_add]; congr 1; omega
  have h4 : b ^ m * 1 ≤ b ^ m * b ^ (n - m) := Int.mul_le_mul_of_nonneg_left (by omega) (by omega)
  rw [h3]; omega
/-- A little digit laid into the great ones. -/
theorem digB_lay {b : Int} (hb : 1 < b) (m : Nat) (hm : 0 < m) {a : List Int} (h : okB b a) (n k : Nat) (hk : k < a.length) (hn : k / m < n) :
    (digB (b ^ m) n (numB b (a.take k))).set (k / m) ((digB (b ^ m) n (numB b (a.take k))).getD (k / m) 0 + a.getD k 0 * b ^ (k % m)) = digB (b ^ m) n (numB b (a.take (k + 1))) ∧
    0 ≤ (digB (b ^ m) n (numB b (a.take k))).getD (k / m) 0 ∧ (digB (b ^ m) n (numB b (a.take k))).getD (k / m) 0 < b ^ (k % m) ∧ a.getD k 0 * b ^ (k % m) < b ^ m := by
  have hN := numB_take_range hb h k (by omega)
  have hc := ok_getD (show 0 < b by omega) h k
  have hB : 1 < b ^ m := by
    have : b ^ 1 ≤ b ^ m := ipow_le (by omega) hm
    rw [Int.pow_one] at this; omega
  have hkk : k = m * (k / m) + k % m := (Nat.div_add_mod k m).symm
  have hr := Nat.mod_lt k hm
  obtain ⟨q, hq⟩ : ∃ q, q = k / m := ⟨_, rfl⟩
  obtain ⟨r, hr'⟩ : ∃ r, r = k % m := ⟨_, rfl⟩
  rw [← hq] at hkk hn ⊢
  rw [← hr'] at hkk hr ⊢
  obtain ⟨N, hNN⟩ : ∃ N, N = numB b (a.take k) := ⟨_, rfl⟩
  rw [numB_next b a k hk]
  rw [← hNN] at hN ⊢
  obtain ⟨c, hcc⟩ : ∃ c, c = a.getD k 0 := ⟨_, rfl⟩
  rw [← hcc] at hc ⊢
  have e1 : b ^ k = (b ^ m) ^ q * b ^ r := by rw [← Int.pow_mul, ← Int.pow_add, ← hkk]
  have hbq : 0 < (b ^ m) ^ q := Int.pow_pos (by omega)
  have hbr : 0 < b ^ r := Int.pow_pos (by omega)
  have hlo : 0 ≤ N / (b ^ m) ^ q := Int.ediv_nonneg hN.1 (by omega)
  have hhi : N / (b ^ m) ^ q < b ^ r := Int.ediv_lt_of_lt_mul hbq (by rw [Int.mul_comm, ← e1]; exact hN.2)
  have hle : b ^ (r + 1) ≤ b ^ m := ipow_le (by omega) hr
  have hcr : (c + 1) * b ^ r ≤ b ^ (r + 1) := by
    rw [Int.pow_succ']
    exact Int.mul_le_mul_of_nonneg_right (by omega) (by omega)
  rw [Int.add_mul, Int.one_mul] at hcr
  have hc0 : 0 ≤ c * b ^ r := Int.mul_nonneg hc.1 (by omega)
  have hdig : (digB (b ^ m) n N).getD q 0 = N / (b ^ m) ^ q := by
    rw [digB_at (by omega) n N q hn, Int.emod_eq_of_lt hlo (by omega)]
  rw [hdig, ← digB_put hB n q N (c * b ^ r) hn hN.1 hc0 (by omega)]
  refine ⟨?_, hlo, hhi, by omega⟩
  rw [e1, Int.mul_assoc, Int.mul_comm (b ^ r) c]
theorem numB_set (B : Int) : ∀ (s : List Int) (k : Nat) (y : Int), k < s.length → numB B (s.set k y) = numB B s + B ^ k * (y - s.getD k 0)
  | x :: r, 0, y, _ => by simp [numB]; omega
  | x :: r, k + 1, y, h => by
    have ih := numB_set B r k y (by simpa using h)
    rw [List.set_cons_succ, numB, numB, List.getD_cons_succ, ih, Int.pow_succ', Int.mul_add, ← Int.mul_assoc, Int.add_assoc]
theorem ok_set {B : Int} {s : List Int} (h : okB B s) (k : Nat) (y : Int) (h0 : 0 ≤ y) (h1 : y < B) : okB B (s.set k y) := fun x hx => by
  rcases List.mem_or_eq_of_mem_set hx with hx | hx
  · exact h x hx
  · subst hx; exact ⟨h0, h1⟩
theorem drop_at (s : List Int) (k : Nat) (h : k < s.length) : s.drop k = s.getD k 0 :: s.drop (k + 1) := by
  rw [List.drop_eq_getElem_cons h, List.getD_eq_getElem?_getD, List.getElem?_eq_getElem h]; rfl
theorem sums_set (B : Int) (a b s : List Int) (k : Nat) (h : k < s.length) : (sums B a b k ++ s.drop k).set k (sumAt B a b k) = sums B a b (k + 1) ++ s.drop (k + 1) := by
  rw [drop_at s k h, List.set_append_right _ _ (by rw [length_sums]; omega), length_sums, Nat.sub_self, List.set_cons_zero, sums_next, List.append_assoc]; rfl
theorem difs_set (B : Int) (a b s : List Int) (k : Nat) (h : k < s.length) : (difs B a b k ++ s.drop k).set k (difAt B a b k) = difs B a b (k + 1) ++ s.drop (k + 1) := by
  rw [drop_at s k h, List.set_append_right _ _ (by rw [length_difs]; omega), length_difs, Nat.sub_self, List.set_cons_zero, difs_next, List.append_assoc]; rfl
theorem getD_app_drop (f s : List Int) (k : Nat) (hf : f.length = k) (h : k < s.length) : (f ++ s.drop k).getD k 0 = s.getD k 0 := by
  rw [List.getD_eq_getElem?_getD, List.getElem?_append_right (by omega), hf, Nat.sub_self, drop_at s k h]; rfl
end Go.Proofs.YtmankjhopfilaaaL
