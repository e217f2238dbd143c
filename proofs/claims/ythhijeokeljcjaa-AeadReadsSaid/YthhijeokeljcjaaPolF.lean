/- poly: the sum of any bytes, in parts. -/
import Derived.Test.YthhijeokeljcjaaPolE
import Derived.Test.YthhijeokeljcjaaCat
import Derived.Test.YthhijeokeljcjaaCopy
namespace Go.Proofs.Ythhijeokeljcjaa
set_option linter.unusedVariables false
set_option linter.unusedSimpArgs false
open Go.RowKit Go.Proofs.YthhijeokeljcjaaL

abbrev A32 : Nat := 22
abbrev A24 : Nat := 62
abbrev A16 : Nat := 40
def rA (key : List Int) : Int := bits .and .u64 (numB 256 (key.take 8)) 1152921487695413247
def rB (key : List Int) : Int := bits .and .u64 (numB 256 ((key.drop 8).take 8)) 1152921487695413244
def keyR (key : List Int) : Int := rA key + B64 * rB key
def polyV (R : Int) (bs : List Int) : Nat → Int
  | 0 => 0
  | k + 1 => ((polyV R bs k + numB 256 ((bs.drop (16 * k)).take 16 ++ [1])) * R) % PP
def tagV (key bs : List Int) : Int := polyV (keyR key) bs ((bs.length + 15) / 16) + numB 256 (key.drop 16)
theorem and_range (x m : Int) (h0 : 0 ≤ x) (h1 : x < 18446744073709551616) (hm0 : 0 ≤ m) (hm1 : m < 18446744073709551616) : 0 ≤ bits .and .u64 x m ∧ bits .and .u64 x m ≤ m := by
  rw [u64_and x m h0 h1 hm0 hm1]
  have : x.toNat &&& m.toNat ≤ m.toNat := Nat.and_le_right
  omega
theorem num8 {xs : List Int} (h : okB 256 xs) : 0 ≤ numB 256 (xs.take 8) ∧ numB 256 (xs.take 8) < 18446744073709551616 := by
  have h1 := numB_range (B := 256) (by decide) (xs.take 8) (fun x hx => h x (List.mem_of_mem_take hx))
  have h2 : (256 : Int) ^ (xs.take 8).length ≤ 256 ^ 8 := ipow_le (by decide) (by rw [List.length_take]; omega)
  have h3 : (256 : Int) ^ 8 = 18446744073709551616 := by decide
  omega
theorem ok_drop {B : Int} {xs : List Int} (h : okB B xs) (n : Nat) : okB B (xs.drop n) := fun x hx => h x (List.mem_of_mem_drop hx)
theorem keyR_range {key : List Int} (h : okB 256 key) : (0 ≤ rA key ∧ rA key < B64) ∧ (0 ≤ rB key ∧ rB key < B64) ∧ 0 ≤ keyR key ∧ keyR key < 21267647932558653966460912964485513216 := by
  have a := num8 h
  have b := num8 (ok_drop h 8)
  have h1 := and_range _ 1152921487695413247 a.1 a.2 (by decide) (by decide)
  have h2 := and_range _ 1152921487695413244 b.1 b.2 (by decide) (by decide)
  have e : B64 = 18446744073709551616 := rfl
  unfold keyR rA rB
  rw [e]
  omega
theorem polyV_range (R : Int) (bs : List Int) (k : Nat) : 0 ≤ polyV R bs k ∧ polyV R bs k < PP := by
  cases k with
  | zero => exact ⟨Int.le_refl _, (by show (0 : Int) < PP; decide)⟩
  | succ k => exact ⟨Int.emod_nonneg _ (by decide), Int.emod_lt_of_pos _ (by decide)⟩
theorem own_rd {k : IntKind} {w : World} {base e n : Nat} {v : Value} {xs : List Int} (h : w.ownsRow base e 1 v n (xs.map (Value.int k))) : ∃ ad cap, v = .slice ad n cap ∧ Rd k w ad n xs ∧ n ≤ cap ∧ cap ≤ maxLen ∧ ∀ x, ad = some x → base ≤ x.block := by
  have hl : xs.length = n := by have := h.1; rw [List.length_map] at this; omega
  rcases h.2 with ⟨rfl, rfl⟩ | ⟨g, cap, cur, rfl, hb, hg, hn, hm, hc, ht⟩
  · exact ⟨none, 0, rfl, ⟨hl, fun i hi => by omega⟩, Nat.le_refl _, (by unfold maxLen; omega), fun x hx => by cases hx⟩
  · refine ⟨some ⟨g, 0, none⟩, cap, rfl, ⟨hl, fun i hi => ⟨_, rfl, ?_⟩⟩, hn, hm, fun x hx => by injection hx with hx; rw [← hx]; exact hb⟩
    rw [Addr.add_mid, Nat.zero_add]
    refine row_cell hg i _ ?_
    have h2 : (cur.toList.take (n * 1))[i]? = (xs.map (Value.int k))[i]? := by rw [ht]
    rw [List.getElem?_take, if_pos (by omega), List.getElem?_map, List.getElem?_eq_getElem (show i < xs.length by omega)] at h2
    rw [← Array.getElem?_toList, h2, List.getD_eq_getElem?_getD, List.getElem?_eq_getElem (show i < xs.length by omega)]
    rfl
/-- A block of 24 bytes in three halves. -/
theorem num24 (s : List Int) (h : s.length = 24) : numB B64 [numB 256 (s.take 8), numB 256 ((s.drop 8).take 8), numB 256 ((s.drop 16).take 8)] = numB 256 s := by
  have h1 := numB_append 256 (s.take 8) (s.drop 8)
  have h2 := numB_append 256 ((s.drop 8).take 8) ((s.drop 8).drop 8)
  rw [List.take_append_drop] at h1 h2
  rw [List.length_take, h] at h1
  rw [List.length_take, List.length_drop, h, List.drop_drop] at h2
  rw [List.take_of_length_le (l := s.drop 16) (by rw [List.length_drop, h]; decide)]
  rw [h1, h2]
  simp only [numB, Int.mul_zero, Int.add_zero]
  rfl
theorem num_zeros (s : List Int) (n : Nat) : numB 256 (s ++ List.replicate n 0) = numB 256 s := by
  have : ∀ n, numB 256 (List.replicate n 0) = 0 := by
    intro n
    induction n with
    | zero => rfl
    | succ n ih => rw [List.replicate_succ, numB, ih]; rfl
  rw [numB_append, this, Int.mul_zero, Int.add_zero]
theorem poly_step {H N R V : Int} (hH0 : 0 ≤ H) (hH1 : H < 1786482426334926933182716689016783110144) (hN0 : 0 ≤ N) (hN1 : N < 680564733841876926926749214863536422912) (hR0 : 0 ≤ R) (hR1 : R < 21267647932558653966460912964485513216) (hV : H % PP = V) :
    0 ≤ foldI ((H + N) * R % B64 ^ 4) ∧ foldI ((H + N) * R % B64 ^ 4) < 1786482426334926933182716689016783110144 ∧ foldI ((H + N) * R % B64 ^ 4) % PP = (V + N) * R % PP := by
  have h0 : 0 ≤ (H + N) * R := Int.mul_nonneg (by omega) hR0
  have h1 : (H + N) * R ≤ 2722258935367507707706996859454145691648 * 21267647932558653966460912964485513216 := Int.mul_le_mul (by omega) (by omega) hR0 (by decide)
  have h2 : (H + N) * R < B64 ^ 4 := Int.lt_of_le_of_lt h1 (by decide)
  rw [Int.emod_eq_of_lt h0 h2]
  have h3 := foldI_range h0 h2
  refine ⟨h3.1, h3.2, ?_⟩
  rw [foldI_mod, ← hV, Int.mul_emod, Int.mul_emod (H % PP + N), Int.emod_add_emod]
theorem catB_ok : ∀ {L : List Bs}, (∀ b ∈ L, okB 256 b.xs) → okB 256 (catB L)
  | [], _ => fun x hx => by cases hx
  | b :: r, h => fun x hx => by
    rcases List.mem_append.1 hx with hx | hx
    · exact h b (by simp) x hx
    · exact catB_ok (L := r) (fun c hc => h c (by simp [hc])) x hx
theorem add_block (a : Addr) (i : Nat) : (a.add i).block = a.block := by unfold Addr.add; split <;> rfl
theorem rd_off {k : IntKind} {w w' : World} {ad : Option Addr} {n q : Nat} {xs : List Int} (h : Rd k w ad n xs) (hq : ∀ x, ad = some x → q < x.block) (g : w.grownBy w' (some q)) : Rd k w' ad n xs :=
  ⟨h.1, fun i hi => by
    obtain ⟨x, hx, hc⟩ := h.2 i hi
    have hb := hq x hx
    have hxb : (x.add i).block = x.block := add_block x i
    exact ⟨x, hx, g.cell hc (by rw [hxb]; intro e; injection e; omega)⟩⟩
theorem subAt_block {ad : Option Addr} {q : Nat} (h : ∀ x, ad = some x → q < x.block) (l m : Nat) : ∀ x, subAt ad l m = some x → q < x.block := fun x hx => by
  unfold subAt at hx
  split at hx
  · exact h x hx
  · cases ad with
    | none => cases hx
    | some y =>
      have : y.add (l * 1) = x := Option.some.inj hx
      rw [← this, add_block]; exact h y rfl
theorem tail_parts {key : List Int} (h : key.length = 32) : numB 256 (key.drop 16) = numB 256 ((key.drop 16).take 8) + B64 * numB 256 ((key.drop 24).take 8) := by
  have h1 := numB_append 256 ((key.drop 16).take 8) ((key.drop 16).drop 8)
  rw [List.take_append_drop, List.length_take, List.length_drop, h, List.drop_drop] at h1
  rw [List.take_of_length_le (l := key.drop 24) (by rw [List.length_drop, h]; decide)]
  exact h1
theorem digB_add (B : Int) (hB : 0 < B) : ∀ (m n : Nat) (v : Int), digB B (m + n) v = digB B m v ++ digB B n (v / B ^ m)
  | 0, n, v => by simp [digB]
  | m + 1, n, v => by
    rw [show m + 1 + n = (m + n) + 1 by omega, digB, digB_add B hB m n (v / B), digB, List.cons_append, Int.ediv_ediv_of_nonneg (by omega), ← Int.pow_succ']
theorem limb_byte (T : Int) (j : Nat) (hj : j < 8) : T % B64 / 2 ^ (8 * j) % 256 = T / 256 ^ j % 256 := by
  have h1 := digB_at (B := 256) (by decide) 8 (T % 256 ^ 8) j hj
  rw [digB_mod (by decide), digB_at (by decide) 8 T j hj] at h1
  rw [h1, show (2 : Int) ^ (8 * j) = 256 ^ j by rw [Int.pow_mul]; rfl]
  rfl
def halfL (j : Nat) (v : Int) : List Int := digB 256 j v ++ List.replicate (8 - j) 0
theorem length_halfL (j : Nat) (v : Int) (h : j ≤ 8) : (halfL j v).length = 8 := by rw [halfL, List.length_append, length_digB, List.length_replicate]; omega
theorem halfL_set (j : Nat) (v : Int) (h : j < 8) : (halfL j v).set j (v / 256 ^ j % 256) = halfL (j + 1) v := digB_set 256 (by decide) j 8 v h
theorem halfL_8 (v : Int) : halfL 8 v = digB 256 8 v := by rw [halfL]; exact List.append_nil _
end Go.Proofs.Ythhijeokeljcjaa
