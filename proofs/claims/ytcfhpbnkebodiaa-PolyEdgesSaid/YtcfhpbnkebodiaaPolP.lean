/- PolyClamps, walked. -/
import Derived.Test.YtcfhpbnkebodiaaPolO
namespace Go.Proofs.Ytcfhpbnkebodiaa
set_option linter.unusedVariables false
set_option linter.unusedSimpArgs false
open Go.RowKit Go.Proofs.YtcfhpbnkebodiaaL

theorem andB_set : ∀ (xs ms : List Int) (j : Nat) (y : Int), y.toNat &&& (ms.getD j 0).toNat = (xs.getD j 0).toNat &&& (ms.getD j 0).toNat → andB (xs.set j y) ms = andB xs ms
  | [], ms, j, y, h => rfl
  | x :: r, [], j, y, h => by cases j <;> rfl
  | x :: r, m :: s, 0, y, h => by
    rw [List.set_cons_zero, andB, andB]
    have : y.toNat &&& m.toNat = x.toNat &&& m.toNat := by simpa using h
    rw [this]
  | x :: r, m :: s, j + 1, y, h => by
    rw [List.set_cons_succ, andB, andB, andB_set r s j y (by simpa using h)]
theorem take_set2 {α : Type} : ∀ (xs : List α) (n j : Nat) (y : α), (xs.set j y).take n = (xs.take n).set j y
  | [], n, j, y => by simp
  | x :: r, 0, j, y => by simp
  | x :: r, n + 1, 0, y => by simp
  | x :: r, n + 1, j + 1, y => by simp [take_set2 r n j y]
theorem keyR_set {key : List Int} (j : Nat) (y : Int) (hk : key.length = 32) (hko : okB 256 key) (hy0 : 0 ≤ y) (hy1 : y < 256) (hj : j < 16)
    (h : y.toNat &&& (([255, 255, 255, 15, 252, 255, 255, 15, 252, 255, 255, 15, 252, 255, 255, 15] : List Int).getD j 0).toNat = (key.getD j 0).toNat &&& (([255, 255, 255, 15, 252, 255, 255, 15, 252, 255, 255, 15, 252, 255, 255, 15] : List Int).getD j 0).toNat) : keyR (key.set j y) = keyR key := by
  rw [← clampR_num hk hko, ← clampR_num (by rw [List.length_set, hk]) (ok_set hko j y hy0 hy1)]
  unfold clampR
  rw [take_set2, andB_set]
  have e : (key.take 16).getD j 0 = key.getD j 0 := by rw [List.getD_eq_getElem?_getD, List.getElem?_take_of_lt hj, ← List.getD_eq_getElem?_getD]
  rw [h, e]
theorem drop_set {α : Type} : ∀ (xs : List α) (n j : Nat) (y : α), j < n → (xs.set j y).drop n = xs.drop n
  | [], n, j, y, h => by simp
  | x :: r, 0, j, y, h => by omega
  | x :: r, n + 1, 0, y, h => by simp
  | x :: r, n + 1, j + 1, y, h => by simp [drop_set r n j y (by omega)]
theorem tagV_set {key : List Int} (j : Nat) (y : Int) (hj : j < 16) (h : keyR (key.set j y) = keyR key) (xs : List Int) : tagV (key.set j y) xs = tagV key xs := by
  unfold tagV
  rw [h, drop_set _ _ _ _ hj]
theorem keyR_take {key : List Int} (zs : List Int) (h : key.length = 32) : keyR (key.take 16 ++ zs) = keyR key := by
  have h1 : (key.take 16 ++ zs).take 8 = key.take 8 := by rw [List.take_append_of_le_length (by rw [List.length_take]; omega), List.take_take]; rfl
  have h2 : ((key.take 16 ++ zs).drop 8).take 8 = (key.drop 8).take 8 := by
    rw [List.drop_append_of_le_length (by rw [List.length_take]; omega), List.take_append_of_le_length (by rw [List.length_drop, List.length_take]; omega), List.drop_take, List.take_take]; rfl
  unfold keyR rA rB
  rw [h1, h2]
theorem numB_zer : ∀ n, numB 256 (List.replicate n 0) = 0
  | 0 => rfl
  | n + 1 => by rw [List.replicate_succ, numB, numB_zer n]; rfl
theorem tag_sums {key : List Int} (h : key.length = 32) (hko : okB 256 key) (xs : List Int) :
    digB 256 16 (tagV key xs) = sums 256 (digB 256 16 (tagV (key.take 16 ++ List.replicate 16 0) xs)) (key.drop 16) 16 := by
  rw [(sums_eq (B := 256) (by decide) (length_digB ..) (by rw [List.length_drop, h])).1, numB_digB (by decide)]
  unfold tagV
  rw [keyR_take _ h, List.drop_append_of_le_length (by rw [List.length_take]; omega), List.drop_take]
  rw [show 16 - 16 = 0 from rfl, List.take_zero, List.nil_append, numB_zer, Int.add_zero]
  rw [← digB_mod (B := 256) (by decide) 16 (polyV _ _ _ + _), ← digB_mod (B := 256) (by decide) 16 (polyV _ _ _ % _ + _), Int.emod_add_emod]
theorem xor_high (b x : Int) (h0 : 0 ≤ b) (h1 : b < 256) (x0 : 0 ≤ x) (x1 : x < 256) (m : Int) (c : Nat) (m0 : 0 ≤ m) (m1 : m < 256) (hm : m.toNat &&& c = 0) :
    0 ≤ bits .xor .u8 b (bits .and .u8 x m) ∧ bits .xor .u8 b (bits .and .u8 x m) < 256 ∧ (bits .xor .u8 b (bits .and .u8 x m)).toNat &&& c = b.toNat &&& c := by
  rw [u8_and x m x0 x1 m0 m1]
  have hl : x.toNat &&& m.toNat ≤ m.toNat := Nat.and_le_right
  rw [u8_xor b _ h0 h1 (by omega) (by omega), Int.toNat_natCast, Int.toNat_natCast]
  have hx : b.toNat ^^^ (x.toNat &&& m.toNat) < 2 ^ 8 := Nat.xor_lt_two_pow (by omega) (by omega)
  refine ⟨by omega, by omega, ?_⟩
  rw [Nat.and_xor_distrib_right, Nat.and_assoc, hm, Nat.and_zero, Nat.xor_zero]
end Go.Proofs.Ytcfhpbnkebodiaa
