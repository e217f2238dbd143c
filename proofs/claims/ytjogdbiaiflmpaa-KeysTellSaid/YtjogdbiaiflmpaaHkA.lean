/- HMAC and the keys of a key: what they are, in plain. -/
import Derived.Test.YtjogdbiaiflmpaaShaE
namespace Go.Proofs.Ytjogdbiaiflmpaa
set_option linter.unusedVariables false
set_option linter.unusedSimpArgs false
open Go.RowKit Go.Proofs.YtjogdbiaiflmpaaL

theorem u8_bits_range (op : BinOp) (x y : Int) : 0 ≤ bits op .u8 x y ∧ bits op .u8 x y < 256 := wf_u8_range (wf_bits op .u8 x y)
/-- A key of a block at most. -/
def kcore (key : List Int) : List Int := if key.length ≤ 64 then key else sum32 key
def padTo (l : List Int) : List Int := l ++ zer (64 - l.length)
def kpad (key : List Int) : List Int := padTo (kcore key)
def xorL (b : Int) (l : List Int) : List Int := l.map fun x => bits .xor .u8 x b
/-- HMAC-SHA-256. -/
def hmac (key m : List Int) : List Int := sum32 (xorL 92 (kpad key) ++ sum32 (xorL 54 (kpad key) ++ m))
theorem length_kcore (key : List Int) : (kcore key).length ≤ 64 := by
  unfold kcore
  split
  · assumption
  · rw [length_sum32]; decide
theorem ok_kcore {key : List Int} (h : okB 256 key) : okB 256 (kcore key) := by
  unfold kcore
  split
  · exact h
  · exact ok_sum32 _
theorem length_padTo {l : List Int} (h : l.length ≤ 64) : (padTo l).length = 64 := by rw [padTo, List.length_append, length_zer]; omega
theorem ok_padTo {l : List Int} (h : okB 256 l) : okB 256 (padTo l) := ok_app h (ok_zer (by decide) _)
theorem length_kpad (key : List Int) : (kpad key).length = 64 := length_padTo (length_kcore key)
theorem length_xorL (b : Int) (l : List Int) : (xorL b l).length = l.length := List.length_map ..
theorem ok_xorL (b : Int) (l : List Int) : okB 256 (xorL b l) := fun x hx => by
  obtain ⟨y, -, rfl⟩ := List.mem_map.1 hx
  exact u8_bits_range _ _ _
theorem length_hmac (key m : List Int) : (hmac key m).length = 32 := length_sum32 _
theorem ok_hmac (key m : List Int) : okB 256 (hmac key m) := ok_sum32 _
/-- The first j of a list turned by b. -/
def xorN (b : Int) (l : List Int) : Nat → List Int
  | 0 => l
  | j + 1 => (xorN b l j).set j (bits .xor .u8 ((xorN b l j).getD j 0) b)
theorem length_xorN (b : Int) (l : List Int) : ∀ j, (xorN b l j).length = l.length
  | 0 => rfl
  | j + 1 => by rw [xorN, List.length_set, length_xorN b l j]
theorem xorN_eq (b : Int) (l : List Int) : ∀ j, j ≤ l.length → xorN b l j = xorL b (l.take j) ++ l.drop j
  | 0, _ => by simp [xorN, xorL]
  | j + 1, hj => by
    have ih := xorN_eq b l j (by omega)
    have hl : (xorL b (l.take j)).length = j := by rw [length_xorL, List.length_take]; omega
    have hlt : j < l.length := by omega
    have hd : l.drop j = l[j] :: l.drop (j + 1) := List.drop_eq_getElem_cons hlt
    rw [xorN, ih, List.set_append_right _ _ (by omega), hl, Nat.sub_self, hd, List.set_cons_zero]
    rw [List.getD_eq_getElem?_getD, List.getElem?_append_right (by omega), hl, Nat.sub_self, List.getElem?_cons_zero, Option.getD_some]
    rw [List.take_succ_eq_append_getElem hlt, xorL, xorL, List.map_append]
    simp
theorem xorN_all (b : Int) (l : List Int) : xorN b l l.length = xorL b l := by rw [xorN_eq b l _ (Nat.le_refl _), List.take_length, List.drop_length, List.append_nil]
/-- The i-th key's last part. -/
def lastK (key info : List Int) : Nat → List Int
  | 0 => []
  | i + 1 => hmac key (lastK key info i ++ info ++ [((i : Int) + 1) % 256])
def outK (key info : List Int) : Nat → List Int
  | 0 => []
  | i + 1 => outK key info i ++ lastK key info (i + 1)
theorem length_lastK (key info : List Int) (i : Nat) : (lastK key info (i + 1)).length = 32 := length_hmac _ _
theorem length_outK (key info : List Int) : ∀ i, (outK key info i).length = 32 * i
  | 0 => rfl
  | i + 1 => by rw [outK, List.length_append, length_outK key info i, length_lastK]; omega
theorem ok_lastK (key info : List Int) : ∀ i, okB 256 (lastK key info i)
  | 0 => fun x hx => by cases hx
  | i + 1 => ok_hmac _ _
theorem ok_outK (key info : List Int) : ∀ i, okB 256 (outK key info i)
  | 0 => fun x hx => by cases hx
  | i + 1 => ok_app (ok_outK key info i) (ok_lastK key info _)
/-- As many bytes of a key as are asked. -/
def expK (key info : List Int) (n : Nat) : List Int := (outK key info ((n + 31) / 32)).take n
theorem outK_more (key info : List Int) (i : Nat) : ∀ d, (outK key info (i + d)).take (32 * i) = outK key info i
  | 0 => by rw [Nat.add_zero]; exact List.take_of_length_le (by rw [length_outK]; exact Nat.le_refl _)
  | d + 1 => by
    rw [show i + (d + 1) = (i + d) + 1 from rfl, outK, List.take_append_of_le_length (by rw [length_outK]; omega), outK_more key info i d]
theorem expK_begins (key info : List Int) (n m : Nat) : (expK key info (n + m)).take n = expK key info n := by
  unfold expK
  rw [List.take_take, Nat.min_eq_left (by omega)]
  obtain ⟨d, hd⟩ : ∃ d, (n + m + 31) / 32 = (n + 31) / 32 + d := ⟨(n + m + 31) / 32 - (n + 31) / 32, by omega⟩
  rw [hd, ← outK_more key info ((n + 31) / 32) d, List.take_take, Nat.min_eq_left (by omega)]
theorem length_expK (key info : List Int) (n : Nat) : (expK key info n).length = n := by
  rw [expK, List.length_take, length_outK]; omega
/-- Noughts behind a key that is short say nothing. -/
theorem kpad_zer (key : List Int) (j : Nat) (h : key.length + j ≤ 64) : kpad (key ++ zer j) = kpad key := by
  unfold kpad kcore padTo
  rw [if_pos (by rw [List.length_append, length_zer]; exact h), if_pos (by omega), List.length_append, length_zer, List.append_assoc]
  congr 1
  rw [zer, zer, zer, List.replicate_append_replicate]
  congr 1
  omega
theorem kpad_long (key : List Int) (h : 64 < key.length) : kpad key = kpad (sum32 key) := by
  unfold kpad kcore
  rw [if_neg (by omega), if_pos (by rw [length_sum32]; decide)]
end Go.Proofs.Ytjogdbiaiflmpaa
