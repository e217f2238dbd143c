/- Sealed bytes are opened; the known tags differ: plain laws. -/
import Derived.Test.YthhijeokeljcjaaAeI
import Derived.Test.YthhijeokeljcjaaAeK
namespace Go.Proofs.Ythhijeokeljcjaa
set_option linter.unusedVariables false
set_option linter.unusedSimpArgs false
open Go.RowKit Go.Proofs.YthhijeokeljcjaaL

theorem wrap8 (z : BitVec 8) : IntKind.u8.wrap (z.toNat : Int) = z.toNat := by
  have := z.isLt
  simp [IntKind.wrap, IntKind.signed, IntKind.bits]; omega
theorem ofInt_toNat8 (z : BitVec 8) : BitVec.ofInt 8 (z.toNat : Int) = z := by
  apply BitVec.eq_of_toNat_eq
  have := z.isLt
  simp [BitVec.toNat_ofInt]
theorem toNat_ofInt8 (x : Int) (h0 : 0 ≤ x) (h1 : x < 256) : ((BitVec.ofInt 8 x).toNat : Int) = x := by
  simp [BitVec.toNat_ofInt]; omega
theorem xor8_eq (x y : Int) : bits .xor .u8 x y = ((BitVec.ofInt 8 x ^^^ BitVec.ofInt 8 y).toNat : Int) := wrap8 _
theorem xor_xor8 (x s : Int) (h0 : 0 ≤ x) (h1 : x < 256) : bits .xor .u8 (bits .xor .u8 x s) s = x := by
  rw [xor8_eq, xor8_eq, ofInt_toNat8, BitVec.xor_assoc, BitVec.xor_self, BitVec.xor_zero]
  exact toNat_ofInt8 x h0 h1
theorem zero_xor8' (s : Int) (h0 : 0 ≤ s) (h1 : s < 256) : bits .xor .u8 0 s = s := by
  rw [xor8_eq, show BitVec.ofInt 8 0 = 0#8 from rfl, BitVec.zero_xor]
  exact toNat_ofInt8 s h0 h1
theorem xorL_at (key : List Int) (c : Int) (nonce bs : List Int) (k i : Nat) (hi : i < k) : (xorL key c nonce bs k).getD i 0 = xorB key c nonce bs i := by
  simp [xorL, List.getD_eq_getElem?_getD, hi]
theorem list_ext_getD {xs ys : List Int} (hl : xs.length = ys.length) (h : ∀ i, i < xs.length → xs.getD i 0 = ys.getD i 0) : xs = ys := by
  apply List.ext_getElem hl
  intro i h1 h2
  have := h i h1
  simpa [List.getD_eq_getElem?_getD, h1, h2] using this
theorem xorL_twice (key : List Int) (c : Int) (nonce bs : List Int) (len : Nat) (hl : bs.length = len) (h8 : ok8 bs) : xorL key c nonce (xorL key c nonce bs len) len = bs := by
  apply list_ext_getD (by rw [length_xorL, hl])
  intro i hi
  rw [length_xorL] at hi
  rw [xorL_at _ _ _ _ _ _ hi, xorB, xorL_at _ _ _ _ _ _ hi, xorB]
  exact xor_xor8 _ _ (ok8_at h8 i).1 (ok8_at h8 i).2
theorem encL_twice (key : List Int) (n : Int) {b : List Int} (h : okB 256 b) : encL key n (encL key n b) = b := by
  unfold encL
  rw [length_xorL]
  exact xorL_twice key 1 (nonceL n) b b.length rfl h
theorem length_sealL (key : List Int) (n : Int) (more b : List Int) : (sealL key n more b).length = b.length + 16 := by rw [sealL, List.length_append, length_encL, length_tagL]
theorem ok_sealL (key : List Int) (n : Int) (more b : List Int) : okB 256 (sealL key n more b) := ok_app (ok_encL _ _ _) (ok_tagL _ _ _ _)
theorem seal_take (key : List Int) (n : Int) (more b : List Int) (k : Nat) (hk : b.length = k) : (sealL key n more b).take k = encL key n b := by
  rw [sealL, List.take_append_of_le_length (by rw [length_encL]; omega), List.take_of_length_le (by rw [length_encL]; omega)]
theorem seal_drop (key : List Int) (n : Int) (more b : List Int) (k : Nat) (hk : b.length = k) : (sealL key n more b).drop k = tagL key n more (encL key n b) := by
  rw [sealL, List.drop_append_of_le_length (by rw [length_encL]; omega), List.drop_eq_nil_of_le (by rw [length_encL]; omega), List.nil_append]
theorem getD_of_take {l : List Int} {a b : Int} (h : l.take 2 = [a, b]) : l.getD 0 0 = a ∧ l.getD 1 0 = b := by
  rcases l with _ | ⟨x, _ | ⟨y, l⟩⟩
  · cases h
  · cases h
  · simp at h
    exact ⟨h.1, h.2⟩
theorem kn2 : nonceL 2 = [0, 0, 0, 0, 2, 0, 0, 0, 0, 0, 0, 0] := by decide +kernel
theorem kn3 : nonceL 3 = [0, 0, 0, 0, 3, 0, 0, 0, 0, 0, 0, 0] := by decide +kernel
theorem kC : encL kKey 2 [97, 98] = [209, 84] := by
  have h := getD_of_take kb
  unfold encL
  rw [kn2]
  show [xorB kKey 1 [0, 0, 0, 0, 2, 0, 0, 0, 0, 0, 0, 0] [97, 98] 0, xorB kKey 1 [0, 0, 0, 0, 2, 0, 0, 0, 0, 0, 0, 0] [97, 98] 1] = _
  unfold xorB strB
  rw [show ctrAt 1 0 = 1 by decide, show ctrAt 1 1 = 1 by decide, show 0 % 64 = 0 from rfl, show 1 % 64 = 1 from rfl, h.1, h.2]
  decide +kernel
theorem kT : (tagL kKey 3 [109] (encL kKey 2 [97, 98]) == tagL kKey 2 [109] (encL kKey 2 [97, 98])) = false := by
  rw [kC]
  unfold tagL
  rw [kn2, kn3, ka, kc]
  decide +kernel
theorem length_kKey : kKey.length = 32 := rfl
theorem ok_kKey : okB 256 kKey := by unfold okB kKey; decide
end Go.Proofs.Ythhijeokeljcjaa
