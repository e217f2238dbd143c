/- Plain laws of the stream: twice is nothing; a part goes by itself. -/
import Derived.Test.YtfhopjkpefclpaaChaM
import Derived.Test.YtfhopjkpefclpaaSub
namespace Go.Proofs.Ytfhopjkpefclpaa
set_option linter.unusedVariables false
set_option linter.unusedSimpArgs false
open Go.RowKit Go.Proofs.YtfhopjkpefclpaaL

theorem wrap8 (z : BitVec 8) : IntKind.u8.wrap (z.toNat : Int) = z.toNat := by
  have := z.isLt
  simp [IntKind.wrap, IntKind.signed, IntKind.bits]; omega
theorem ofInt_toNat8 (z : BitVec 8) : BitVec.ofInt 8 (z.toNat : Int) = z := by
  apply BitVec.eq_of_toNat_eq
  have := z.isLt
  simp [BitVec.toNat_ofInt]
theorem toNat_ofInt8 (x : Int) (h0 : 0 ≤ x) (h1 : x < 256) : ((BitVec.ofInt 8 x).toNat : Int) = x := by
  simp [BitVec.toNat_ofInt]; omega
theorem xor8_eq (x y : Int) : bits .xor .u8 x y = ((BitVec.ofInt 8 x ^^^ BitVec.ofInt 8 y).toNat : Int) := wrap8 _
theorem xor_xor8 (x s : Int) (h0 : 0 ≤ x) (h1 : x < 256) : bits .xor .u8 (bits .xor .u8 x s) s = x := by
  rw [xor8_eq, xor8_eq, ofInt_toNat8, BitVec.xor_assoc, BitVec.xor_self, BitVec.xor_zero]
  exact toNat_ofInt8 x h0 h1
theorem zero_xor8 (s : Int) (h0 : 0 ≤ s) (h1 : s < 256) : bits .xor .u8 0 s = s := by
  rw [xor8_eq, show BitVec.ofInt 8 0 = 0#8 from rfl, BitVec.zero_xor]
  exact toNat_ofInt8 s h0 h1
theorem xorL_at (key : List Int) (c : Int) (nonce bs : List Int) (k i : Nat) (hi : i < k) : (xorL key c nonce bs k).getD i 0 = xorB key c nonce bs i := by
  simp [xorL, List.getD_eq_getElem?_getD, hi]
theorem list_ext_getD {xs ys : List Int} (hl : xs.length = ys.length) (h : ∀ i, i < xs.length → xs.getD i 0 = ys.getD i 0) : xs = ys := by
  apply List.ext_getElem hl
  intro i h1 h2
  have := h i h1
  simpa [List.getD_eq_getElem?_getD, h1, h2] using this
theorem xorL_twice (key : List Int) (c : Int) (nonce bs : List Int) (len : Nat) (hl : bs.length = len) (h8 : ok8 bs) : xorL key c nonce (xorL key c nonce bs len) len = bs := by
  apply list_ext_getD (by rw [length_xorL, hl])
  intro i hi
  rw [length_xorL] at hi
  rw [xorL_at _ _ _ _ _ _ hi, xorB, xorL_at _ _ _ _ _ _ hi, xorB]
  exact xor_xor8 _ _ (ok8_at h8 i).1 (ok8_at h8 i).2
theorem ctrAt_next (c : Int) (i : Nat) : ctrAt ((c + 1) % 4294967296) i = ctrAt c (i + 64) := by
  unfold ctrAt
  have : ((i + 64) / 64 : Nat) = i / 64 + 1 := by omega
  rw [this]
  omega
theorem getD_drop (bs : List Int) (n i : Nat) : (bs.drop n).getD i 0 = bs.getD (n + i) 0 := by
  simp [List.getD_eq_getElem?_getD, List.getElem?_drop]
theorem xorL_tail (key : List Int) (c : Int) (nonce bs : List Int) (len : Nat) (hl : 64 ≤ len) : xorL key ((c + 1) % 4294967296) nonce (bs.drop 64) (len - 64) = (xorL key c nonce bs len).drop 64 := by
  apply list_ext_getD (by rw [length_xorL, List.length_drop, length_xorL])
  intro i hi
  rw [length_xorL] at hi
  rw [xorL_at _ _ _ _ _ _ hi, getD_drop, xorL_at _ _ _ _ _ _ (by omega), xorB, xorB, strB, strB, ctrAt_next, getD_drop, show 64 + i = i + 64 by omega, show (i + 64) % 64 = i % 64 by omega]
end Go.Proofs.Ytfhopjkpefclpaa
