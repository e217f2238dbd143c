/- Small laws for the laws' walks. -/
import Derived.Test.YtfhopjkpefclpaaChaN
namespace Go.Proofs.Ytfhopjkpefclpaa
set_option linter.unusedVariables false
set_option linter.unusedSimpArgs false
open Go.RowKit Go.Proofs.YtfhopjkpefclpaaL

theorem bits_range8 (op : BinOp) (x y : Int) : 0 ≤ bits op .u8 x y ∧ bits op .u8 x y < 256 := wf_u8_range (wf_bits op .u8 x y)
theorem ok_xorL (key : List Int) (ctr : Int) (nonce bs : List Int) (k : Nat) : ok8 (xorL key ctr nonce bs k) := by
  intro x hx
  obtain ⟨i, -, rfl⟩ := List.mem_map.1 hx
  exact bits_range8 _ _ _
theorem ret8_open {w w' : World} {xs : List Int} {e : Ending} (h : Ret8 w xs e w') (h8 : ok8 xs) :
    ∃ ad cap, e = .returned (.slice ad xs.length cap) ∧ Sl8 w' ad xs.length xs ∧ (xs.length = 0 → ad = none ∧ cap = 0 ∨ ∃ x, ad = some x) ∧ w.grownBy w' none := by
  obtain ⟨v, rfl, ho, hg⟩ := h
  have hc := fun g hg => World.ownsRow.cells ho (g := g) hg
  obtain ⟨hl, ⟨rfl, h0⟩ | ⟨g, cap, cur, rfl, -, -, -, -, -, -⟩⟩ := ho
  · rw [h0]
    exact ⟨none, 0, rfl, ⟨h0, h8, fun i hi => by omega⟩, fun _ => .inl ⟨rfl, rfl⟩, hg⟩
  · refine ⟨_, _, rfl, ⟨rfl, h8, fun i hi => ⟨_, rfl, ?_⟩⟩, fun _ => .inr ⟨_, rfl⟩, hg⟩
    exact hc g rfl i _ (by simp [List.getElem?_eq_getElem hi])
theorem isRow_sl8 {w : World} {a : Option Addr} {len cap : Nat} {zs : List Int} (h : IsRow .u8 w a len cap zs) : Sl8 w a len (zs.take len) ∧ (len = 0 → a = none ∧ cap = 0 ∨ ∃ x, a = some x) := by
  rcases h with ⟨rfl, rfl, rfl, rfl⟩ | ⟨x, rfl, hl, hm, hz, hc, hw⟩
  · exact ⟨⟨rfl, (by intro x hx; cases hx), fun i hi => by omega⟩, fun _ => .inl ⟨rfl, rfl⟩⟩
  · refine ⟨⟨by rw [List.length_take]; omega, fun y hy => wf_u8_range (hw y (List.mem_of_mem_take hy)), fun i hi => ⟨x, rfl, ?_⟩⟩, fun _ => .inr ⟨x, rfl⟩⟩
    rw [hc i (by omega), List.getD_eq_getElem?_getD, List.getD_eq_getElem?_getD, List.getElem?_take_of_lt hi]
end Go.Proofs.Ytfhopjkpefclpaa
