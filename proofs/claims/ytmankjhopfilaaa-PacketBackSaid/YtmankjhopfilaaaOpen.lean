/- Arguments opened: an array of integers by value. -/
import Derived.Test.YtmankjhopfilaaaArr
import Derived.WalkKit
import Derived.ProofKit
import Derived.OpenShut
import Derived.ShutString
import Derived.ChangeOld
import Derived.Below
import Derived.SizedLaws
namespace Go.Proofs.YtmankjhopfilaaaL
open Go.ChangeShapes Go.WideShapes Go.RowKit
set_option linter.unusedVariables false
section
variable {H : Type} {enc : TypeId × Value → H} {P : Program} {w : World} {base b0 : Nat} {spare : Nat → Bool} {held : Bool} {t e : TypeId} {n : Nat} {k : IntKind}
def intIn : Value → Int
  | .int _ z => z
  | _ => 0
theorem open_arr {r : Reach} {v : Value} {d : DataW H} {ps : List MemPlace} (ht : P.underlying t = some (.array n e)) (he : P.underlying e = some (.int k)) (hce : P.cellsOf e = 1) (hct : P.cellsOf t = n)
    (hval : Value.okWide P w r b0 t v) (hd : DataW.Trod enc P w base spare held t v d ps) : ∃ zs : List Int, v = .agg (encK k zs) ∧ zs.length = n ∧ ∀ z ∈ zs, (Lit.int k z).wf = true := by
  unfold Value.okWide at hval
  rw [ht] at hval
  obtain ⟨cs, rfl, hs, -⟩ := hval
  obtain ⟨fuel, hf⟩ := hd
  have hcells : (Value.agg cs).cells.toList = cs.toList := rfl
  rw [hcells] at hf
  obtain ⟨xs, m, -, -, hl, hxl, hi⟩ := DataW.trod_array ht hf
  have one : ∀ i (h : i < cs.size), ∃ z, cs[i] = .int k z ∧ (Lit.int k z).wf = true := by
    intro i h
    have hin : i < n := by omega
    have h1 := hi i hin
    rw [hce, Nat.mul_one, List.getElem?_eq_getElem (by omega)] at h1
    obtain ⟨z, hc, -, hw⟩ := DataW.trod_int he h1
    refine ⟨z, ?_, hw⟩
    have := congrArg (·[0]?) hc
    simpa [List.getElem?_take, List.getElem?_drop, h] using this
  refine ⟨cs.toList.map intIn, ?_, by simp; omega, ?_⟩
  · congr 1
    apply Array.ext
    · simp [encK]
    · intro i h1 h2
      obtain ⟨z, hz, -⟩ := one i h1
      simp [encK, hz, intIn]
  · intro z hz
    obtain ⟨v, hv, rfl⟩ := List.mem_map.1 hz
    obtain ⟨i, hi2, rfl⟩ := List.mem_iff_getElem.1 hv
    obtain ⟨z, hz', hw⟩ := one i (by simpa using hi2)
    have : cs.toList[i] = .int k z := by simpa using hz'
    rw [this]
    exact hw
end
end Go.Proofs.YtmankjhopfilaaaL
