/-
  No cell of these rows narrows 'for every input' (looked for: loops, veiled, ifaces, maps, wideKeys, modest, calm, conditions, laid).
  DERIVED. THE GIVEN ROWS OF THIS SEAT. 4 by the template 'for every input the law returns true; each argument reads behind the call as it read before'; 0 by the template 'total and deterministic' (their statements: YtebabmpmhihijaaTotals.lean).
  GIVEN WITH THE SEED: the statements are not yours to turn. If you find one false, say at which input.
  Laid BY PROGRAM, IN A SANDBOX (cutbox-rows.mjs): the forced cells as the released guide's own fill.sh prints them over the translation b829228448cb220e… (all of the seat's roots in one cut). By AI agents, Wed Nov 11 2026. No macro, syntax, notation, axiom, sorry.
-/
import Derived.Test.YtebabmpmhihijaaChecked
import GoSem.Claim
import GoSem.ClaimJoined
import GoSem.ClaimMapViews
import Derived.JoinedTies
import Derived.KernelRfl
namespace Go.Proofs.Ytebabmpmhihijaa
/- THE CELL 'sum', in the pinned program and in every row, IS THE sha256 OF THE DUMP (.gsa) THAT YtebabmpmhihijaaProg.lean LOADS. Nothing in Lean hashes anything: it is a label: what it is worth is what the hold of that sum in a sandbox is worth. -/
noncomputable def Try.pinned : Pinned := { name := "ytebabmpmhihijaa", sum := "b829228448cb220e2ac5271699fce9f86061bb67401c7ae66800c656471fb4be", checked := Try.checked }
namespace Rows
def none {H : Type} : Left H := { results := [], args := [] }

/-- 'towpathlaw18.WindowPlays': WHATEVER THE INPUT: true; the input reads as it did. -/
def windowPlaysSpec : ChangeSpec := { name := "windowPlays", fn := fun _ => fun
  | [d1, d2, d3] => { results := [.lit (.bool true)], args := [d1, d2, d3] }
  | _ => none }
def windowPlaysRow : OpenClaim := { program := "ytebabmpmhihijaa", sum := "b829228448cb220e2ac5271699fce9f86061bb67401c7ae66800c656471fb4be", func := "towpath/towpathlaw18.WindowPlays", spec := "windowPlays", apart := false }
def WindowPlaysSaid : Prop := windowPlaysRow.holds Try.pinned (OpenSpec.ofChange windowPlaysSpec)

/-- ITS FALSE NEIGHBOUR: 'it returns false'. Refute it at one input. -/
def windowPlaysWrong : ChangeSpec := { name := "windowPlays", fn := fun _ => fun
  | [d1, d2, d3] => { results := [.lit (.bool false)], args := [d1, d2, d3] }
  | _ => none }
def WindowPlaysWrongFalsely : Prop := windowPlaysRow.holds Try.pinned (OpenSpec.ofChange windowPlaysWrong)

/-- 'towpathlaw18.WindowEdges': WHATEVER THE INPUT: true; the input reads as it did. -/
def windowEdgesSpec : ChangeSpec := { name := "windowEdges", fn := fun _ => fun
  | [d1, d2, d3] => { results := [.lit (.bool true)], args := [d1, d2, d3] }
  | _ => none }
def windowEdgesRow : OpenClaim := { program := "ytebabmpmhihijaa", sum := "b829228448cb220e2ac5271699fce9f86061bb67401c7ae66800c656471fb4be", func := "towpath/towpathlaw18.WindowEdges", spec := "windowEdges", apart := false }
def WindowEdgesSaid : Prop := windowEdgesRow.holds Try.pinned (OpenSpec.ofChange windowEdgesSpec)

/-- ITS FALSE NEIGHBOUR: 'it returns false'. Refute it at one input. -/
def windowEdgesWrong : ChangeSpec := { name := "windowEdges", fn := fun _ => fun
  | [d1, d2, d3] => { results := [.lit (.bool false)], args := [d1, d2, d3] }
  | _ => none }
def WindowEdgesWrongFalsely : Prop := windowEdgesRow.holds Try.pinned (OpenSpec.ofChange windowEdgesWrong)

/-- 'towpathlaw18.WindowSlides': WHATEVER THE INPUT: true; the input reads as it did. -/
def windowSlidesSpec : ChangeSpec := { name := "windowSlides", fn := fun _ => fun
  | [d] => { results := [.lit (.bool true)], args := [d] }
  | _ => none }
def windowSlidesRow : OpenClaim := { program := "ytebabmpmhihijaa", sum := "b829228448cb220e2ac5271699fce9f86061bb67401c7ae66800c656471fb4be", func := "towpath/towpathlaw18.WindowSlides", spec := "windowSlides", apart := false }
def WindowSlidesSaid : Prop := windowSlidesRow.holds Try.pinned (OpenSpec.ofChange windowSlidesSpec)

/-- ITS FALSE NEIGHBOUR: 'it returns false'. Refute it at one input. -/
def windowSlidesWrong : ChangeSpec := { name := "windowSlides", fn := fun _ => fun
  | [d] => { results := [.lit (.bool false)], args := [d] }
  | _ => none }
def WindowSlidesWrongFalsely : Prop := windowSlidesRow.holds Try.pinned (OpenSpec.ofChange windowSlidesWrong)

/-- 'towpathlaw18.WindowAgain': WHATEVER THE INPUT: true; the input reads as it did. -/
def windowAgainSpec : ChangeSpec := { name := "windowAgain", fn := fun _ => fun
  | [d1, d2] => { results := [.lit (.bool true)], args := [d1, d2] }
  | _ => none }
def windowAgainRow : OpenClaim := { program := "ytebabmpmhihijaa", sum := "b829228448cb220e2ac5271699fce9f86061bb67401c7ae66800c656471fb4be", func := "towpath/towpathlaw18.WindowAgain", spec := "windowAgain", apart := false }
def WindowAgainSaid : Prop := windowAgainRow.holds Try.pinned (OpenSpec.ofChange windowAgainSpec)

/-- ITS FALSE NEIGHBOUR: 'it returns false'. Refute it at one input. -/
def windowAgainWrong : ChangeSpec := { name := "windowAgain", fn := fun _ => fun
  | [d1, d2] => { results := [.lit (.bool false)], args := [d1, d2] }
  | _ => none }
def WindowAgainWrongFalsely : Prop := windowAgainRow.holds Try.pinned (OpenSpec.ofChange windowAgainWrong)

/- THE SECOND FORM. 'bulk': how many values and letters a reading holds, each counted each time it is reached (what is shared counts as often as it is met; a slice's spare places count too). A statement '..UptoSaid' is the law's where the arguments, and the package variables that the reading takes, are together of bulk at most 1048576: NARROWER than '..Said'. Prove '..Said' where nothing that the law and all that it calls make is longer than what came in: it says more and counts as full. Else prove '..UptoSaid'. A law counts once. -/
mutual
def uptoBulk {H : Type} : DataW H → Nat
  | .lit (.string bytes) => bytes.length + 1
  | .lit _ => 1
  | .nil => 1
  | .ptr d => uptoBulk d + 1
  | .slice elems spare => uptoBulkAll elems + uptoBulkAll spare + 1
  | .agg parts => uptoBulkAll parts + 1
  | .iface _ d => uptoBulk d + 1
  | .map entries => uptoBulkEntries entries + 1
  | .held _ => 1
def uptoBulkAll {H : Type} : List (DataW H) → Nat
  | [] => 0
  | d :: r => uptoBulk d + uptoBulkAll r
def uptoBulkEntries {H : Type} : List (Lit × DataW H) → Nat
  | [] => 0
  | x :: r => uptoBulkEntry x + uptoBulkEntries r
def uptoBulkEntry {H : Type} : Lit × DataW H → Nat
  | (.string bytes, d) => bytes.length + uptoBulk d + 1
  | (_, d) => uptoBulk d + 1
 end
def uptoSmall : (H : Type) → List (DataW H) → Bool := fun _ ds => decide (uptoBulkAll ds ≤ 1048576)
def OpenSpec.upto (s : _root_.Go.ChangeSpec) : _root_.Go.OpenSpec := { _root_.Go.OpenSpec.ofChange s with cond := some uptoSmall }

/-- 'towpathlaw18.WindowPlays', WHERE WHAT IT READS IS OF BULK AT MOST 1048576: true; the input reads as it did. -/
def windowPlaysUptoRow : OpenClaim := { program := "ytebabmpmhihijaa", sum := "b829228448cb220e2ac5271699fce9f86061bb67401c7ae66800c656471fb4be", func := "towpath/towpathlaw18.WindowPlays", spec := "windowPlays", apart := false, narrowed := true }
def WindowPlaysUptoSaid : Prop := windowPlaysUptoRow.holds Try.pinned (OpenSpec.upto windowPlaysSpec)

/-- 'towpathlaw18.WindowEdges', WHERE WHAT IT READS IS OF BULK AT MOST 1048576: true; the input reads as it did. -/
def windowEdgesUptoRow : OpenClaim := { program := "ytebabmpmhihijaa", sum := "b829228448cb220e2ac5271699fce9f86061bb67401c7ae66800c656471fb4be", func := "towpath/towpathlaw18.WindowEdges", spec := "windowEdges", apart := false, narrowed := true }
def WindowEdgesUptoSaid : Prop := windowEdgesUptoRow.holds Try.pinned (OpenSpec.upto windowEdgesSpec)

/-- 'towpathlaw18.WindowSlides', WHERE WHAT IT READS IS OF BULK AT MOST 1048576: true; the input reads as it did. -/
def windowSlidesUptoRow : OpenClaim := { program := "ytebabmpmhihijaa", sum := "b829228448cb220e2ac5271699fce9f86061bb67401c7ae66800c656471fb4be", func := "towpath/towpathlaw18.WindowSlides", spec := "windowSlides", apart := false, narrowed := true }
def WindowSlidesUptoSaid : Prop := windowSlidesUptoRow.holds Try.pinned (OpenSpec.upto windowSlidesSpec)

/-- 'towpathlaw18.WindowAgain', WHERE WHAT IT READS IS OF BULK AT MOST 1048576: true; the input reads as it did. -/
def windowAgainUptoRow : OpenClaim := { program := "ytebabmpmhihijaa", sum := "b829228448cb220e2ac5271699fce9f86061bb67401c7ae66800c656471fb4be", func := "towpath/towpathlaw18.WindowAgain", spec := "windowAgain", apart := false, narrowed := true }
def WindowAgainUptoSaid : Prop := windowAgainUptoRow.holds Try.pinned (OpenSpec.upto windowAgainSpec)

end Rows
end Go.Proofs.Ytebabmpmhihijaa
