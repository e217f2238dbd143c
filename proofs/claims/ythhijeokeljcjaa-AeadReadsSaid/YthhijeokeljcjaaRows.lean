/-
  No cell of these rows narrows 'for every input' (looked for: loops, veiled, ifaces, maps, wideKeys, modest, calm, conditions, laid).
  DERIVED. THE GIVEN ROWS OF THIS SEAT. 3 by the template 'for every input the law returns true; each argument reads behind the call as it read before'; 0 by the template 'total and deterministic' (their statements: YthhijeokeljcjaaTotals.lean).
  GIVEN WITH THE SEED: the statements are not yours to turn. If you find one false, say at which input.
  Laid BY PROGRAM, IN A SANDBOX (cutbox-rows.mjs): the forced cells as the released guide's own fill.sh prints them over the translation 387cf564cad3fa8b… (all of the seat's roots in one cut). By AI agents, Wed Nov 11 2026. No macro, syntax, notation, axiom, sorry.
-/
import Derived.Test.YthhijeokeljcjaaChecked
import GoSem.Claim
import GoSem.ClaimJoined
import GoSem.ClaimMapViews
import Derived.JoinedTies
import Derived.KernelRfl
namespace Go.Proofs.Ythhijeokeljcjaa
/- THE CELL 'sum', in the pinned program and in every row, IS THE sha256 OF THE DUMP (.gsa) THAT YthhijeokeljcjaaProg.lean LOADS. Nothing in Lean hashes anything: it is a label: what it is worth is what the hold of that sum in a sandbox is worth. -/
noncomputable def Try.pinned : Pinned := { name := "ythhijeokeljcjaa", sum := "387cf564cad3fa8b817a4b5de92c01e973eb2b9e6957fa3082475fb79b87b9ac", checked := Try.checked }
namespace Rows
def none {H : Type} : Left H := { results := [], args := [] }

/-- 'towpathlaw9.AeadBack': WHATEVER THE INPUT: true; the input reads as it did. -/
def aeadBackSpec : ChangeSpec := { name := "aeadBack", fn := fun _ => fun
  | [d1, d2, d3, d4] => { results := [.lit (.bool true)], args := [d1, d2, d3, d4] }
  | _ => none }
def aeadBackRow : OpenClaim := { program := "ythhijeokeljcjaa", sum := "387cf564cad3fa8b817a4b5de92c01e973eb2b9e6957fa3082475fb79b87b9ac", func := "towpath/towpathlaw9.AeadBack", spec := "aeadBack", inPlace := ["math/bits.Add64"], apart := false }
def AeadBackSaid : Prop := aeadBackRow.holds Try.pinned (OpenSpec.ofChange aeadBackSpec)

/-- ITS FALSE NEIGHBOUR: 'it returns false'. Refute it at one input. -/
def aeadBackWrong : ChangeSpec := { name := "aeadBack", fn := fun _ => fun
  | [d1, d2, d3, d4] => { results := [.lit (.bool false)], args := [d1, d2, d3, d4] }
  | _ => none }
def AeadBackWrongFalsely : Prop := aeadBackRow.holds Try.pinned (OpenSpec.ofChange aeadBackWrong)

/-- 'towpathlaw9.AeadReads': WHATEVER THE INPUT: true; the input reads as it did. -/
def aeadReadsSpec : ChangeSpec := { name := "aeadReads", fn := fun _ => fun
  | [d1, d2, d3, d4, d5, d6, d7, d8] => { results := [.lit (.bool true)], args := [d1, d2, d3, d4, d5, d6, d7, d8] }
  | _ => none }
def aeadReadsRow : OpenClaim := { program := "ythhijeokeljcjaa", sum := "387cf564cad3fa8b817a4b5de92c01e973eb2b9e6957fa3082475fb79b87b9ac", func := "towpath/towpathlaw9.AeadReads", spec := "aeadReads", inPlace := ["math/bits.Add64"], apart := false }
def AeadReadsSaid : Prop := aeadReadsRow.holds Try.pinned (OpenSpec.ofChange aeadReadsSpec)

/-- ITS FALSE NEIGHBOUR: 'it returns false'. Refute it at one input. -/
def aeadReadsWrong : ChangeSpec := { name := "aeadReads", fn := fun _ => fun
  | [d1, d2, d3, d4, d5, d6, d7, d8] => { results := [.lit (.bool false)], args := [d1, d2, d3, d4, d5, d6, d7, d8] }
  | _ => none }
def AeadReadsWrongFalsely : Prop := aeadReadsRow.holds Try.pinned (OpenSpec.ofChange aeadReadsWrong)

/-- 'towpathlaw9.AeadLong': WHATEVER THE INPUT: true; the input reads as it did. -/
def aeadLongSpec : ChangeSpec := { name := "aeadLong", fn := fun _ => fun
  | [d1, d2, d3, d4] => { results := [.lit (.bool true)], args := [d1, d2, d3, d4] }
  | _ => none }
def aeadLongRow : OpenClaim := { program := "ythhijeokeljcjaa", sum := "387cf564cad3fa8b817a4b5de92c01e973eb2b9e6957fa3082475fb79b87b9ac", func := "towpath/towpathlaw9.AeadLong", spec := "aeadLong", inPlace := ["math/bits.Add64"], apart := false }
def AeadLongSaid : Prop := aeadLongRow.holds Try.pinned (OpenSpec.ofChange aeadLongSpec)

/-- ITS FALSE NEIGHBOUR: 'it returns false'. Refute it at one input. -/
def aeadLongWrong : ChangeSpec := { name := "aeadLong", fn := fun _ => fun
  | [d1, d2, d3, d4] => { results := [.lit (.bool false)], args := [d1, d2, d3, d4] }
  | _ => none }
def AeadLongWrongFalsely : Prop := aeadLongRow.holds Try.pinned (OpenSpec.ofChange aeadLongWrong)

/- THE SECOND FORM. 'bulk': how many values and letters a reading holds, each counted each time it is reached (what is shared counts as often as it is met; a slice's spare places count too). A statement '..UptoSaid' is the law's where the arguments, and the package variables that the reading takes, are together of bulk at most 1048576: NARROWER than '..Said'. Prove '..Said' where nothing that the law and all that it calls make is longer than what came in: it says more and counts as full. Else prove '..UptoSaid'. A law counts once. -/
mutual
def uptoBulk {H : Type} : DataW H → Nat
  | .lit (.string bytes) => bytes.length + 1
  | .lit _ => 1
  | .nil => 1
  | .ptr d => uptoBulk d + 1
  | .slice elems spare => uptoBulkAll elems + uptoBulkAll spare + 1
  | .agg parts => uptoBulkAll parts + 1
  | .iface _ d => uptoBulk d + 1
  | .map entries => uptoBulkEntries entries + 1
  | .held _ => 1
def uptoBulkAll {H : Type} : List (DataW H) → Nat
  | [] => 0
  | d :: r => uptoBulk d + uptoBulkAll r
def uptoBulkEntries {H : Type} : List (Lit × DataW H) → Nat
  | [] => 0
  | x :: r => uptoBulkEntry x + uptoBulkEntries r
def uptoBulkEntry {H : Type} : Lit × DataW H → Nat
  | (.string bytes, d) => bytes.length + uptoBulk d + 1
  | (_, d) => uptoBulk d + 1
 end
def uptoSmall : (H : Type) → List (DataW H) → Bool := fun _ ds => decide (uptoBulkAll ds ≤ 1048576)
def OpenSpec.upto (s : _root_.Go.ChangeSpec) : _root_.Go.OpenSpec := { _root_.Go.OpenSpec.ofChange s with cond := some uptoSmall }

/-- 'towpathlaw9.AeadBack', WHERE WHAT IT READS IS OF BULK AT MOST 1048576: true; the input reads as it did. -/
def aeadBackUptoRow : OpenClaim := { program := "ythhijeokeljcjaa", sum := "387cf564cad3fa8b817a4b5de92c01e973eb2b9e6957fa3082475fb79b87b9ac", func := "towpath/towpathlaw9.AeadBack", spec := "aeadBack", inPlace := ["math/bits.Add64"], apart := false, narrowed := true }
def AeadBackUptoSaid : Prop := aeadBackUptoRow.holds Try.pinned (OpenSpec.upto aeadBackSpec)

/-- 'towpathlaw9.AeadReads', WHERE WHAT IT READS IS OF BULK AT MOST 1048576: true; the input reads as it did. -/
def aeadReadsUptoRow : OpenClaim := { program := "ythhijeokeljcjaa", sum := "387cf564cad3fa8b817a4b5de92c01e973eb2b9e6957fa3082475fb79b87b9ac", func := "towpath/towpathlaw9.AeadReads", spec := "aeadReads", inPlace := ["math/bits.Add64"], apart := false, narrowed := true }
def AeadReadsUptoSaid : Prop := aeadReadsUptoRow.holds Try.pinned (OpenSpec.upto aeadReadsSpec)

/-- 'towpathlaw9.AeadLong', WHERE WHAT IT READS IS OF BULK AT MOST 1048576: true; the input reads as it did. -/
def aeadLongUptoRow : OpenClaim := { program := "ythhijeokeljcjaa", sum := "387cf564cad3fa8b817a4b5de92c01e973eb2b9e6957fa3082475fb79b87b9ac", func := "towpath/towpathlaw9.AeadLong", spec := "aeadLong", inPlace := ["math/bits.Add64"], apart := false, narrowed := true }
def AeadLongUptoSaid : Prop := aeadLongUptoRow.holds Try.pinned (OpenSpec.upto aeadLongSpec)

end Rows
end Go.Proofs.Ythhijeokeljcjaa
