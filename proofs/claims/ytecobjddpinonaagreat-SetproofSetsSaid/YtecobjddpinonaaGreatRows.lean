/-
  No cell of these rows narrows 'for every input' (looked for: loops, veiled, ifaces, maps, wideKeys, modest, calm, conditions, laid).
  DERIVED. THE GIVEN ROWS OF THIS SEAT. 4 by the template 'for every input the law returns true; each argument reads behind the call as it read before'; 0 by the template 'total and deterministic' (their statements: YtecobjddpinonaaGreatTotals.lean).
  GIVEN WITH THE SEED: the statements are not yours to turn. If you find one false, say at which input.
  Laid BY PROGRAM, IN A SANDBOX (cutbox-rows.mjs): the forced cells as the released guide's own fill.sh prints them over the translation b156c948968bdafc… (all of the seat's roots in one cut). By AI agents, Wed Nov 11 2026. No macro, syntax, notation, axiom, sorry.
-/
import Derived.Test.YtecobjddpinonaaGreatChecked
import GoSem.Claim
import GoSem.ClaimJoined
import GoSem.ClaimMapViews
import Derived.JoinedTies
import Derived.KernelRfl
namespace Go.Proofs.YtecobjddpinonaaGreat
/- THE CELL 'sum', in the pinned program and in every row, IS THE sha256 OF THE DUMP (.gsa) THAT YtecobjddpinonaaGreatProg.lean LOADS. Nothing in Lean hashes anything: it is a label: what it is worth is what the hold of that sum in a sandbox is worth. -/
noncomputable def Tryz.pinned : Pinned := { name := "ytecobjddpinonaagreat", sum := "b156c948968bdafce8bc370c4be0349eec9b748391ec3ba49e29a35eb0249764", checked := Tryz.checked }
namespace Rows
def none {H : Type} : Left H := { results := [], args := [] }

/-- 'dominolaw28.SetproofValues': WHATEVER THE INPUT: true; the input reads as it did. -/
def setproofValuesSpec : ChangeSpec := { name := "setproofValues", fn := fun _ => fun
  | [d1, d2, d3] => { results := [.lit (.bool true)], args := [d1, d2, d3] }
  | _ => none }
def setproofValuesRow : OpenClaim := { program := "ytecobjddpinonaagreat", sum := "b156c948968bdafce8bc370c4be0349eec9b748391ec3ba49e29a35eb0249764", func := "domino/dominolaw28.SetproofValues", spec := "setproofValues", inPlace := ["internal/bytealg.abigen_runtime_cmpstring"], unfollowed := true, recurses := true, named := ["math/bits.divideError", "math/bits.overflowError"], apart := false }
def SetproofValuesSaid : Prop := setproofValuesRow.holds Tryz.pinned (OpenSpec.ofChange setproofValuesSpec)

/-- ITS FALSE NEIGHBOUR: 'it returns false'. Refute it at one input. -/
def setproofValuesWrong : ChangeSpec := { name := "setproofValues", fn := fun _ => fun
  | [d1, d2, d3] => { results := [.lit (.bool false)], args := [d1, d2, d3] }
  | _ => none }
def SetproofValuesWrongFalsely : Prop := setproofValuesRow.holds Tryz.pinned (OpenSpec.ofChange setproofValuesWrong)

/-- 'dominolaw28.SetproofPairs': WHATEVER THE INPUT: true; the input reads as it did. -/
def setproofPairsSpec : ChangeSpec := { name := "setproofPairs", fn := fun _ => fun
  | [d1, d2, d3] => { results := [.lit (.bool true)], args := [d1, d2, d3] }
  | _ => none }
def setproofPairsRow : OpenClaim := { program := "ytecobjddpinonaagreat", sum := "b156c948968bdafce8bc370c4be0349eec9b748391ec3ba49e29a35eb0249764", func := "domino/dominolaw28.SetproofPairs", spec := "setproofPairs", inPlace := ["internal/bytealg.abigen_runtime_cmpstring"], unfollowed := true, recurses := true, named := ["math/bits.divideError", "math/bits.overflowError"], apart := false }
def SetproofPairsSaid : Prop := setproofPairsRow.holds Tryz.pinned (OpenSpec.ofChange setproofPairsSpec)

/-- ITS FALSE NEIGHBOUR: 'it returns false'. Refute it at one input. -/
def setproofPairsWrong : ChangeSpec := { name := "setproofPairs", fn := fun _ => fun
  | [d1, d2, d3] => { results := [.lit (.bool false)], args := [d1, d2, d3] }
  | _ => none }
def SetproofPairsWrongFalsely : Prop := setproofPairsRow.holds Tryz.pinned (OpenSpec.ofChange setproofPairsWrong)

/-- 'dominolaw28.SetproofWitnesses': WHATEVER THE INPUT: true; the input reads as it did. -/
def setproofWitnessesSpec : ChangeSpec := { name := "setproofWitnesses", fn := fun _ => fun
  | [d1, d2, d3] => { results := [.lit (.bool true)], args := [d1, d2, d3] }
  | _ => none }
def setproofWitnessesRow : OpenClaim := { program := "ytecobjddpinonaagreat", sum := "b156c948968bdafce8bc370c4be0349eec9b748391ec3ba49e29a35eb0249764", func := "domino/dominolaw28.SetproofWitnesses", spec := "setproofWitnesses", inPlace := ["internal/bytealg.abigen_runtime_cmpstring"], unfollowed := true, recurses := true, named := ["math/bits.divideError", "math/bits.overflowError"], apart := false }
def SetproofWitnessesSaid : Prop := setproofWitnessesRow.holds Tryz.pinned (OpenSpec.ofChange setproofWitnessesSpec)

/-- ITS FALSE NEIGHBOUR: 'it returns false'. Refute it at one input. -/
def setproofWitnessesWrong : ChangeSpec := { name := "setproofWitnesses", fn := fun _ => fun
  | [d1, d2, d3] => { results := [.lit (.bool false)], args := [d1, d2, d3] }
  | _ => none }
def SetproofWitnessesWrongFalsely : Prop := setproofWitnessesRow.holds Tryz.pinned (OpenSpec.ofChange setproofWitnessesWrong)

/-- 'dominolaw28.SetproofSets': WHATEVER THE INPUT: true; the input reads as it did. -/
def setproofSetsSpec : ChangeSpec := { name := "setproofSets", fn := fun _ => fun
  | [d1, d2, d3] => { results := [.lit (.bool true)], args := [d1, d2, d3] }
  | _ => none }
def setproofSetsRow : OpenClaim := { program := "ytecobjddpinonaagreat", sum := "b156c948968bdafce8bc370c4be0349eec9b748391ec3ba49e29a35eb0249764", func := "domino/dominolaw28.SetproofSets", spec := "setproofSets", inPlace := ["internal/bytealg.abigen_runtime_cmpstring"], unfollowed := true, recurses := true, named := ["math/bits.divideError", "math/bits.overflowError"], apart := false }
def SetproofSetsSaid : Prop := setproofSetsRow.holds Tryz.pinned (OpenSpec.ofChange setproofSetsSpec)

/-- ITS FALSE NEIGHBOUR: 'it returns false'. Refute it at one input. -/
def setproofSetsWrong : ChangeSpec := { name := "setproofSets", fn := fun _ => fun
  | [d1, d2, d3] => { results := [.lit (.bool false)], args := [d1, d2, d3] }
  | _ => none }
def SetproofSetsWrongFalsely : Prop := setproofSetsRow.holds Tryz.pinned (OpenSpec.ofChange setproofSetsWrong)

/- THE SECOND FORM. 'bulk': how many values and letters a reading holds, each counted each time it is reached (what is shared counts as often as it is met; a slice's spare places count too). A statement '..UptoSaid' is the law's where the arguments, and the package variables that the reading takes, are together of bulk at most 1048576: NARROWER than '..Said'. Prove '..Said' where nothing that the law and all that it calls make is longer than what came in: it says more and counts as full. Else prove '..UptoSaid'. A law counts once. -/
mutual
def uptoBulk {H : Type} : DataW H → Nat
  | .lit (.string bytes) => bytes.length + 1
  | .lit _ => 1
  | .nil => 1
  | .ptr d => uptoBulk d + 1
  | .slice elems spare => uptoBulkAll elems + uptoBulkAll spare + 1
  | .agg parts => uptoBulkAll parts + 1
  | .iface _ d => uptoBulk d + 1
  | .map entries => uptoBulkEntries entries + 1
  | .held _ => 1
def uptoBulkAll {H : Type} : List (DataW H) → Nat
  | [] => 0
  | d :: r => uptoBulk d + uptoBulkAll r
def uptoBulkEntries {H : Type} : List (Lit × DataW H) → Nat
  | [] => 0
  | x :: r => uptoBulkEntry x + uptoBulkEntries r
def uptoBulkEntry {H : Type} : Lit × DataW H → Nat
  | (.string bytes, d) => bytes.length + uptoBulk d + 1
  | (_, d) => uptoBulk d + 1
 end
def uptoSmall : (H : Type) → List (DataW H) → Bool := fun _ ds => decide (uptoBulkAll ds ≤ 1048576)
def OpenSpec.upto (s : _root_.Go.ChangeSpec) : _root_.Go.OpenSpec := { _root_.Go.OpenSpec.ofChange s with cond := some uptoSmall }

/-- 'dominolaw28.SetproofValues', WHERE WHAT IT READS IS OF BULK AT MOST 1048576: true; the input reads as it did. -/
def setproofValuesUptoRow : OpenClaim := { program := "ytecobjddpinonaagreat", sum := "b156c948968bdafce8bc370c4be0349eec9b748391ec3ba49e29a35eb0249764", func := "domino/dominolaw28.SetproofValues", spec := "setproofValues", inPlace := ["internal/bytealg.abigen_runtime_cmpstring"], unfollowed := true, recurses := true, named := ["math/bits.divideError", "math/bits.overflowError"], apart := false, narrowed := true }
def SetproofValuesUptoSaid : Prop := setproofValuesUptoRow.holds Tryz.pinned (OpenSpec.upto setproofValuesSpec)

/-- 'dominolaw28.SetproofPairs', WHERE WHAT IT READS IS OF BULK AT MOST 1048576: true; the input reads as it did. -/
def setproofPairsUptoRow : OpenClaim := { program := "ytecobjddpinonaagreat", sum := "b156c948968bdafce8bc370c4be0349eec9b748391ec3ba49e29a35eb0249764", func := "domino/dominolaw28.SetproofPairs", spec := "setproofPairs", inPlace := ["internal/bytealg.abigen_runtime_cmpstring"], unfollowed := true, recurses := true, named := ["math/bits.divideError", "math/bits.overflowError"], apart := false, narrowed := true }
def SetproofPairsUptoSaid : Prop := setproofPairsUptoRow.holds Tryz.pinned (OpenSpec.upto setproofPairsSpec)

/-- 'dominolaw28.SetproofWitnesses', WHERE WHAT IT READS IS OF BULK AT MOST 1048576: true; the input reads as it did. -/
def setproofWitnessesUptoRow : OpenClaim := { program := "ytecobjddpinonaagreat", sum := "b156c948968bdafce8bc370c4be0349eec9b748391ec3ba49e29a35eb0249764", func := "domino/dominolaw28.SetproofWitnesses", spec := "setproofWitnesses", inPlace := ["internal/bytealg.abigen_runtime_cmpstring"], unfollowed := true, recurses := true, named := ["math/bits.divideError", "math/bits.overflowError"], apart := false, narrowed := true }
def SetproofWitnessesUptoSaid : Prop := setproofWitnessesUptoRow.holds Tryz.pinned (OpenSpec.upto setproofWitnessesSpec)

/-- 'dominolaw28.SetproofSets', WHERE WHAT IT READS IS OF BULK AT MOST 1048576: true; the input reads as it did. -/
def setproofSetsUptoRow : OpenClaim := { program := "ytecobjddpinonaagreat", sum := "b156c948968bdafce8bc370c4be0349eec9b748391ec3ba49e29a35eb0249764", func := "domino/dominolaw28.SetproofSets", spec := "setproofSets", inPlace := ["internal/bytealg.abigen_runtime_cmpstring"], unfollowed := true, recurses := true, named := ["math/bits.divideError", "math/bits.overflowError"], apart := false, narrowed := true }
def SetproofSetsUptoSaid : Prop := setproofSetsUptoRow.holds Tryz.pinned (OpenSpec.upto setproofSetsSpec)

end Rows
end Go.Proofs.YtecobjddpinonaaGreat
