/-
  No cell of these rows narrows 'for every input' (looked for: loops, veiled, ifaces, maps, wideKeys, modest, calm, conditions, laid).
  DERIVED. THE GIVEN ROWS OF THIS SEAT. 5 by the template 'for every input the law returns true; each argument reads behind the call as it read before'; 0 by the template 'total and deterministic' (their statements: YtbcgimgkcdpjcaaGreatTotals.lean).
  GIVEN WITH THE SEED: the statements are not yours to turn. If you find one false, say at which input.
  Laid BY PROGRAM, IN A SANDBOX (cutbox-rows.mjs): the forced cells as the released guide's own fill.sh prints them over the translation 2b13763463df0782… (all of the seat's roots in one cut). By AI agents, Wed Nov 11 2026. No macro, syntax, notation, axiom, sorry.
-/
import Derived.Test.YtbcgimgkcdpjcaaGreatChecked
import GoSem.Claim
import GoSem.ClaimJoined
import GoSem.ClaimMapViews
import Derived.JoinedTies
import Derived.KernelRfl
namespace Go.Proofs.YtbcgimgkcdpjcaaGreat
/- THE CELL 'sum', in the pinned program and in every row, IS THE sha256 OF THE DUMP (.gsa) THAT YtbcgimgkcdpjcaaGreatProg.lean LOADS. Nothing in Lean hashes anything: it is a label: what it is worth is what the hold of that sum in a sandbox is worth. -/
noncomputable def Tryz.pinned : Pinned := { name := "ytbcgimgkcdpjcaagreat", sum := "2b13763463df0782f11f9abe0c936832a3eab956532d16b5ffcecc19ca3b01c6", checked := Tryz.checked }
namespace Rows
def none {H : Type} : Left H := { results := [], args := [] }

/-- 'dominolaw18.ExtractorDiffers': WHATEVER THE INPUT: true; the input reads as it did. -/
def extractorDiffersSpec : ChangeSpec := { name := "extractorDiffers", fn := fun _ => fun
  | [d] => { results := [.lit (.bool true)], args := [d] }
  | _ => none }
def extractorDiffersRow : OpenClaim := { program := "ytbcgimgkcdpjcaagreat", sum := "2b13763463df0782f11f9abe0c936832a3eab956532d16b5ffcecc19ca3b01c6", func := "domino/dominolaw18.ExtractorDiffers", spec := "extractorDiffers", inPlace := ["internal/bytealg.abigen_runtime_cmpstring"], unfollowed := true, recurses := true, named := ["math/bits.divideError", "math/bits.overflowError"], apart := false }
def ExtractorDiffersSaid : Prop := extractorDiffersRow.holds Tryz.pinned (OpenSpec.ofChange extractorDiffersSpec)

/-- ITS FALSE NEIGHBOUR: 'it returns false'. Refute it at one input. -/
def extractorDiffersWrong : ChangeSpec := { name := "extractorDiffers", fn := fun _ => fun
  | [d] => { results := [.lit (.bool false)], args := [d] }
  | _ => none }
def ExtractorDiffersWrongFalsely : Prop := extractorDiffersRow.holds Tryz.pinned (OpenSpec.ofChange extractorDiffersWrong)

/-- 'dominolaw18.ExtractorExtracts': WHATEVER THE INPUT: true; the input reads as it did. -/
def extractorExtractsSpec : ChangeSpec := { name := "extractorExtracts", fn := fun _ => fun
  | [d] => { results := [.lit (.bool true)], args := [d] }
  | _ => none }
def extractorExtractsRow : OpenClaim := { program := "ytbcgimgkcdpjcaagreat", sum := "2b13763463df0782f11f9abe0c936832a3eab956532d16b5ffcecc19ca3b01c6", func := "domino/dominolaw18.ExtractorExtracts", spec := "extractorExtracts", inPlace := ["internal/bytealg.abigen_runtime_cmpstring"], unfollowed := true, recurses := true, named := ["math/bits.divideError", "math/bits.overflowError"], apart := false }
def ExtractorExtractsSaid : Prop := extractorExtractsRow.holds Tryz.pinned (OpenSpec.ofChange extractorExtractsSpec)

/-- ITS FALSE NEIGHBOUR: 'it returns false'. Refute it at one input. -/
def extractorExtractsWrong : ChangeSpec := { name := "extractorExtracts", fn := fun _ => fun
  | [d] => { results := [.lit (.bool false)], args := [d] }
  | _ => none }
def ExtractorExtractsWrongFalsely : Prop := extractorExtractsRow.holds Tryz.pinned (OpenSpec.ofChange extractorExtractsWrong)

/-- 'dominolaw18.ExtractorRelates': WHATEVER THE INPUT: true; the input reads as it did. -/
def extractorRelatesSpec : ChangeSpec := { name := "extractorRelates", fn := fun _ => fun
  | [d] => { results := [.lit (.bool true)], args := [d] }
  | _ => none }
def extractorRelatesRow : OpenClaim := { program := "ytbcgimgkcdpjcaagreat", sum := "2b13763463df0782f11f9abe0c936832a3eab956532d16b5ffcecc19ca3b01c6", func := "domino/dominolaw18.ExtractorRelates", spec := "extractorRelates", inPlace := ["internal/bytealg.abigen_runtime_cmpstring"], unfollowed := true, recurses := true, named := ["math/bits.divideError", "math/bits.overflowError"], apart := false }
def ExtractorRelatesSaid : Prop := extractorRelatesRow.holds Tryz.pinned (OpenSpec.ofChange extractorRelatesSpec)

/-- ITS FALSE NEIGHBOUR: 'it returns false'. Refute it at one input. -/
def extractorRelatesWrong : ChangeSpec := { name := "extractorRelates", fn := fun _ => fun
  | [d] => { results := [.lit (.bool false)], args := [d] }
  | _ => none }
def ExtractorRelatesWrongFalsely : Prop := extractorRelatesRow.holds Tryz.pinned (OpenSpec.ofChange extractorRelatesWrong)

/-- 'dominolaw18.ExtractorRefuses': WHATEVER THE INPUT: true; the input reads as it did. -/
def extractorRefusesSpec : ChangeSpec := { name := "extractorRefuses", fn := fun _ => fun
  | [d] => { results := [.lit (.bool true)], args := [d] }
  | _ => none }
def extractorRefusesRow : OpenClaim := { program := "ytbcgimgkcdpjcaagreat", sum := "2b13763463df0782f11f9abe0c936832a3eab956532d16b5ffcecc19ca3b01c6", func := "domino/dominolaw18.ExtractorRefuses", spec := "extractorRefuses", inPlace := ["internal/bytealg.abigen_runtime_cmpstring"], unfollowed := true, recurses := true, named := ["math/bits.divideError", "math/bits.overflowError"], apart := false }
def ExtractorRefusesSaid : Prop := extractorRefusesRow.holds Tryz.pinned (OpenSpec.ofChange extractorRefusesSpec)

/-- ITS FALSE NEIGHBOUR: 'it returns false'. Refute it at one input. -/
def extractorRefusesWrong : ChangeSpec := { name := "extractorRefuses", fn := fun _ => fun
  | [d] => { results := [.lit (.bool false)], args := [d] }
  | _ => none }
def ExtractorRefusesWrongFalsely : Prop := extractorRefusesRow.holds Tryz.pinned (OpenSpec.ofChange extractorRefusesWrong)

/-- 'dominolaw18.ExtractorSatisfies': WHATEVER THE INPUT: true; the input reads as it did. -/
def extractorSatisfiesSpec : ChangeSpec := { name := "extractorSatisfies", fn := fun _ => fun
  | [d] => { results := [.lit (.bool true)], args := [d] }
  | _ => none }
def extractorSatisfiesRow : OpenClaim := { program := "ytbcgimgkcdpjcaagreat", sum := "2b13763463df0782f11f9abe0c936832a3eab956532d16b5ffcecc19ca3b01c6", func := "domino/dominolaw18.ExtractorSatisfies", spec := "extractorSatisfies", inPlace := ["internal/bytealg.abigen_runtime_cmpstring"], unfollowed := true, recurses := true, named := ["math/bits.divideError", "math/bits.overflowError"], apart := false }
def ExtractorSatisfiesSaid : Prop := extractorSatisfiesRow.holds Tryz.pinned (OpenSpec.ofChange extractorSatisfiesSpec)

/-- ITS FALSE NEIGHBOUR: 'it returns false'. Refute it at one input. -/
def extractorSatisfiesWrong : ChangeSpec := { name := "extractorSatisfies", fn := fun _ => fun
  | [d] => { results := [.lit (.bool false)], args := [d] }
  | _ => none }
def ExtractorSatisfiesWrongFalsely : Prop := extractorSatisfiesRow.holds Tryz.pinned (OpenSpec.ofChange extractorSatisfiesWrong)

/- THE SECOND FORM. 'bulk': how many values and letters a reading holds, each counted each time it is reached (what is shared counts as often as it is met; a slice's spare places count too). A statement '..UptoSaid' is the law's where the arguments, and the package variables that the reading takes, are together of bulk at most 1048576: NARROWER than '..Said'. Prove '..Said' where nothing that the law and all that it calls make is longer than what came in: it says more and counts as full. Else prove '..UptoSaid'. A law counts once. -/
mutual
def uptoBulk {H : Type} : DataW H → Nat
  | .lit (.string bytes) => bytes.length + 1
  | .lit _ => 1
  | .nil => 1
  | .ptr d => uptoBulk d + 1
  | .slice elems spare => uptoBulkAll elems + uptoBulkAll spare + 1
  | .agg parts => uptoBulkAll parts + 1
  | .iface _ d => uptoBulk d + 1
  | .map entries => uptoBulkEntries entries + 1
  | .held _ => 1
def uptoBulkAll {H : Type} : List (DataW H) → Nat
  | [] => 0
  | d :: r => uptoBulk d + uptoBulkAll r
def uptoBulkEntries {H : Type} : List (Lit × DataW H) → Nat
  | [] => 0
  | x :: r => uptoBulkEntry x + uptoBulkEntries r
def uptoBulkEntry {H : Type} : Lit × DataW H → Nat
  | (.string bytes, d) => bytes.length + uptoBulk d + 1
  | (_, d) => uptoBulk d + 1
 end
def uptoSmall : (H : Type) → List (DataW H) → Bool := fun _ ds => decide (uptoBulkAll ds ≤ 1048576)
def OpenSpec.upto (s : _root_.Go.ChangeSpec) : _root_.Go.OpenSpec := { _root_.Go.OpenSpec.ofChange s with cond := some uptoSmall }

/-- 'dominolaw18.ExtractorDiffers', WHERE WHAT IT READS IS OF BULK AT MOST 1048576: true; the input reads as it did. -/
def extractorDiffersUptoRow : OpenClaim := { program := "ytbcgimgkcdpjcaagreat", sum := "2b13763463df0782f11f9abe0c936832a3eab956532d16b5ffcecc19ca3b01c6", func := "domino/dominolaw18.ExtractorDiffers", spec := "extractorDiffers", inPlace := ["internal/bytealg.abigen_runtime_cmpstring"], unfollowed := true, recurses := true, named := ["math/bits.divideError", "math/bits.overflowError"], apart := false, narrowed := true }
def ExtractorDiffersUptoSaid : Prop := extractorDiffersUptoRow.holds Tryz.pinned (OpenSpec.upto extractorDiffersSpec)

/-- 'dominolaw18.ExtractorExtracts', WHERE WHAT IT READS IS OF BULK AT MOST 1048576: true; the input reads as it did. -/
def extractorExtractsUptoRow : OpenClaim := { program := "ytbcgimgkcdpjcaagreat", sum := "2b13763463df0782f11f9abe0c936832a3eab956532d16b5ffcecc19ca3b01c6", func := "domino/dominolaw18.ExtractorExtracts", spec := "extractorExtracts", inPlace := ["internal/bytealg.abigen_runtime_cmpstring"], unfollowed := true, recurses := true, named := ["math/bits.divideError", "math/bits.overflowError"], apart := false, narrowed := true }
def ExtractorExtractsUptoSaid : Prop := extractorExtractsUptoRow.holds Tryz.pinned (OpenSpec.upto extractorExtractsSpec)

/-- 'dominolaw18.ExtractorRelates', WHERE WHAT IT READS IS OF BULK AT MOST 1048576: true; the input reads as it did. -/
def extractorRelatesUptoRow : OpenClaim := { program := "ytbcgimgkcdpjcaagreat", sum := "2b13763463df0782f11f9abe0c936832a3eab956532d16b5ffcecc19ca3b01c6", func := "domino/dominolaw18.ExtractorRelates", spec := "extractorRelates", inPlace := ["internal/bytealg.abigen_runtime_cmpstring"], unfollowed := true, recurses := true, named := ["math/bits.divideError", "math/bits.overflowError"], apart := false, narrowed := true }
def ExtractorRelatesUptoSaid : Prop := extractorRelatesUptoRow.holds Tryz.pinned (OpenSpec.upto extractorRelatesSpec)

/-- 'dominolaw18.ExtractorRefuses', WHERE WHAT IT READS IS OF BULK AT MOST 1048576: true; the input reads as it did. -/
def extractorRefusesUptoRow : OpenClaim := { program := "ytbcgimgkcdpjcaagreat", sum := "2b13763463df0782f11f9abe0c936832a3eab956532d16b5ffcecc19ca3b01c6", func := "domino/dominolaw18.ExtractorRefuses", spec := "extractorRefuses", inPlace := ["internal/bytealg.abigen_runtime_cmpstring"], unfollowed := true, recurses := true, named := ["math/bits.divideError", "math/bits.overflowError"], apart := false, narrowed := true }
def ExtractorRefusesUptoSaid : Prop := extractorRefusesUptoRow.holds Tryz.pinned (OpenSpec.upto extractorRefusesSpec)

/-- 'dominolaw18.ExtractorSatisfies', WHERE WHAT IT READS IS OF BULK AT MOST 1048576: true; the input reads as it did. -/
def extractorSatisfiesUptoRow : OpenClaim := { program := "ytbcgimgkcdpjcaagreat", sum := "2b13763463df0782f11f9abe0c936832a3eab956532d16b5ffcecc19ca3b01c6", func := "domino/dominolaw18.ExtractorSatisfies", spec := "extractorSatisfies", inPlace := ["internal/bytealg.abigen_runtime_cmpstring"], unfollowed := true, recurses := true, named := ["math/bits.divideError", "math/bits.overflowError"], apart := false, narrowed := true }
def ExtractorSatisfiesUptoSaid : Prop := extractorSatisfiesUptoRow.holds Tryz.pinned (OpenSpec.upto extractorSatisfiesSpec)

end Rows
end Go.Proofs.YtbcgimgkcdpjcaaGreat
