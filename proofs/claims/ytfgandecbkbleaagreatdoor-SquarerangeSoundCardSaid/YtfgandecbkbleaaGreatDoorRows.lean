/-
  NARROWER THAN 'FOR EVERY INPUT', by the rows' own cells (each row's printed sentence says how): SquarerangeWitnesses: laid · SquarerangePrepares: laid · SquarerangeStates: laid · SquarerangeComplete: laid · SquarerangeSound: laid.
  DERIVED. THE GIVEN ROWS OF THIS SEAT. 5 by the template 'for every input the law returns true; each argument reads behind the call as it read before'; 0 by the template 'total and deterministic' (their statements: YtfgandecbkbleaaGreatDoorTotals.lean).
  GIVEN WITH THE SEED: the statements are not yours to turn. If you find one false, say at which input.
  Laid BY PROGRAM, IN A SANDBOX (cutbox-rows.mjs): the forced cells as the released guide's own fill.sh prints them over the translation 45827b001b724300… (all of the seat's roots in one cut). By AI agents, Wed Nov 11 2026. No macro, syntax, notation, axiom, sorry.
-/
import Derived.Test.YtfgandecbkbleaaGreatDoorChecked
import GoSem.Claim
import GoSem.ClaimJoined
import GoSem.ClaimMapViews
import Derived.JoinedTies
import Derived.KernelRfl
namespace Go.Proofs.YtfgandecbkbleaaGreatDoor
/- THE CELL 'sum', in the pinned program and in every row, IS THE sha256 OF THE DUMP (.gsa) THAT YtfgandecbkbleaaGreatDoorProg.lean LOADS. Nothing in Lean hashes anything: it is a label: what it is worth is what the hold of that sum in a sandbox is worth. -/
noncomputable def Tryz.pinned : Pinned := { name := "ytfgandecbkbleaagreatdoor", sum := "45827b001b7243005e84069d584b645f4447fda99a5b2fd5226f713459df0685", checked := Tryz.checked }
namespace Rows
def none {H : Type} : Left H := { results := [], args := [] }

/- WHAT THE LISTED PACKAGE-LEVEL VARIABLES READ AS WHEN THE CALL BEGINS. Each datum BY PROGRAM (the guide's laid-datum.mjs) off the statement by which the dump's own 'gosem.cut.vars' lays the variable. In a bare row this is a premise. The card (YtfgandecbkbleaaGreatDoorCards.lean) ties it to the program's text. -/
def laid_math_bits_deBruijn32tab {H : Type} : DataW H := .agg [.lit (.int .u8 0), .lit (.int .u8 1), .lit (.int .u8 28), .lit (.int .u8 2), .lit (.int .u8 29), .lit (.int .u8 14), .lit (.int .u8 24), .lit (.int .u8 3), .lit (.int .u8 30), .lit (.int .u8 22), .lit (.int .u8 20), .lit (.int .u8 15), .lit (.int .u8 25), .lit (.int .u8 17), .lit (.int .u8 4), .lit (.int .u8 8), .lit (.int .u8 31), .lit (.int .u8 27), .lit (.int .u8 13), .lit (.int .u8 23), .lit (.int .u8 21), .lit (.int .u8 19), .lit (.int .u8 16), .lit (.int .u8 7), .lit (.int .u8 26), .lit (.int .u8 12), .lit (.int .u8 18), .lit (.int .u8 6), .lit (.int .u8 11), .lit (.int .u8 5), .lit (.int .u8 10), .lit (.int .u8 9)]
def laid_math_bits_deBruijn64tab {H : Type} : DataW H := .agg [.lit (.int .u8 0), .lit (.int .u8 1), .lit (.int .u8 56), .lit (.int .u8 2), .lit (.int .u8 57), .lit (.int .u8 49), .lit (.int .u8 28), .lit (.int .u8 3), .lit (.int .u8 61), .lit (.int .u8 58), .lit (.int .u8 42), .lit (.int .u8 50), .lit (.int .u8 38), .lit (.int .u8 29), .lit (.int .u8 17), .lit (.int .u8 4), .lit (.int .u8 62), .lit (.int .u8 47), .lit (.int .u8 59), .lit (.int .u8 36), .lit (.int .u8 45), .lit (.int .u8 43), .lit (.int .u8 51), .lit (.int .u8 22), .lit (.int .u8 53), .lit (.int .u8 39), .lit (.int .u8 33), .lit (.int .u8 30), .lit (.int .u8 24), .lit (.int .u8 18), .lit (.int .u8 12), .lit (.int .u8 5), .lit (.int .u8 63), .lit (.int .u8 55), .lit (.int .u8 48), .lit (.int .u8 27), .lit (.int .u8 60), .lit (.int .u8 41), .lit (.int .u8 37), .lit (.int .u8 16), .lit (.int .u8 46), .lit (.int .u8 35), .lit (.int .u8 44), .lit (.int .u8 21), .lit (.int .u8 52), .lit (.int .u8 32), .lit (.int .u8 23), .lit (.int .u8 11), .lit (.int .u8 54), .lit (.int .u8 26), .lit (.int .u8 40), .lit (.int .u8 15), .lit (.int .u8 34), .lit (.int .u8 20), .lit (.int .u8 31), .lit (.int .u8 10), .lit (.int .u8 25), .lit (.int .u8 14), .lit (.int .u8 19), .lit (.int .u8 9), .lit (.int .u8 13), .lit (.int .u8 8), .lit (.int .u8 7), .lit (.int .u8 6)]
def laid_internal_strconv_uint64pow10 {H : Type} : DataW H := .agg [.lit (.int .u64 1), .lit (.int .u64 10), .lit (.int .u64 100), .lit (.int .u64 1000), .lit (.int .u64 10000), .lit (.int .u64 100000), .lit (.int .u64 1000000), .lit (.int .u64 10000000), .lit (.int .u64 100000000), .lit (.int .u64 1000000000), .lit (.int .u64 10000000000), .lit (.int .u64 100000000000), .lit (.int .u64 1000000000000), .lit (.int .u64 10000000000000), .lit (.int .u64 100000000000000), .lit (.int .u64 1000000000000000), .lit (.int .u64 10000000000000000), .lit (.int .u64 100000000000000000), .lit (.int .u64 1000000000000000000), .lit (.int .u64 10000000000000000000)]

/-- 'dominolaw27.SquarerangeWitnesses': WHATEVER THE INPUT: true; the input reads as it did. -/
def squarerangeWitnessesSpec : ChangeSpec := { name := "squarerangeWitnesses", fn := fun _ => fun
  | [d1, d2] => { results := [.lit (.bool true)], args := [d1, d2] }
  | _ => none }
def squarerangeWitnessesRow : OpenClaim := { program := "ytfgandecbkbleaagreatdoor", sum := "45827b001b7243005e84069d584b645f4447fda99a5b2fd5226f713459df0685", func := "domino/dominolaw27.SquarerangeWitnesses", spec := "squarerangeWitnesses", inPlace := ["internal/bytealg.abigen_runtime_cmpstring"], unfollowed := true, recurses := true, named := ["math/bits.divideError", "math/bits.overflowError", "internal/strconv.uint64pow10", "math/bits.deBruijn32tab", "math/bits.deBruijn64tab"], apart := false, laid := [("math/bits.deBruijn32tab", laid_math_bits_deBruijn32tab), ("math/bits.deBruijn64tab", laid_math_bits_deBruijn64tab), ("internal/strconv.uint64pow10", laid_internal_strconv_uint64pow10)] }
def SquarerangeWitnessesSaid : Prop := squarerangeWitnessesRow.holds Tryz.pinned (OpenSpec.ofChange squarerangeWitnessesSpec)

/-- ITS FALSE NEIGHBOUR: 'it returns false'. Refute it at one input. -/
def squarerangeWitnessesWrong : ChangeSpec := { name := "squarerangeWitnesses", fn := fun _ => fun
  | [d1, d2] => { results := [.lit (.bool false)], args := [d1, d2] }
  | _ => none }
def SquarerangeWitnessesWrongFalsely : Prop := squarerangeWitnessesRow.holds Tryz.pinned (OpenSpec.ofChange squarerangeWitnessesWrong)

/-- 'dominolaw27.SquarerangePrepares': WHATEVER THE INPUT: true; the input reads as it did. -/
def squarerangePreparesSpec : ChangeSpec := { name := "squarerangePrepares", fn := fun _ => fun
  | [d1, d2] => { results := [.lit (.bool true)], args := [d1, d2] }
  | _ => none }
def squarerangePreparesRow : OpenClaim := { program := "ytfgandecbkbleaagreatdoor", sum := "45827b001b7243005e84069d584b645f4447fda99a5b2fd5226f713459df0685", func := "domino/dominolaw27.SquarerangePrepares", spec := "squarerangePrepares", inPlace := ["internal/bytealg.abigen_runtime_cmpstring"], unfollowed := true, recurses := true, named := ["math/bits.divideError", "math/bits.overflowError", "internal/strconv.uint64pow10", "math/bits.deBruijn32tab", "math/bits.deBruijn64tab"], apart := false, laid := [("math/bits.deBruijn32tab", laid_math_bits_deBruijn32tab), ("math/bits.deBruijn64tab", laid_math_bits_deBruijn64tab), ("internal/strconv.uint64pow10", laid_internal_strconv_uint64pow10)] }
def SquarerangePreparesSaid : Prop := squarerangePreparesRow.holds Tryz.pinned (OpenSpec.ofChange squarerangePreparesSpec)

/-- ITS FALSE NEIGHBOUR: 'it returns false'. Refute it at one input. -/
def squarerangePreparesWrong : ChangeSpec := { name := "squarerangePrepares", fn := fun _ => fun
  | [d1, d2] => { results := [.lit (.bool false)], args := [d1, d2] }
  | _ => none }
def SquarerangePreparesWrongFalsely : Prop := squarerangePreparesRow.holds Tryz.pinned (OpenSpec.ofChange squarerangePreparesWrong)

/-- 'dominolaw27.SquarerangeStates': WHATEVER THE INPUT: true; the input reads as it did. -/
def squarerangeStatesSpec : ChangeSpec := { name := "squarerangeStates", fn := fun _ => fun
  | [d1, d2, d3] => { results := [.lit (.bool true)], args := [d1, d2, d3] }
  | _ => none }
def squarerangeStatesRow : OpenClaim := { program := "ytfgandecbkbleaagreatdoor", sum := "45827b001b7243005e84069d584b645f4447fda99a5b2fd5226f713459df0685", func := "domino/dominolaw27.SquarerangeStates", spec := "squarerangeStates", inPlace := ["internal/bytealg.abigen_runtime_cmpstring"], unfollowed := true, recurses := true, named := ["math/bits.divideError", "math/bits.overflowError", "internal/strconv.uint64pow10", "math/bits.deBruijn32tab", "math/bits.deBruijn64tab"], apart := false, laid := [("math/bits.deBruijn32tab", laid_math_bits_deBruijn32tab), ("math/bits.deBruijn64tab", laid_math_bits_deBruijn64tab), ("internal/strconv.uint64pow10", laid_internal_strconv_uint64pow10)] }
def SquarerangeStatesSaid : Prop := squarerangeStatesRow.holds Tryz.pinned (OpenSpec.ofChange squarerangeStatesSpec)

/-- ITS FALSE NEIGHBOUR: 'it returns false'. Refute it at one input. -/
def squarerangeStatesWrong : ChangeSpec := { name := "squarerangeStates", fn := fun _ => fun
  | [d1, d2, d3] => { results := [.lit (.bool false)], args := [d1, d2, d3] }
  | _ => none }
def SquarerangeStatesWrongFalsely : Prop := squarerangeStatesRow.holds Tryz.pinned (OpenSpec.ofChange squarerangeStatesWrong)

/-- 'dominolaw27.SquarerangeComplete': WHATEVER THE INPUT: true; the input reads as it did. -/
def squarerangeCompleteSpec : ChangeSpec := { name := "squarerangeComplete", fn := fun _ => fun
  | [d1, d2] => { results := [.lit (.bool true)], args := [d1, d2] }
  | _ => none }
def squarerangeCompleteRow : OpenClaim := { program := "ytfgandecbkbleaagreatdoor", sum := "45827b001b7243005e84069d584b645f4447fda99a5b2fd5226f713459df0685", func := "domino/dominolaw27.SquarerangeComplete", spec := "squarerangeComplete", inPlace := ["internal/bytealg.abigen_runtime_cmpstring"], unfollowed := true, recurses := true, named := ["math/bits.divideError", "math/bits.overflowError", "internal/strconv.uint64pow10", "math/bits.deBruijn32tab", "math/bits.deBruijn64tab"], apart := false, laid := [("math/bits.deBruijn32tab", laid_math_bits_deBruijn32tab), ("math/bits.deBruijn64tab", laid_math_bits_deBruijn64tab), ("internal/strconv.uint64pow10", laid_internal_strconv_uint64pow10)] }
def SquarerangeCompleteSaid : Prop := squarerangeCompleteRow.holds Tryz.pinned (OpenSpec.ofChange squarerangeCompleteSpec)

/-- ITS FALSE NEIGHBOUR: 'it returns false'. Refute it at one input. -/
def squarerangeCompleteWrong : ChangeSpec := { name := "squarerangeComplete", fn := fun _ => fun
  | [d1, d2] => { results := [.lit (.bool false)], args := [d1, d2] }
  | _ => none }
def SquarerangeCompleteWrongFalsely : Prop := squarerangeCompleteRow.holds Tryz.pinned (OpenSpec.ofChange squarerangeCompleteWrong)

/-- 'dominolaw27.SquarerangeSound': WHATEVER THE INPUT: true; the input reads as it did. -/
def squarerangeSoundSpec : ChangeSpec := { name := "squarerangeSound", fn := fun _ => fun
  | [d1, d2] => { results := [.lit (.bool true)], args := [d1, d2] }
  | _ => none }
def squarerangeSoundRow : OpenClaim := { program := "ytfgandecbkbleaagreatdoor", sum := "45827b001b7243005e84069d584b645f4447fda99a5b2fd5226f713459df0685", func := "domino/dominolaw27.SquarerangeSound", spec := "squarerangeSound", inPlace := ["internal/bytealg.abigen_runtime_cmpstring"], unfollowed := true, recurses := true, named := ["math/bits.divideError", "math/bits.overflowError", "internal/strconv.uint64pow10", "math/bits.deBruijn32tab", "math/bits.deBruijn64tab"], apart := false, laid := [("math/bits.deBruijn32tab", laid_math_bits_deBruijn32tab), ("math/bits.deBruijn64tab", laid_math_bits_deBruijn64tab), ("internal/strconv.uint64pow10", laid_internal_strconv_uint64pow10)] }
def SquarerangeSoundSaid : Prop := squarerangeSoundRow.holds Tryz.pinned (OpenSpec.ofChange squarerangeSoundSpec)

/-- ITS FALSE NEIGHBOUR: 'it returns false'. Refute it at one input. -/
def squarerangeSoundWrong : ChangeSpec := { name := "squarerangeSound", fn := fun _ => fun
  | [d1, d2] => { results := [.lit (.bool false)], args := [d1, d2] }
  | _ => none }
def SquarerangeSoundWrongFalsely : Prop := squarerangeSoundRow.holds Tryz.pinned (OpenSpec.ofChange squarerangeSoundWrong)

/- THE SECOND FORM. 'bulk': how many values and letters a reading holds, each counted each time it is reached (what is shared counts as often as it is met; a slice's spare places count too). A statement '..UptoSaid' is the law's where the arguments, and the package variables that the reading takes, are together of bulk at most 1048576: NARROWER than '..Said'. Prove '..Said' where nothing that the law and all that it calls make is longer than what came in: it says more and counts as full. Else prove '..UptoSaid'. A law counts once. -/
mutual
def uptoBulk {H : Type} : DataW H → Nat
  | .lit (.string bytes) => bytes.length + 1
  | .lit _ => 1
  | .nil => 1
  | .ptr d => uptoBulk d + 1
  | .slice elems spare => uptoBulkAll elems + uptoBulkAll spare + 1
  | .agg parts => uptoBulkAll parts + 1
  | .iface _ d => uptoBulk d + 1
  | .map entries => uptoBulkEntries entries + 1
  | .held _ => 1
def uptoBulkAll {H : Type} : List (DataW H) → Nat
  | [] => 0
  | d :: r => uptoBulk d + uptoBulkAll r
def uptoBulkEntries {H : Type} : List (Lit × DataW H) → Nat
  | [] => 0
  | x :: r => uptoBulkEntry x + uptoBulkEntries r
def uptoBulkEntry {H : Type} : Lit × DataW H → Nat
  | (.string bytes, d) => bytes.length + uptoBulk d + 1
  | (_, d) => uptoBulk d + 1
 end
def uptoSmall : (H : Type) → List (DataW H) → Bool := fun _ ds => decide (uptoBulkAll ds ≤ 1048576)
def OpenSpec.upto (s : _root_.Go.ChangeSpec) : _root_.Go.OpenSpec := { _root_.Go.OpenSpec.ofChange s with cond := some uptoSmall }

/-- 'dominolaw27.SquarerangeWitnesses', WHERE WHAT IT READS IS OF BULK AT MOST 1048576: true; the input reads as it did. -/
def squarerangeWitnessesUptoRow : OpenClaim := { program := "ytfgandecbkbleaagreatdoor", sum := "45827b001b7243005e84069d584b645f4447fda99a5b2fd5226f713459df0685", func := "domino/dominolaw27.SquarerangeWitnesses", spec := "squarerangeWitnesses", inPlace := ["internal/bytealg.abigen_runtime_cmpstring"], unfollowed := true, recurses := true, named := ["math/bits.divideError", "math/bits.overflowError", "internal/strconv.uint64pow10", "math/bits.deBruijn32tab", "math/bits.deBruijn64tab"], apart := false, laid := [("math/bits.deBruijn32tab", laid_math_bits_deBruijn32tab), ("math/bits.deBruijn64tab", laid_math_bits_deBruijn64tab), ("internal/strconv.uint64pow10", laid_internal_strconv_uint64pow10)], narrowed := true }
def SquarerangeWitnessesUptoSaid : Prop := squarerangeWitnessesUptoRow.holds Tryz.pinned (OpenSpec.upto squarerangeWitnessesSpec)

/-- 'dominolaw27.SquarerangePrepares', WHERE WHAT IT READS IS OF BULK AT MOST 1048576: true; the input reads as it did. -/
def squarerangePreparesUptoRow : OpenClaim := { program := "ytfgandecbkbleaagreatdoor", sum := "45827b001b7243005e84069d584b645f4447fda99a5b2fd5226f713459df0685", func := "domino/dominolaw27.SquarerangePrepares", spec := "squarerangePrepares", inPlace := ["internal/bytealg.abigen_runtime_cmpstring"], unfollowed := true, recurses := true, named := ["math/bits.divideError", "math/bits.overflowError", "internal/strconv.uint64pow10", "math/bits.deBruijn32tab", "math/bits.deBruijn64tab"], apart := false, laid := [("math/bits.deBruijn32tab", laid_math_bits_deBruijn32tab), ("math/bits.deBruijn64tab", laid_math_bits_deBruijn64tab), ("internal/strconv.uint64pow10", laid_internal_strconv_uint64pow10)], narrowed := true }
def SquarerangePreparesUptoSaid : Prop := squarerangePreparesUptoRow.holds Tryz.pinned (OpenSpec.upto squarerangePreparesSpec)

/-- 'dominolaw27.SquarerangeStates', WHERE WHAT IT READS IS OF BULK AT MOST 1048576: true; the input reads as it did. -/
def squarerangeStatesUptoRow : OpenClaim := { program := "ytfgandecbkbleaagreatdoor", sum := "45827b001b7243005e84069d584b645f4447fda99a5b2fd5226f713459df0685", func := "domino/dominolaw27.SquarerangeStates", spec := "squarerangeStates", inPlace := ["internal/bytealg.abigen_runtime_cmpstring"], unfollowed := true, recurses := true, named := ["math/bits.divideError", "math/bits.overflowError", "internal/strconv.uint64pow10", "math/bits.deBruijn32tab", "math/bits.deBruijn64tab"], apart := false, laid := [("math/bits.deBruijn32tab", laid_math_bits_deBruijn32tab), ("math/bits.deBruijn64tab", laid_math_bits_deBruijn64tab), ("internal/strconv.uint64pow10", laid_internal_strconv_uint64pow10)], narrowed := true }
def SquarerangeStatesUptoSaid : Prop := squarerangeStatesUptoRow.holds Tryz.pinned (OpenSpec.upto squarerangeStatesSpec)

/-- 'dominolaw27.SquarerangeComplete', WHERE WHAT IT READS IS OF BULK AT MOST 1048576: true; the input reads as it did. -/
def squarerangeCompleteUptoRow : OpenClaim := { program := "ytfgandecbkbleaagreatdoor", sum := "45827b001b7243005e84069d584b645f4447fda99a5b2fd5226f713459df0685", func := "domino/dominolaw27.SquarerangeComplete", spec := "squarerangeComplete", inPlace := ["internal/bytealg.abigen_runtime_cmpstring"], unfollowed := true, recurses := true, named := ["math/bits.divideError", "math/bits.overflowError", "internal/strconv.uint64pow10", "math/bits.deBruijn32tab", "math/bits.deBruijn64tab"], apart := false, laid := [("math/bits.deBruijn32tab", laid_math_bits_deBruijn32tab), ("math/bits.deBruijn64tab", laid_math_bits_deBruijn64tab), ("internal/strconv.uint64pow10", laid_internal_strconv_uint64pow10)], narrowed := true }
def SquarerangeCompleteUptoSaid : Prop := squarerangeCompleteUptoRow.holds Tryz.pinned (OpenSpec.upto squarerangeCompleteSpec)

/-- 'dominolaw27.SquarerangeSound', WHERE WHAT IT READS IS OF BULK AT MOST 1048576: true; the input reads as it did. -/
def squarerangeSoundUptoRow : OpenClaim := { program := "ytfgandecbkbleaagreatdoor", sum := "45827b001b7243005e84069d584b645f4447fda99a5b2fd5226f713459df0685", func := "domino/dominolaw27.SquarerangeSound", spec := "squarerangeSound", inPlace := ["internal/bytealg.abigen_runtime_cmpstring"], unfollowed := true, recurses := true, named := ["math/bits.divideError", "math/bits.overflowError", "internal/strconv.uint64pow10", "math/bits.deBruijn32tab", "math/bits.deBruijn64tab"], apart := false, laid := [("math/bits.deBruijn32tab", laid_math_bits_deBruijn32tab), ("math/bits.deBruijn64tab", laid_math_bits_deBruijn64tab), ("internal/strconv.uint64pow10", laid_internal_strconv_uint64pow10)], narrowed := true }
def SquarerangeSoundUptoSaid : Prop := squarerangeSoundUptoRow.holds Tryz.pinned (OpenSpec.upto squarerangeSoundSpec)

end Rows
end Go.Proofs.YtfgandecbkbleaaGreatDoor
