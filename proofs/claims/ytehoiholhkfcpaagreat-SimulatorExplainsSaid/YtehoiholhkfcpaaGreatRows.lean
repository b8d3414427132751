/-
  No cell of these rows narrows 'for every input' (looked for: loops, veiled, ifaces, maps, wideKeys, modest, calm, conditions, laid).
  DERIVED. THE GIVEN ROWS OF THIS SEAT. 3 by the template 'for every input the law returns true; each argument reads behind the call as it read before'; 0 by the template 'total and deterministic' (their statements: YtehoiholhkfcpaaGreatTotals.lean).
  GIVEN WITH THE SEED: the statements are not yours to turn. If you find one false, say at which input.
  Laid BY PROGRAM, IN A SANDBOX (cutbox-rows.mjs): the forced cells as the released guide's own fill.sh prints them over the translation 620b5d5c46a9bf4a… (all of the seat's roots in one cut). By AI agents, Wed Nov 11 2026. No macro, syntax, notation, axiom, sorry.
-/
import Derived.Test.YtehoiholhkfcpaaGreatChecked
import GoSem.Claim
import GoSem.ClaimJoined
import GoSem.ClaimMapViews
import Derived.JoinedTies
import Derived.KernelRfl
namespace Go.Proofs.YtehoiholhkfcpaaGreat
/- THE CELL 'sum', in the pinned program and in every row, IS THE sha256 OF THE DUMP (.gsa) THAT YtehoiholhkfcpaaGreatProg.lean LOADS. Nothing in Lean hashes anything: it is a label: what it is worth is what the hold of that sum in a sandbox is worth. -/
noncomputable def Tryz.pinned : Pinned := { name := "ytehoiholhkfcpaagreat", sum := "620b5d5c46a9bf4ab0714284e0aedaffe6c7e3f0305f142922ed23e74734bf9d", checked := Tryz.checked }
namespace Rows
def none {H : Type} : Left H := { results := [], args := [] }

/-- 'dominolaw17.SimulatorFirsts': WHATEVER THE INPUT: true; the input reads as it did. -/
def simulatorFirstsSpec : ChangeSpec := { name := "simulatorFirsts", fn := fun _ => fun
  | [d] => { results := [.lit (.bool true)], args := [d] }
  | _ => none }
def simulatorFirstsRow : OpenClaim := { program := "ytehoiholhkfcpaagreat", sum := "620b5d5c46a9bf4ab0714284e0aedaffe6c7e3f0305f142922ed23e74734bf9d", func := "domino/dominolaw17.SimulatorFirsts", spec := "simulatorFirsts", inPlace := ["internal/bytealg.abigen_runtime_cmpstring"], unfollowed := true, recurses := true, named := ["math/bits.divideError", "math/bits.overflowError"], apart := false }
def SimulatorFirstsSaid : Prop := simulatorFirstsRow.holds Tryz.pinned (OpenSpec.ofChange simulatorFirstsSpec)

/-- ITS FALSE NEIGHBOUR: 'it returns false'. Refute it at one input. -/
def simulatorFirstsWrong : ChangeSpec := { name := "simulatorFirsts", fn := fun _ => fun
  | [d] => { results := [.lit (.bool false)], args := [d] }
  | _ => none }
def SimulatorFirstsWrongFalsely : Prop := simulatorFirstsRow.holds Tryz.pinned (OpenSpec.ofChange simulatorFirstsWrong)

/-- 'dominolaw17.SimulatorExplains': WHATEVER THE INPUT: true; the input reads as it did. -/
def simulatorExplainsSpec : ChangeSpec := { name := "simulatorExplains", fn := fun _ => fun
  | [d] => { results := [.lit (.bool true)], args := [d] }
  | _ => none }
def simulatorExplainsRow : OpenClaim := { program := "ytehoiholhkfcpaagreat", sum := "620b5d5c46a9bf4ab0714284e0aedaffe6c7e3f0305f142922ed23e74734bf9d", func := "domino/dominolaw17.SimulatorExplains", spec := "simulatorExplains", inPlace := ["internal/bytealg.abigen_runtime_cmpstring"], unfollowed := true, recurses := true, named := ["math/bits.divideError", "math/bits.overflowError"], apart := false }
def SimulatorExplainsSaid : Prop := simulatorExplainsRow.holds Tryz.pinned (OpenSpec.ofChange simulatorExplainsSpec)

/-- ITS FALSE NEIGHBOUR: 'it returns false'. Refute it at one input. -/
def simulatorExplainsWrong : ChangeSpec := { name := "simulatorExplains", fn := fun _ => fun
  | [d] => { results := [.lit (.bool false)], args := [d] }
  | _ => none }
def SimulatorExplainsWrongFalsely : Prop := simulatorExplainsRow.holds Tryz.pinned (OpenSpec.ofChange simulatorExplainsWrong)

/-- 'dominolaw17.SimulatorCoins': WHATEVER THE INPUT: true; the input reads as it did. -/
def simulatorCoinsSpec : ChangeSpec := { name := "simulatorCoins", fn := fun _ => fun
  | [d] => { results := [.lit (.bool true)], args := [d] }
  | _ => none }
def simulatorCoinsRow : OpenClaim := { program := "ytehoiholhkfcpaagreat", sum := "620b5d5c46a9bf4ab0714284e0aedaffe6c7e3f0305f142922ed23e74734bf9d", func := "domino/dominolaw17.SimulatorCoins", spec := "simulatorCoins", inPlace := ["internal/bytealg.abigen_runtime_cmpstring"], unfollowed := true, recurses := true, named := ["math/bits.divideError", "math/bits.overflowError"], apart := false }
def SimulatorCoinsSaid : Prop := simulatorCoinsRow.holds Tryz.pinned (OpenSpec.ofChange simulatorCoinsSpec)

/-- ITS FALSE NEIGHBOUR: 'it returns false'. Refute it at one input. -/
def simulatorCoinsWrong : ChangeSpec := { name := "simulatorCoins", fn := fun _ => fun
  | [d] => { results := [.lit (.bool false)], args := [d] }
  | _ => none }
def SimulatorCoinsWrongFalsely : Prop := simulatorCoinsRow.holds Tryz.pinned (OpenSpec.ofChange simulatorCoinsWrong)

/- THE SECOND FORM. 'bulk': how many values and letters a reading holds, each counted each time it is reached (what is shared counts as often as it is met; a slice's spare places count too). A statement '..UptoSaid' is the law's where the arguments, and the package variables that the reading takes, are together of bulk at most 1048576: NARROWER than '..Said'. Prove '..Said' where nothing that the law and all that it calls make is longer than what came in: it says more and counts as full. Else prove '..UptoSaid'. A law counts once. -/
mutual
def uptoBulk {H : Type} : DataW H → Nat
  | .lit (.string bytes) => bytes.length + 1
  | .lit _ => 1
  | .nil => 1
  | .ptr d => uptoBulk d + 1
  | .slice elems spare => uptoBulkAll elems + uptoBulkAll spare + 1
  | .agg parts => uptoBulkAll parts + 1
  | .iface _ d => uptoBulk d + 1
  | .map entries => uptoBulkEntries entries + 1
  | .held _ => 1
def uptoBulkAll {H : Type} : List (DataW H) → Nat
  | [] => 0
  | d :: r => uptoBulk d + uptoBulkAll r
def uptoBulkEntries {H : Type} : List (Lit × DataW H) → Nat
  | [] => 0
  | x :: r => uptoBulkEntry x + uptoBulkEntries r
def uptoBulkEntry {H : Type} : Lit × DataW H → Nat
  | (.string bytes, d) => bytes.length + uptoBulk d + 1
  | (_, d) => uptoBulk d + 1
 end
def uptoSmall : (H : Type) → List (DataW H) → Bool := fun _ ds => decide (uptoBulkAll ds ≤ 1048576)
def OpenSpec.upto (s : _root_.Go.ChangeSpec) : _root_.Go.OpenSpec := { _root_.Go.OpenSpec.ofChange s with cond := some uptoSmall }

/-- 'dominolaw17.SimulatorFirsts', WHERE WHAT IT READS IS OF BULK AT MOST 1048576: true; the input reads as it did. -/
def simulatorFirstsUptoRow : OpenClaim := { program := "ytehoiholhkfcpaagreat", sum := "620b5d5c46a9bf4ab0714284e0aedaffe6c7e3f0305f142922ed23e74734bf9d", func := "domino/dominolaw17.SimulatorFirsts", spec := "simulatorFirsts", inPlace := ["internal/bytealg.abigen_runtime_cmpstring"], unfollowed := true, recurses := true, named := ["math/bits.divideError", "math/bits.overflowError"], apart := false, narrowed := true }
def SimulatorFirstsUptoSaid : Prop := simulatorFirstsUptoRow.holds Tryz.pinned (OpenSpec.upto simulatorFirstsSpec)

/-- 'dominolaw17.SimulatorExplains', WHERE WHAT IT READS IS OF BULK AT MOST 1048576: true; the input reads as it did. -/
def simulatorExplainsUptoRow : OpenClaim := { program := "ytehoiholhkfcpaagreat", sum := "620b5d5c46a9bf4ab0714284e0aedaffe6c7e3f0305f142922ed23e74734bf9d", func := "domino/dominolaw17.SimulatorExplains", spec := "simulatorExplains", inPlace := ["internal/bytealg.abigen_runtime_cmpstring"], unfollowed := true, recurses := true, named := ["math/bits.divideError", "math/bits.overflowError"], apart := false, narrowed := true }
def SimulatorExplainsUptoSaid : Prop := simulatorExplainsUptoRow.holds Tryz.pinned (OpenSpec.upto simulatorExplainsSpec)

/-- 'dominolaw17.SimulatorCoins', WHERE WHAT IT READS IS OF BULK AT MOST 1048576: true; the input reads as it did. -/
def simulatorCoinsUptoRow : OpenClaim := { program := "ytehoiholhkfcpaagreat", sum := "620b5d5c46a9bf4ab0714284e0aedaffe6c7e3f0305f142922ed23e74734bf9d", func := "domino/dominolaw17.SimulatorCoins", spec := "simulatorCoins", inPlace := ["internal/bytealg.abigen_runtime_cmpstring"], unfollowed := true, recurses := true, named := ["math/bits.divideError", "math/bits.overflowError"], apart := false, narrowed := true }
def SimulatorCoinsUptoSaid : Prop := simulatorCoinsUptoRow.holds Tryz.pinned (OpenSpec.upto simulatorCoinsSpec)

end Rows
end Go.Proofs.YtehoiholhkfcpaaGreat
