import Derived.Test.YtehoiholhkfcpaaGreatPow4
set_option linter.unusedVariables false
set_option linter.unusedSimpArgs false
set_option maxRecDepth 100000
namespace Go.Proofs.YtehoiholhkfcpaaGreat
open Go.RowKit

/-- the error of a key whose strings are numbers -/
def pedE (p q g h : Nat) : Nat := if grpE p q = 0 then (if hasB p q g = true ∧ hasB p q h = true ∧ g ≠ 1 ∧ h ≠ 1 ∧ g ≠ h then 0 else 13) else 13

theorem grpE_cases (p q : Nat) : grpE p q = 0 ∨ grpE p q = 13 := by
 unfold grpE
 split
 ·split
  ·exact .inl rfl
  ·exact .inr rfl
 ·split
  ·exact .inl rfl
  ·exact .inr rfl

theorem vl4_E {p q g h : Nat} (hp : p < 256 ^ 128) (hq : q < 256 ^ 128) (hg : g < 256 ^ 128) (hh : h < 256 ^ 128) : vl4 (E p) (E q) (E g) (E h) = true := by
 unfold vl4; rw [vldB_E p hp, vldB_E q hq, vldB_E g hg, vldB_E h hh]; rfl

theorem sz1000 {n : Nat} (h : n < 256 ^ 128) : (E n).size ≤ 1000 := by have := sz n h; omega

end Go.Proofs.YtehoiholhkfcpaaGreat
