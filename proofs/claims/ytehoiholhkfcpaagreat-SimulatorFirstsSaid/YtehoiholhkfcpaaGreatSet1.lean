import Derived.Test.YtehoiholhkfcpaaGreatPed1
set_option linter.unusedVariables false
set_option linter.unusedSimpArgs false
set_option maxRecDepth 100000
namespace Go.Proofs.YtehoiholhkfcpaaGreat
open Go.RowKit

/-- a slice of strings -/
def StrsAt (w : World) (ao : Option Addr) (C : List ByteArray) : Prop := C.length = 0 ∨ ∃ b, ao = some ⟨b, 0, none⟩ ∧ b < w.heap.size ∧ ∀ j (h : j < C.length), w.cell? ⟨b, j, none⟩ = some (.string C[j])

theorem StrsAt.after {w w' : World} {ao : Option Addr} {C : List ByteArray} (h : StrsAt w ao C) (hb : Below w.heap.size w w') : StrsAt w' ao C := by
 rcases h with h | ⟨b, h1, h2, h3⟩
 ·exact .inl h
 ·exact .inr ⟨b, h1, Nat.lt_of_lt_of_le h2 hb.size, fun j hj => (hb.cell (p := ⟨b, j, none⟩) h2).trans (h3 j hj)⟩

theorem StrsAt.at_ {w : World} {ao : Option Addr} {C : List ByteArray} (h : StrsAt w ao C) {k : Nat} (hk : k < C.length) : ∃ b, ao = some ⟨b, 0, none⟩ ∧ w.cell? ⟨b, k, none⟩ = some (.string C[k]) := by
 rcases h with h | ⟨b, h1, h2, h3⟩
 ·omega
 ·exact ⟨b, h1, h3 k hk⟩

theorem all_get {C : List ByteArray} (h : C.all vldB = true) {k : Nat} (hk : k < C.length) : vldB C[k] = true := List.all_eq_true.1 h _ (List.getElem_mem hk)

theorem all_not {C : List ByteArray} (h : C.all vldB = false) (h2 : ∀ j (hj : j < C.length), vldB C[j] = true) : False := by
 rw [List.all_eq_false] at h
 obtain ⟨x, hx, hn⟩ := h
 obtain ⟨j, hj, rfl⟩ := List.mem_iff_getElem.1 hx
 exact hn (h2 j hj)

/-- the error of a key and commitments that are numbers -/
def readyN (p q g h : Nat) (L : List Nat) : Nat := if pedE p q g h = 0 then (if q = 0 then 1 else if L.all (hasB p q) then 0 else 13) else 13

theorem pedE_cases (p q g h : Nat) : pedE p q g h = 0 ∨ pedE p q g h = 13 := by
 unfold pedE
 split
 ·split
  ·exact .inl rfl
  ·exact .inr rfl
 ·exact .inr rfl

theorem pedE_grp {p q g h : Nat} (hh : pedE p q g h = 0) : grpE p q = 0 := by
 unfold pedE at hh
 by_cases he : grpE p q = 0
 ·exact he
 ·rw [if_neg he] at hh; omega

/-- a slice of numbers -/
theorem StrsAt.nat_at {w : World} {ao : Option Addr} {L : List Nat} (h : StrsAt w ao (L.map E)) {k : Nat} (hk : k < L.length) : ∃ b, ao = some ⟨b, 0, none⟩ ∧ w.cell? ⟨b, k, none⟩ = some (.string (E L[k])) := by
 obtain ⟨b, h1, h2⟩ := h.at_ (k := k) (by simpa using hk)
 exact ⟨b, h1, by rw [h2, List.getElem_map]⟩

end Go.Proofs.YtehoiholhkfcpaaGreat
