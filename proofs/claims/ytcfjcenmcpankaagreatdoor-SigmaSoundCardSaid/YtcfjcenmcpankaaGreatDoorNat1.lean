import Derived.Test.YtcfjcenmcpankaaGreatDoorTrim
set_option linter.unusedVariables false
set_option linter.unusedSimpArgs false
set_option maxRecDepth 100000
namespace Go.Proofs.YtcfjcenmcpankaaGreatDoor
open Go.RowKit

/-- the strings that are numbers of at most 128 bytes -/
def vldB (s : ByteArray) : Bool := decide (s.size ≤ 128) && (s.data.toList.head? != some 0)

theorem vldB_E (n : Nat) (h : n < 256 ^ 128) : vldB (E n) = true := by
 have h1 := (E_size_le n 128).2 h
 have h2 := canon_enc n
 unfold canon at h2
 unfold vldB
 rw [E_data, decide_eq_true h1, Bool.true_and, bne_iff_ne]
 exact h2

theorem of_vldB {s : ByteArray} (h : vldB s = true) : ∃ n, n < 256 ^ 128 ∧ s = E n := by
 unfold vldB at h
 rw [Bool.and_eq_true, decide_eq_true_iff, bne_iff_ne] at h
 have e := E_of_val s h.2
 refine ⟨val s.data.toList, ?_, e.symm⟩
 have h1 := h.1
 rw [← e, E_size_le] at h1
 exact h1

theorem vldB_E_iff (n : Nat) : vldB (E n) = true ↔ n < 256 ^ 128 := by
 constructor
 ·intro h
  obtain ⟨m, hm, e⟩ := of_vldB h
  rw [E_inj e]; exact hm
 ·exact vldB_E n

theorem vldB_long {s : ByteArray} (h : 128 < s.size) : vldB s = false := by
 unfold vldB; rw [decide_eq_false (by omega)]; rfl

theorem head_data {s : ByteArray} (h : 0 < s.size) : s.data.toList.head? = some s[0] := by
 rw [List.head?_eq_getElem?]
 rw [List.getElem?_eq_getElem (by simpa using h)]; rfl

theorem vldB_empty : vldB ByteArray.empty = true := rfl

theorem vldB_pos {s : ByteArray} (h : 0 < s.size) (h2 : s.size ≤ 128) : vldB s = ((s[0].toNat : Int) != 0) := by
 unfold vldB
 rw [decide_eq_true h2, Bool.true_and, head_data h]
 have : (some s[0] != some 0) = ((s[0].toNat : Int) != 0) := by
  rw [Bool.eq_iff_iff]
  simp only [bne_iff_ne, ne_eq, Option.some.injEq]
  constructor
  ·intro h e; apply h; apply UInt8.toNat_inj.1; have : s[0].toNat = 0 := by omega
   simpa using this
  ·intro h e; apply h; rw [e]; rfl
 exact this

set_option maxHeartbeats 400000 in
theorem valid_c (s : ByteArray) (w : World) (hs : s.size ≤ 4611686018427387904) :
  Calls Tryz.prog 49 #[.string s] w fun e w' => e = .returned (.bool (vldB s)) ∧ w = w' := by
 by_cases h1 : 128 < s.size
 ·have HV := Lib.hid (vldB_long h1)
  go_enter Tryz.func49, Tryz.ntmps49
  go_wp2
  go_ret
  exact ⟨rb HV.out.symm, rfl⟩
 ·by_cases h2 : s.size = 0
  ·obtain rfl : s = ByteArray.empty := by
    apply ByteArray.ext; apply Array.eq_empty_of_size_eq_zero; exact h2
   go_enter Tryz.func49, Tryz.ntmps49
   go_wp2
   go_ret
   exact ⟨rb vldB_empty.symm, rfl⟩
  ·have h3 : 0 < s.size := by omega
   have h4 : s.size ≤ 128 := by omega
   have HV := Lib.hid (vldB_pos h3 h4)
   have hz : ((s.size : Int) == 0) = false := by rw [beq_eq_false_iff_ne]; omega
   go_enter Tryz.func49, Tryz.ntmps49
   go_wp2
   go_ret
   exact ⟨rb HV.out.symm, rfl⟩

def dgt (s : ByteArray) (i : Nat) : Nat := val s.data.toList / 256 ^ i % 256

theorem dgt_lt (s : ByteArray) (i : Nat) : dgt s i < 256 := Nat.mod_lt _ (by decide)

theorem dgt_E (n i : Nat) : dgt (E n) i = n / 256 ^ i % 256 := by unfold dgt; rw [val_E]

theorem dgt_at (s : ByteArray) (i j : Nat) (h : i < s.size) (hj : j = s.size - 1 - i) : (s[j]'(by omega)).toNat = dgt s i := by
 have hl : s.data.toList.length = s.size := by simp
 have := digit_val_aux s.data.toList.length s.data.toList i j rfl (by omega) (by omega)
 unfold dgt
 rw [← this]
 simp [ByteArray.getElem_eq_getElem_data]

theorem dgt_out (s : ByteArray) (i : Nat) (h : s.size ≤ i) : dgt s i = 0 := by
 have hl : s.data.toList.length = s.size := by simp
 exact digit_out _ i (by omega)

theorem wb (x : UInt8) : wrap64 (x.toNat : Int) = (x.toNat : Int) := IntWalk.wrap64_in _ ⟨by omega, by have := x.toNat_lt; omega⟩

set_option maxHeartbeats 400000 in
theorem digit_c (s : ByteArray) (i : Int) (w : World) (hs : s.size ≤ 4611686018427387904) (h0 : 0 ≤ i) (h1 : i ≤ 4611686018427387904) :
  Calls Tryz.prog 138 #[.string s, .int .i64 i] w fun e w' => e = .returned (.int .i64 (dgt s i.toNat)) ∧ w = w' := by
 by_cases h2 : (s.size : Int) ≤ i
 ·have HV := Lib.hid (dgt_out s i.toNat (by omega))
  go_enter Tryz.func138, Tryz.ntmps138
  go_wp2
  go_ret
  exact ⟨ri (by rw [HV.out]; rfl), rfl⟩
 ·obtain ⟨k, rfl⟩ := Int.eq_ofNat_of_zero_le h0
  have HV := Lib.hid (dgt_at s k (s.size - 1 - k) (by omega) rfl)
  go_enter Tryz.func138, Tryz.ntmps138
  go_wp2
  go_ret
  exact ⟨ri (by rw [wb, HV.out, Int.toNat_natCast]), rfl⟩

set_option maxHeartbeats 400000 in
theorem fitting_c (n : Nat) (w : World) (h : n < 256 ^ 128) :
  Calls Tryz.prog 190 #[.string (E n)] w fun e w' => e = .returned (.tuple #[.string (E n), .int .i64 0]) ∧ w = w' := by
 have h1 := (E_size_le n 128).2 h
 have H := Lib.hid h; clear h
 go_enter Tryz.func190, Tryz.ntmps190
 go_wp2
 go_ret2
 exact ⟨rfl, rfl⟩

end Go.Proofs.YtcfjcenmcpankaaGreatDoor
