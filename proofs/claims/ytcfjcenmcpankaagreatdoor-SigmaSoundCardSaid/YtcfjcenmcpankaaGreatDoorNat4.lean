import Derived.Test.YtcfjcenmcpankaaGreatDoorNat3
set_option linter.unusedVariables false
set_option linter.unusedSimpArgs false
set_option maxRecDepth 100000
namespace Go.Proofs.YtcfjcenmcpankaaGreatDoor
open Go.RowKit

theorem bt {a b c : World} (h : Below a.heap.size a b) (k : Below b.heap.size b c) : Below a.heap.size a c := h.trans (k.mono h.size)

theorem lt128 {n : Nat} (h : n < 256 ^ 8) : n < 256 ^ 128 := Nat.lt_of_lt_of_le h (Nat.pow_le_pow_right (by decide) (by decide))

theorem wrapU (n : Nat) (h : n < 256 ^ 8) : IntKind.u64.wrap (n : Int) = (n : Int) := by
 rw [← u64_as_pow] at h
 simp [IntKind.wrap, IntKind.signed, IntKind.bits]; omega
theorem wrapU_div (a b : Nat) (h : a / b < 256 ^ 8) : IntKind.u64.wrap ((a : Int) / (b : Int)) = (a : Int) / (b : Int) := by
 have := wrapU _ h
 rwa [Int.natCast_ediv] at this
theorem wrapU_mod (a b : Nat) (h : a % b < 256 ^ 8) : IntKind.u64.wrap ((a : Int) % (b : Int)) = (a : Int) % (b : Int) := by
 have := wrapU _ h
 rwa [Int.natCast_emod] at this

theorem ofDiv_c (a b : Nat) (w : World) (h : a / b < 256 ^ 8) :
  Calls Tryz.prog 87 #[.int .u64 ((a : Int) / (b : Int))] w fun e w' => e = .returned (.string (E (a / b))) ∧ Below w.heap.size w w' := by
 rw [← Int.natCast_ediv]; exact of_c _ w h
theorem ofMod_c (a b : Nat) (w : World) (h : a % b < 256 ^ 8) :
  Calls Tryz.prog 87 #[.int .u64 ((a : Int) % (b : Int))] w fun e w' => e = .returned (.string (E (a % b))) ∧ Below w.heap.size w w' := by
 rw [← Int.natCast_emod]; exact of_c _ w h

theorem cmp_neg (a b : Nat) (h : a < b) : cmpN a b < 0 := by unfold cmpN; rw [if_pos h]; decide
theorem cmp_nneg (a b : Nat) (h : b ≤ a) : ¬ cmpN a b < 0 := by unfold cmpN; rw [if_neg (by omega)]; split <;> decide

set_option maxHeartbeats 400000 in
theorem sub_c (a b : Nat) (w : World) (ha : a < 256 ^ 128) (hb : b ≤ a) :
  Calls Tryz.prog 147 #[.string (E a), .string (E b)] w fun e w' => e = .returned (.tuple #[.string (E (a - b)), .int .i64 0]) ∧ Below w.heap.size w w' := by
 have HA := Lib.hid ha
 have HB := Lib.hid (show b < 256 ^ 128 by omega)
 have h1 := sz a ha
 have h2 := sz b HB.out
 have HL := Lib.hid hb
 have hc := cmp_nneg a b hb
 clear ha hb
 go_enter Tryz.func147, Tryz.ntmps147
 go_wp2_with fail
 refine (validE_c a _ HA.out).mono ?_
 rintro e w' ⟨rfl, rfl⟩
 go_wp2_with fail
 refine (validE_c b _ HB.out).mono ?_
 rintro e w' ⟨rfl, rfl⟩
 go_wp2_with fail
 refine (compare_c a b _ (by omega) (by omega)).mono ?_
 rintro e w' ⟨rfl, rfl⟩
 go_wp2_with fail
 refine (less_c a b _ (by omega) HL.out).mono ?_
 rintro e w1 ⟨rfl, hb1⟩
 go_wp2
 go_ret2
 exact ⟨rfl, hb1⟩

set_option maxHeartbeats 400000 in
theorem sub_neg (a b : Nat) (w : World) (hb2 : b < 256 ^ 128) (hb : a < b) :
  Calls Tryz.prog 147 #[.string (E a), .string (E b)] w fun e w' => e = .returned (.tuple #[.string (E 0), .int .i64 2]) ∧ w = w' := by
 have HB := Lib.hid hb2
 have HA := Lib.hid (show a < 256 ^ 128 by omega)
 have h1 := sz a HA.out
 have h2 := sz b hb2
 have hc := cmp_neg a b hb
 clear hb2 hb
 go_enter Tryz.func147, Tryz.ntmps147
 go_wp2_with fail
 refine (validE_c a _ HA.out).mono ?_
 rintro e w' ⟨rfl, rfl⟩
 go_wp2_with fail
 refine (validE_c b _ HB.out).mono ?_
 rintro e w' ⟨rfl, rfl⟩
 go_wp2_with fail
 refine (compare_c a b _ (by omega) (by omega)).mono ?_
 rintro e w' ⟨rfl, rfl⟩
 go_wp2
 go_ret2
 exact ⟨rfl, rfl⟩

set_option maxHeartbeats 400000 in
theorem divided_c (a b : Nat) (w : World) (ha : a < 256 ^ 8) (hb : b < 256 ^ 128) (h0 : 0 < b) :
  Calls Tryz.prog 195 #[.string (E a), .string (E b)] w fun e w' => e = .returned (.tuple #[.string (E (a / b)), .string (E (a % b))]) ∧ Below w.heap.size w w' := by
 have h1 : (E a).size ≤ 8 := (E_size_le a 8).2 ha
 have h2 := sz b hb
 by_cases hlt : a < b
 ·have hc := cmp_neg a b hlt
  have H1 := Lib.hid (Nat.div_eq_of_lt hlt)
  have H2 := Lib.hid (Nat.mod_eq_of_lt hlt)
  clear ha hb h0 hlt
  go_enter Tryz.func195, Tryz.ntmps195
  go_wp2_with fail
  refine (compare_c a b _ (by omega) (by omega)).mono ?_
  rintro e w' ⟨rfl, rfl⟩
  go_wp2
  go_ret2
  exact ⟨r2 (vE H1.out.symm) (vE H2.out.symm), Below.refl _ _⟩
 ·have hc := cmp_nneg a b (by omega)
  have HA := Lib.hid ha
  have HB := Lib.hid (show b < 256 ^ 8 by omega)
  have HQ := Lib.hid (Nat.lt_of_le_of_lt (Nat.div_le_self a b) ha)
  have HR := Lib.hid (Nat.lt_of_le_of_lt (Nat.mod_le a b) ha)
  have hz : ((b : Int) == 0) = false := by rw [beq_eq_false_iff_ne]; omega
  have hau : a < 18446744073709551616 := by rw [u64_as_pow]; exact ha
  have hbu : b < 18446744073709551616 := by rw [u64_as_pow]; exact HB.out
  clear ha hb hlt
  go_enter Tryz.func195, Tryz.ntmps195
  go_wp2_with fail
  refine (compare_c a b _ (by omega) (by omega)).mono ?_
  rintro e w' ⟨rfl, rfl⟩
  go_wp2_with fail
  refine (small_c a _ HA.out).mono ?_
  rintro e w' ⟨rfl, rfl⟩
  go_wp2_with fail
  refine (small_c b _ HB.out).mono ?_
  rintro e w' ⟨rfl, rfl⟩
  go_wp2_with fail
  have hw1 := wrapU_div a b HQ.out
  have hw2 := wrapU_mod a b HR.out
  refine wp_region_grew (by kernel_rfl) (by kernel_rfl) ?_
  repeat (go_big_quiet_step ((intro hC; first | (go_at_call_of 87 (Value.int .u64 ((a : Int) / (b : Int))); exact grew_of hC (ofDiv_c a b _ HQ.out)) | (go_at_call_of 87 (Value.int .u64 ((a : Int) % (b : Int))); exact grew_of hC (ofMod_c a b _ HR.out)))))
  refine wpQuiet_nil ?_
  intro w1 hb1
  go_wp2
  go_ret2
  exact ⟨rfl, hb1.out⟩

end Go.Proofs.YtcfjcenmcpankaaGreatDoor
