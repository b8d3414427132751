import Derived.Test.YtcfjcenmcpankaaGreatDoorRef1
set_option linter.unusedVariables false
set_option linter.unusedSimpArgs false
set_option maxRecDepth 100000
namespace Go.Proofs.YtcfjcenmcpankaaGreatDoor
open Go.RowKit

set_option maxHeartbeats 400000 in
theorem rplus_c (a b : Nat) (w : World) (h1 : (E a).size ≤ 1000000) (h2 : (E b).size ≤ 1000000) :
  Calls Tryz.prog 153 #[.string (E a), .string (E b)] w fun e w' => e = .returned (.string (E (a + b))) ∧ Below w.heap.size w w' := by
 obtain ⟨n, hn⟩ : ∃ n : Nat, n = max (E a).size (E b).size + 1 := ⟨_, rfl⟩
 have HN : Hid (max ((E a).size : Int) ((E b).size : Int) + 1 = (n : Int)) := by unfold Hid; omega
 have HR : Hid (a + b < 256 ^ n) := by rw [hn]; exact add_room a b _ (by omega) (by omega)
 have hnb : n ≤ 1000001 := by omega
 have hmk := run_mk (P := Tryz.prog) Tryz.underlying134 info_u8 n (by omega) (by omega)
 rw [← HN.out] at hmk
 clear hn
 go_enter Tryz.func153, Tryz.ntmps153
 go_wp2
 clear hmk
 rw [HN.out]
 go_loopw [7, 8] (fun x i wr => ∃ (k c : Nat) (t : List UInt8), k ≤ n ∧ c ≤ 1 ∧ i = .int .i64 k ∧ x = .int .i64 c ∧ t.length = k ∧ val t + c * 256 ^ k = a % 256 ^ k + b % 256 ^ k ∧ Blk wr w.heap.size 5 (u8s (List.replicate (n - k) 0 ++ t)) ∧ Below w.heap.size w wr) (fun _ i _ => n - (intOf i).toNat)
 case atStart =>
  refine ⟨0, 0, [], by omega, by omega, rfl, rfl, rfl, by simp [val, Nat.mod_one], ?_, (Below.refl _ _).alloc (Nat.le_refl _) _⟩
  have := Blk.new w (List.replicate n (Value.int .u8 0)).toArray 5
  simpa [u8s, u8v] using this
 case round =>
  obtain ⟨k, c, t, hk, hc, rfl, rfl, htl, hv, hb, hbel⟩ := hrel
  have HV := Lib.hid hv; clear hv
  have HL := Lib.hid htl; clear htl
  by_cases hlt : k < n
  ·have hcell := front_cell hb hlt rfl
   have hfr := hb.free (n - 1 - k)
   have hd1 := dgt_lt (E a) k
   have hd2 := dgt_lt (E b) k
   go_wp2_with fail
   refine (rat_c (E a) k _ (by omega) (by omega) (by omega)).mono ?_
   rintro e w' ⟨rfl, rfl⟩
   rw [Int.toNat_natCast]
   go_wp2_with fail
   refine (rat_c (E b) k _ (by omega) (by omega) (by omega)).mono ?_
   rintro e w' ⟨rfl, rfl⟩
   rw [Int.toNat_natCast]
   go_wp2
   go_roundw
   case rel =>
    obtain ⟨x, hx⟩ : ∃ x, x = dgt (E a) k + dgt (E b) k + c := ⟨_, rfl⟩
    rw [byteI x _ (by omega)]
    refine ⟨k + 1, x / 256, UInt8.ofNat (x % 256) :: t, by omega, by omega, by go_num, vi (by omega), by simp [HL.out], add_step a b k c x t HL.out HV.out (by rw [hx, dgt_E, dgt_E]; omega), front_set hb hlt rfl _, hbel.setCell (Nat.le_refl _) _⟩
   case measure => simp [intOf]; omega
  ·obtain rfl : k = n := by omega
   have hr : Row wr w.heap.size 0 t := by
    have := hb.row
    simpa using this
   have HE := Lib.hid (add_end a b k c t HL.out HV.out HR.out)
   go_wp2_with fail
   have := (rtrim_c w.heap.size 0 k t wr (by rw [HL.out]; omega) (by omega) hr)
   rw [HL.out, HE.out] at this
   refine this.mono ?_
   rintro e w' ⟨rfl, rfl⟩
   go_wp2
   go_ret
   exact ⟨rfl, hbel⟩

set_option maxHeartbeats 400000 in
theorem rminus_c (a b : Nat) (w : World) (ha : (E a).size ≤ 1000000) (hb : b ≤ a) :
  Calls Tryz.prog 47 #[.string (E a), .string (E b)] w fun e w' => e = .returned (.string (E (a - b))) ∧ Below w.heap.size w w' := by
 have h2 : (E b).size ≤ (E a).size := (E_size_le b _).2 (Nat.lt_of_le_of_lt hb (E_lt a))
 have HAl := Lib.hid (E_lt a)
 have HB := Lib.hid hb; clear hb
 obtain ⟨n, hn⟩ : ∃ n : Nat, (E a).size = n := ⟨_, rfl⟩
 have hmk := run_mk (P := Tryz.prog) Tryz.underlying134 info_u8 n (by omega) (by omega)
 have HN : Hid (((E a).size : Int) = (n : Int)) := by unfold Hid; omega
 have HN2 := Lib.hid hn
 rw [← HN.out] at hmk
 have hnb : n ≤ 1000000 := by omega
 have h2b : (E b).size ≤ 1000000 := by omega
 rw [hn] at HAl
 clear hn
 go_enter Tryz.func47, Tryz.ntmps47
 go_wp2
 clear hmk
 rw [HN.out]
 go_loopw [7, 8] (fun x i wr => ∃ (k c : Nat) (t : List UInt8), k ≤ n ∧ c ≤ 1 ∧ i = .int .i64 k ∧ x = .int .i64 c ∧ t.length = k ∧ val t + b % 256 ^ k = a % 256 ^ k + c * 256 ^ k ∧ Blk wr w.heap.size 5 (u8s (List.replicate (n - k) 0 ++ t)) ∧ Below w.heap.size w wr) (fun _ i _ => n - (intOf i).toNat)
 case atStart =>
  refine ⟨0, 0, [], by omega, by omega, rfl, rfl, rfl, by simp [val, Nat.mod_one], ?_, (Below.refl _ _).alloc (Nat.le_refl _) _⟩
  have := Blk.new w (List.replicate n (Value.int .u8 0)).toArray 5
  simpa [u8s, u8v] using this
 case round =>
  obtain ⟨k, c, t, hk, hc, rfl, rfl, htl, hv, hb, hbel⟩ := hrel
  have HV := Lib.hid hv; clear hv
  have HL := Lib.hid htl; clear htl
  by_cases hlt : k < n
  ·have hcell := front_cell hb hlt rfl
   have hfr := hb.free (n - 1 - k)
   have hd1 := dgt_lt (E a) k
   have hd2 := dgt_lt (E b) k
   go_wp2_with fail
   refine (rat_c (E a) k _ (by omega) (by omega) (by omega)).mono ?_
   rintro e w' ⟨rfl, rfl⟩
   rw [Int.toNat_natCast]
   go_wp2_with fail
   refine (rat_c (E b) k _ (by omega) (by omega) (by omega)).mono ?_
   rintro e w' ⟨rfl, rfl⟩
   rw [Int.toNat_natCast]
   by_cases hneg : (dgt (E a) k : Int) - (dgt (E b) k : Int) - (c : Int) < 0
   ·go_wp2
    go_roundw
    case rel =>
     obtain ⟨y, hy⟩ : ∃ y : Nat, (y : Int) = (dgt (E a) k : Int) - (dgt (E b) k : Int) - (c : Int) + 256 := ⟨((dgt (E a) k : Int) - (dgt (E b) k : Int) - (c : Int) + 256).toNat, by omega⟩
     rw [byteJ y ((dgt (E a) k : Int) - (dgt (E b) k : Int) - (c : Int) + 256) (by omega) (by omega)]
     refine ⟨k + 1, 1, UInt8.ofNat (y % 256) :: t, by omega, by omega, by go_num, vi (by omega), by simp [HL.out], sub_step a b k c y _ t HL.out HV.out (by rw [← dgt_E, ← dgt_E]) 1 (by omega) (by omega), front_set hb hlt rfl _, hbel.setCell (Nat.le_refl _) _⟩
    case measure => simp [intOf]; omega
   ·go_wp2
    go_roundw
    case rel =>
     obtain ⟨y, hy⟩ : ∃ y : Nat, (y : Int) = (dgt (E a) k : Int) - (dgt (E b) k : Int) - (c : Int) := ⟨((dgt (E a) k : Int) - (dgt (E b) k : Int) - (c : Int)).toNat, by omega⟩
     rw [byteJ y ((dgt (E a) k : Int) - (dgt (E b) k : Int) - (c : Int)) (by omega) (by omega)]
     refine ⟨k + 1, 0, UInt8.ofNat (y % 256) :: t, by omega, by omega, by go_num, vi (by omega), by simp [HL.out], sub_step a b k c y _ t HL.out HV.out (by rw [← dgt_E, ← dgt_E]) 0 (by omega) (by omega), front_set hb hlt rfl _, hbel.setCell (Nat.le_refl _) _⟩
    case measure => simp [intOf]; omega
  ·obtain rfl : k = n := by omega
   have hr : Row wr w.heap.size 0 t := by
    have := hb.row
    simpa using this
   have HE := Lib.hid (sub_end a b k c t HL.out HV.out HAl.out HB.out)
   go_wp2_with fail
   have := (rtrim_c w.heap.size 0 k t wr (by rw [HL.out]; omega) (by omega) hr)
   rw [HL.out, HE.out] at this
   refine this.mono ?_
   rintro e w' ⟨rfl, rfl⟩
   go_wp2
   go_ret
   exact ⟨rfl, hbel⟩


end Go.Proofs.YtcfjcenmcpankaaGreatDoor
