import Derived.Test.YtcfjcenmcpankaaGreatDoorNat4
set_option linter.unusedVariables false
set_option linter.unusedSimpArgs false
set_option maxRecDepth 100000
namespace Go.Proofs.YtcfjcenmcpankaaGreatDoor
open Go.RowKit

theorem bdrew {B : Nat} {a w : World} (h : Below B a w) (n : Nat) : Below B a (w.drewN n) := below_drewN h n

set_option maxHeartbeats 400000 in
theorem rvalid_c (s : ByteArray) (w : World) (hs : s.size ≤ 4611686018427387904) :
  Calls Tryz.prog 43 #[.string s] w fun e w' => e = .returned (.bool (vldB s)) ∧ w = w' := by
 by_cases h1 : 128 < s.size
 ·have HV := Lib.hid (vldB_long h1)
  go_enter Tryz.func43, Tryz.ntmps43
  go_wp2
  go_ret
  exact ⟨rb HV.out.symm, rfl⟩
 ·by_cases h2 : s.size = 0
  ·obtain rfl : s = ByteArray.empty := by
    apply ByteArray.ext; apply Array.eq_empty_of_size_eq_zero; exact h2
   go_enter Tryz.func43, Tryz.ntmps43
   go_wp2
   go_ret
   exact ⟨rb vldB_empty.symm, rfl⟩
  ·have h3 : 0 < s.size := by omega
   have h4 : s.size ≤ 128 := by omega
   have HV := Lib.hid (vldB_pos h3 h4)
   have hz : ((s.size : Int) == 0) = false := by rw [beq_eq_false_iff_ne]; omega
   have hne := nz_str h3
   go_enter Tryz.func43, Tryz.ntmps43
   go_wp2
   go_ret
   exact ⟨rb HV.out.symm, rfl⟩

theorem rvalidE_c (n : Nat) (w : World) (h : n < 256 ^ 128) :
  Calls Tryz.prog 43 #[.string (E n)] w fun e w' => e = .returned (.bool true) ∧ w = w' := by
 have := rvalid_c (E n) w (by have := sz n h; omega)
 rw [vldB_E n h] at this
 exact this

set_option maxHeartbeats 400000 in
theorem rat_c (s : ByteArray) (i : Int) (w : World) (hs : s.size ≤ 4611686018427387904) (h0 : 0 ≤ i) (h1 : i ≤ 4611686018427387904) :
  Calls Tryz.prog 100 #[.string s, .int .i64 i] w fun e w' => e = .returned (.int .i64 (dgt s i.toNat)) ∧ w = w' := by
 by_cases h2 : (s.size : Int) ≤ i
 ·have HV := Lib.hid (dgt_out s i.toNat (by omega))
  go_enter Tryz.func100, Tryz.ntmps100
  go_wp2
  go_ret
  exact ⟨ri (by rw [HV.out]; rfl), rfl⟩
 ·obtain ⟨k, rfl⟩ := Int.eq_ofNat_of_zero_le h0
  have HV := Lib.hid (dgt_at s k (s.size - 1 - k) (by omega) rfl)
  go_enter Tryz.func100, Tryz.ntmps100
  go_wp2
  go_ret
  exact ⟨ri (by rw [wb, HV.out, Int.toNat_natCast]), rfl⟩

set_option maxHeartbeats 400000 in
theorem rtrim_c (b o c : Nat) (l : List UInt8) (w : World) (hc : l.length ≤ c) (hm : c ≤ 4611686018427387904) (hrow : Row w b o l) :
  Calls Tryz.prog 75 #[.slice (some ⟨b, o, none⟩) l.length c] w fun e w' => e = .returned (.string (E (val l))) ∧ w = w' := by
 go_enter Tryz.func75, Tryz.ntmps75
 go_wp2
 go_loop [3] (fun v => ∃ k : Nat, k ≤ l.length ∧ v = .int .i64 k ∧ val (l.drop k) = val l) (fun v => l.length - (intOf v).toNat)
 case atStart => exact ⟨0, Nat.zero_le _, rfl, rfl⟩
 case round =>
  obtain ⟨k, hk, rfl, hv⟩ := hrel
  have HV := Lib.hid hv; clear hv
  by_cases hlt : k < l.length
  ·have hcell := hrow k hlt
   have hcv := (hrow.drop k).string (c := c - k)
   rw [List.length_drop] at hcv
   have HR := Lib.hid hrow; clear hrow
   have hz : 0 ≤ (l[k].toNat : Int) ∧ (l[k].toNat : Int) ≤ 255 := by have := l[k].toNat_lt; omega
   generalize hzz : (l[k].toNat : Int) = z at hcell hz
   have HZ := Lib.hid hzz; clear hzz
   obtain ⟨hz1, hz2⟩ := hz
   by_cases hz0 : z = 0
   ·have hzb : (z == 0) = true := by simp [hz0]
    have HZ0 := Lib.hid hz0; clear hz0
    go_wp2
    go_round
    case rel => exact ⟨k + 1, by omega, by go_num, trim_step l k hlt (HZ.out.trans HZ0.out) HV.out⟩
    case measure => simp [intOf]; omega
   ·have hzb : (z == 0) = false := by simp [hz0]
    have HZ0 := Lib.hid hz0; clear hz0
    have hck : (k == c) = false := by rw [beq_eq_false_iff_ne]; omega
    have hck2 : ¬ c = k := by omega
    have hck3 : ¬ k = c := by omega
    go_wp2
    go_ret
    exact ⟨rs (trim_end l k (canon_drop l k hlt (by rw [HZ.out]; exact HZ0.out)) HV.out), rfl⟩
  ·obtain rfl : k = l.length := by omega
   have hcv : ∀ o' cp, (convert 134 22 (.slice (some ⟨b, o', none⟩) 0 cp)).run Tryz.prog w = .ok (.string ⟨#[]⟩) w := fun o' cp => Row.string (l := []) (fun j h => by simp at h)
   have HE : Hid (E (val l) = ⟨#[]⟩) := by rw [← HV.out]; simp [Hid, val, E, enc_zero]
   by_cases hcl : c = l.length
   all_goals
    go_wp2
    go_ret
    exact ⟨rs HE.out.symm, rfl⟩

set_option maxHeartbeats 400000 in
theorem rof_c (n : Nat) (w : World) (h : n < 256 ^ 8) :
  Calls Tryz.prog 30 #[.int .u64 (n : Int)] w fun e w' => e = .returned (.string (E n)) ∧ Below w.heap.size w w' := by
 have H := Lib.hid h
 rw [← u64_as_pow] at h
 have hmk : ∀ W : World, (Instr.makeSlice 134 (.int .i64 8) (.int .i64 8)).run Tryz.prog W = .ok (.slice (some ⟨W.heap.size, 0, none⟩) 8 8) (W.alloc (.cells (List.replicate 8 (Value.int .u8 0)).toArray 5)) := run_mk (P := Tryz.prog) Tryz.underlying134 info_u8 8 (by omega) (by omega)
 go_enter Tryz.func30, Tryz.ntmps30
 go_wp2
 go_loopw [0, 4] (fun x i wr => ∃ (k : Nat) (t : List UInt8), k ≤ 8 ∧ i = .int .i64 (7 - (k : Int)) ∧ x = .int .u64 (n / 256 ^ k : Nat) ∧ t.length = k ∧ val t = n % 256 ^ k ∧ Blk wr w.heap.size 5 (u8s (List.replicate (8 - k) 0 ++ t)) ∧ Below w.heap.size w wr) (fun _ i _ => (intOf i + 1).toNat)
 case atStart =>
  refine ⟨0, [], by omega, rfl, by simp, rfl, by simp [val, Nat.mod_one], Blk.new _ _ _, (Below.refl _ _).alloc (Nat.le_refl _) _⟩
 case round =>
  obtain ⟨k, t, hk, rfl, rfl, htl, hv, hb, hbel⟩ := hrel
  have HV := Lib.hid hv; clear hv
  have HL := Lib.hid htl; clear htl
  have hq : n / 256 ^ k < 18446744073709551616 := Nat.lt_of_le_of_lt (Nat.div_le_self _ _) h
  have HD : Hid (n / 256 ^ (k + 1) = n / 256 ^ k / 256) := by unfold Hid; rw [Nat.pow_succ, Nat.div_div_eq_div_mul]
  generalize hqq : n / 256 ^ k = q at hq
  have HQ := Lib.hid hqq; clear hqq
  by_cases hlt : k < 8
  ·have hcell := front_cell (j := 7 - k) hb hlt (by omega)
   have hfr := hb.free (7 - k)
   go_wp2
   go_roundw
   case rel =>
    rw [byteI q _ rfl]
    refine ⟨k + 1, UInt8.ofNat (q % 256) :: t, by omega, vi (by omega), vi (by rw [HD.out, HQ.out]; omega), by simp [HL.out], ?_, ?_, hbel.setCell (Nat.le_refl _) _⟩
    ·rw [← HQ.out]; exact val_digit_cons n k t HL.out HV.out
    ·exact front_set hb hlt (by omega) _
   case measure => simp [intOf]; omega
  ·obtain rfl : k = 8 := by omega
   have hr : Row wr w.heap.size 0 t := hb.row
   have HE : Hid (val t = n) := by rw [Hid, HV.out, Nat.mod_eq_of_lt H.out]
   go_wp2_with fail
   have := (rtrim_c w.heap.size 0 8 t wr (by rw [HL.out]; omega) (by omega) hr)
   rw [HL.out] at this
   refine this.mono ?_
   rintro e w' ⟨rfl, rfl⟩
   go_wp2
   go_ret
   exact ⟨rs (by rw [HE.out]), hbel⟩

theorem wrap_add_byte (a : Nat) (b : UInt8) (h : a * 256 + b.toNat < 18446744073709551616) :
  IntKind.u64.wrap (IntKind.u64.wrap ((a : Int) * 256) + IntKind.u64.wrap (b.toNat : Int)) = ((a * 256 + b.toNat : Nat) : Int) := by
 simp [IntKind.wrap, IntKind.signed, IntKind.bits]; omega

set_option maxHeartbeats 400000 in
theorem ru64_c (n : Nat) (w : World) (h : n < 256 ^ 8) :
  Calls Tryz.prog 99 #[.string (E n)] w fun e w' => e = .returned (.int .u64 n) ∧ w = w' := by
 have h1 := (E_size_le n 8).2 h
 have H := Lib.hid h
 clear h
 go_enter Tryz.func99, Tryz.ntmps99
 go_wp2
 go_loop [3, 4] (fun x i => ∃ k : Nat, k ≤ (E n).size ∧ i = .int .i64 k ∧ x = .int .u64 (val ((E n).data.toList.take k) : Nat)) (fun _ i => 8 - (intOf i).toNat)
 case atStart => exact ⟨0, by omega, rfl, rfl⟩
 case round =>
  obtain ⟨k, hk, rfl, rfl⟩ := hrel
  by_cases hlt : k < (E n).size
  ·have HS : Hid (val ((E n).data.toList.take (k + 1)) = val ((E n).data.toList.take k) * 256 + (E n)[k].toNat ∧ val ((E n).data.toList.take (k + 1)) < 18446744073709551616) :=
    ⟨val_take_succ (E n) k hlt, val_take_le (E n) (k + 1) (by omega)⟩
   go_wp2
   go_round
   case rel => exact ⟨k + 1, by omega, by go_num, by rw [wrap_add_byte _ _ (by rw [← HS.out.1]; exact HS.out.2), HS.out.1]⟩
   case measure => simp [intOf]; omega
  ·obtain rfl : k = (E n).size := by omega
   have HE : Hid (val ((E n).data.toList.take (E n).size) = n) := by
    rw [List.take_of_length_le (by simp)]; exact val_E n
   go_wp2
   go_ret
   exact ⟨ri (congrArg (fun x : Nat => (x : Int)) HE.out), rfl⟩

set_option maxHeartbeats 400000 in
theorem rsmall_c (n : Nat) (w : World) (h : n < 256 ^ 8) :
  Calls Tryz.prog 78 #[.string (E n)] w fun e w' => e = .returned (.tuple #[.int .u64 n, .bool true]) ∧ w = w' := by
 have h1 := (E_size_le n 8).2 h
 have h2 := Lib.hid (lt128 h)
 have H := Lib.hid h
 clear h
 go_enter Tryz.func78, Tryz.ntmps78
 go_wp2_with fail
 refine (rvalidE_c n _ h2.out).mono ?_
 rintro e w' ⟨rfl, rfl⟩
 go_wp2_with fail
 refine (ru64_c n _ H.out).mono ?_
 rintro e w' ⟨rfl, rfl⟩
 go_wp2
 go_ret2
 exact ⟨rfl, rfl⟩

set_option maxHeartbeats 400000 in
theorem rsmall_no (n : Nat) (w : World) (h : 256 ^ 8 ≤ n) (hm : (E n).size ≤ 4611686018427387904) :
  Calls Tryz.prog 78 #[.string (E n)] w fun e w' => e = .returned (.tuple #[.int .u64 0, .bool false]) ∧ w = w' := by
 have h1 : 8 < (E n).size := by
  rcases Nat.lt_or_ge 8 (E n).size with h2 | h2
  ·exact h2
  ·have := (E_size_le n 8).1 h2; omega
 clear h
 cases hv : vldB (E n)
 ·go_enter Tryz.func78, Tryz.ntmps78
  go_wp2_with fail
  refine (rvalid_c (E n) _ (by omega)).mono ?_
  rintro e w' ⟨rfl, rfl⟩
  rw [hv]
  go_wp2
  go_ret2
  exact ⟨rfl, rfl⟩
 ·go_enter Tryz.func78, Tryz.ntmps78
  go_wp2_with fail
  refine (rvalid_c (E n) _ (by omega)).mono ?_
  rintro e w' ⟨rfl, rfl⟩
  rw [hv]
  go_wp2
  go_ret2
  exact ⟨rfl, rfl⟩

end Go.Proofs.YtcfjcenmcpankaaGreatDoor
