import Derived.Test.YtcfjcenmcpankaaGreatDoorRef2
set_option linter.unusedVariables false
set_option linter.unusedSimpArgs false
set_option maxRecDepth 100000
namespace Go.Proofs.YtcfjcenmcpankaaGreatDoor
open Go.RowKit

theorem cmp_lt {a b : Nat} (h : a < b) : cmpN a b = -1 := by unfold cmpN; rw [if_pos h]
theorem cmp_gt {a b : Nat} (h : b < a) : cmpN a b = 1 := by unfold cmpN; rw [if_neg (by omega), if_pos h]
theorem cmp_eq {a b : Nat} (h : a = b) : cmpN a b = 0 := by unfold cmpN; rw [if_neg (by omega), if_neg (by omega)]

theorem len_lt {a b : Nat} (h : (E a).size < (E b).size) : a < b := by
 rw [E_size, E_size] at h
 have := val_lt_of_length (canon_enc b) h
 rwa [val_enc, val_enc] at this

theorem split_at (s : ByteArray) (k : Nat) (h : k < s.size) : s.data.toList = s.data.toList.take k ++ s[k] :: s.data.toList.drop (k + 1) := by
 have h2 : k < s.data.toList.length := by simpa using h
 have e : s[k] = s.data.toList[k] := by simp [ByteArray.getElem_eq_getElem_data]
 rw [e, ← List.drop_eq_getElem_cons h2, List.take_append_drop]

theorem at_lt (a b k : Nat) (hl : (E a).size = (E b).size) (hk : k < (E a).size) (hk2 : k < (E b).size) (hp : (E a).data.toList.take k = (E b).data.toList.take k) (hx : (E a)[k].toNat < (E b)[k].toNat) : a < b := by
 have h1 := split_at (E a) k hk
 have h2 := split_at (E b) k hk2
 have := val_lt_of_lex ((E a).data.toList.take k) ((E a).data.toList.drop (k + 1)) ((E b).data.toList.drop (k + 1)) (E a)[k] (E b)[k] (UInt8.lt_iff_toNat_lt.2 hx) (by simp [hl])
 rw [← h1, hp, ← h2, val_E, val_E] at this
 exact this

theorem at_eq (a b k : Nat) (hk : k < (E a).size) (hk2 : k < (E b).size) (hp : (E a).data.toList.take k = (E b).data.toList.take k) (hx : (E a)[k].toNat = (E b)[k].toNat) : (E a).data.toList.take (k + 1) = (E b).data.toList.take (k + 1) := by
 rw [List.take_succ_eq_append_getElem (by simpa using hk), List.take_succ_eq_append_getElem (by simpa using hk2), hp]
 have := UInt8.toNat_inj.1 hx
 simp only [ByteArray.getElem_eq_getElem_data] at this
 simp [this]

theorem all_eq (a b : Nat) (hl : (E a).size = (E b).size) (hp : (E a).data.toList.take (E a).size = (E b).data.toList.take (E a).size) : a = b := by
 rw [List.take_of_length_le (by simp), List.take_of_length_le (by simp [hl])] at hp
 rw [← val_E a, hp, val_E]

set_option maxHeartbeats 1000000 in
theorem rorder_c (a b : Nat) (w : World) (h1 : (E a).size ≤ 1000000) (h2 : (E b).size ≤ 1000000) :
  Calls Tryz.prog 44 #[.string (E a), .string (E b)] w fun e w' => e = .returned (.int .i64 (cmpN a b)) ∧ Below w.heap.size w w' := by
 by_cases hl : (E a).size = (E b).size
 ·have HL := Lib.hid hl
  have hne : (((E a).size : Int) != ((E b).size : Int)) = false := by simp [hl]
  have hle : (E a).size ≤ (E b).size := by omega
  have hge : (E b).size ≤ (E a).size := by omega
  clear hl
  go_enter Tryz.func44, Tryz.ntmps44
  go_wp2
  go_loopw [5] (fun i wr => ∃ k : Nat, k ≤ (E a).size ∧ i = .int .i64 k ∧ (E a).data.toList.take k = (E b).data.toList.take k ∧ Below w.heap.size w wr) (fun i _ => (E a).size - (intOf i).toNat)
  case atStart => exact ⟨0, by omega, rfl, rfl, Below.refl _ _⟩
  case round =>
   obtain ⟨k, hk, rfl, hp, hbel⟩ := hrel
   have HP := Lib.hid hp; clear hp
   by_cases hlt : k < (E a).size
   ·have hlt2 : k < (E b).size := by omega
    have i1 : (0 : Int) ≤ (k : Int) := by omega
    have i2 : (k : Int) < ((E a).size : Int) := by omega
    have i3 : (k : Int) < ((E b).size : Int) := by omega
    have HLT := Lib.hid (at_lt a b k HL.out hlt hlt2 HP.out)
    have HGT := Lib.hid (at_lt b a k HL.out.symm hlt2 hlt HP.out.symm)
    have HEQ := Lib.hid (at_eq a b k hlt hlt2 HP.out)
    by_cases hx : (E a)[k].toNat = (E b)[k].toNat
    ·have hxb : (((E a)[k].toNat : Int) != ((E b)[k].toNat : Int)) = false := by simp [hx]
     have HX := Lib.hid hx; clear hx
     go_wp2
     go_quiet (fail)
     go_wp2
     go_roundw
     case rel => exact ⟨k + 1, by omega, by go_num, HEQ.out HX.out, bdrew hbel _⟩
     case measure => simp [intOf]; omega
    ·have hxb : (((E a)[k].toNat : Int) != ((E b)[k].toNat : Int)) = true := by rw [bne_iff_ne]; omega
     by_cases hy : (E a)[k].toNat < (E b)[k].toNat
     ·have HC := Lib.hid (cmp_lt (HLT.out hy))
      have hyb : decide (((E a)[k].toNat : Int) < ((E b)[k].toNat : Int)) = true := by rw [decide_eq_true_iff]; omega
      clear hx
      go_wp2
      go_quiet (fail)
      go_wp2
      go_quiet (fail)
      go_wp2
      go_ret
      exact ⟨ri HC.out.symm, bdrew (bdrew hbel _) _⟩
     ·have HC := Lib.hid (cmp_gt (HGT.out (by omega)))
      have hyb : decide (((E a)[k].toNat : Int) < ((E b)[k].toNat : Int)) = false := by rw [decide_eq_false_iff_not]; omega
      clear hx
      go_wp2
      go_quiet (fail)
      go_wp2
      go_quiet (fail)
      go_wp2
      go_ret
      exact ⟨ri HC.out.symm, bdrew (bdrew hbel _) _⟩
   ·obtain rfl : k = (E a).size := by omega
    have HC := Lib.hid (cmp_eq (all_eq a b HL.out HP.out))
    go_wp2
    go_ret
    exact ⟨ri HC.out.symm, hbel⟩
 ·have hne : (((E a).size : Int) != ((E b).size : Int)) = true := by rw [bne_iff_ne]; omega
  by_cases hlt : (E a).size < (E b).size
  ·have HC := Lib.hid (cmp_lt (len_lt hlt))
   go_enter Tryz.func44, Tryz.ntmps44
   go_wp2
   go_ret
   exact ⟨ri HC.out.symm, Below.refl _ _⟩
  ·have HC := Lib.hid (cmp_gt (len_lt (show (E b).size < (E a).size by omega)))
   go_enter Tryz.func44, Tryz.ntmps44
   go_wp2
   go_ret
   exact ⟨ri HC.out.symm, Below.refl _ _⟩

end Go.Proofs.YtcfjcenmcpankaaGreatDoor
