/- ref25: the searches of the reference, as the same plain functions. -/
import Derived.Test.YtfgandecbkbleaaGreatDoorFsq
import Derived.Test.YtfgandecbkbleaaGreatDoorRef5
set_option linter.unusedVariables false
set_option linter.unusedSimpArgs false
set_option maxRecDepth 100000
namespace Go.Proofs.YtfgandecbkbleaaGreatDoor
open Go.RowKit Go.Shelf

theorem wi64 {x : Int} (h1 : -9223372036854775808 ≤ x) (h2 : x ≤ 9223372036854775807) : IntKind.i64.wrap x = x := by
 simp [IntKind.wrap, IntKind.signed, IntKind.bits]; omega

set_option maxHeartbeats 1600000 in
theorem r25root_c (n : Nat) (w : World) (hn : n < 4294967296) :
  Calls Tryz.prog 105 #[.int .i64 (n : Int)] w fun e w' => e = .returned (.int .i64 (rt n : Nat)) ∧ w = w' := by
 have HN := Lib.hid hn
 clear hn
 go_enter Tryz.func105, Tryz.ntmps105
 go_wp2
 go_loop [3, 4] (fun x y => ∃ (l h : Nat), x = .int .i64 l ∧ y = .int .i64 h ∧ l < h ∧ h ≤ 65536 ∧ Hid (l * l ≤ n ∧ n < h * h)) (fun x y => (intOf y - intOf x).toNat)
 case atStart => exact ⟨0, 65536, rfl, rfl, by omega, by omega, ⟨by omega, by have := HN.out; omega⟩⟩
 case round =>
  obtain ⟨l, h, rfl, rfl, hlh, hh, HR⟩ := hrel
  have c0 : IntKind.i64.wrap ((h : Int) - (l : Int)) = (h : Int) - (l : Int) := wi64 (by omega) (by omega)
  by_cases h1 : h = l + 1
  ·have HE : Hid (l = rt n) := rt_uniq HR.out.1 (by rw [← h1]; exact HR.out.2)
   have hb1 : ¬ (1 : Int) < (h : Int) - (l : Int) := by omega
   clear h1 HR hlh hh
   go_wp2
   go_ret
   exact ⟨by rw [← HE.out]; rfl, rfl⟩
  ·have hb1 : (1 : Int) < (h : Int) - (l : Int) := by omega
   obtain ⟨m, hm⟩ : ∃ m, m = (l + h) / 2 := ⟨_, rfl⟩
   obtain ⟨z, hz⟩ : ∃ z, z = m * m := ⟨_, rfl⟩
   have hz2 : z ≤ 65536 * 65536 := by rw [hz]; exact Nat.mul_le_mul (by omega) (by omega)
   have c1 : IntKind.i64.wrap ((l : Int) + (h : Int)) = (l : Int) + (h : Int) := wi64 (by omega) (by omega)
   have c2 : IntKind.i64.wrap (((l : Int) + (h : Int)).tdiv 2) = (m : Int) := by rw [Int.tdiv_eq_ediv_of_nonneg (by omega), wi64 (by omega) (by omega)]; omega
   have c3 : IntKind.i64.wrap ((m : Int) * (m : Int)) = (z : Int) := by rw [show (m : Int) * (m : Int) = (z : Int) by rw [hz]; exact (Int.natCast_mul m m).symm, wi64 (by omega) (by omega)]
   have hm1 : l < m ∧ m < h := by omega
   have HZZ := Lib.hid hz
   clear hz hm h1
   by_cases h2 : z ≤ n
   ·have HX : Hid (m * m ≤ n ∧ n < h * h) := ⟨by rw [← HZZ.out]; exact h2, HR.out.2⟩
    go_wp2
    go_round
    case rel => exact ⟨m, h, rfl, rfl, by omega, by omega, HX⟩
    case measure => simp [intOf]; omega
   ·have HX : Hid (l * l ≤ n ∧ n < m * m) := ⟨HR.out.1, by rw [← HZZ.out]; omega⟩
    go_wp2
    go_round
    case rel => exact ⟨l, m, rfl, rfl, by omega, by omega, HX⟩
    case measure => simp [intOf]; omega

set_option maxHeartbeats 1600000 in
theorem r25seven_c (n : Nat) (w : World) (hn : n < 4294967296) :
  Calls Tryz.prog 106 #[.int .i64 (n : Int)] w fun e w' => e = .returned (.bool (sevF 16 n)) ∧ w = w' := by
 obtain ⟨b, hb⟩ : ∃ b, b = sevF 16 n := ⟨_, rfl⟩
 have HB := Lib.hid hb
 rw [← hb]
 clear hb
 have HN : Hid (n < 4 ^ 16) := hn
 go_enter Tryz.func106, Tryz.ntmps106
 go_wp2
 go_loop [0] (fun x => ∃ (k m : Nat), x = .int .i64 m ∧ m < 4294967296 ∧ Hid (m < 4 ^ k) ∧ Hid (b = sevF k m)) (fun x => (intOf x).toNat)
 case atStart => exact ⟨16, n, rfl, hn, HN, HB⟩
 case round =>
  obtain ⟨k, m, rfl, hm, HK, HS⟩ := hrel
  clear HB HN
  have c1 : IntKind.i64.wrap ((m : Int).tmod 4) = ((m % 4 : Nat) : Int) := by rw [Int.tmod_eq_emod_of_nonneg (by omega), wi64 (by omega) (by omega)]; rfl
  have c2 : IntKind.i64.wrap ((m : Int).tdiv 4) = ((m / 4 : Nat) : Int) := by rw [Int.tdiv_eq_ediv_of_nonneg (by omega), wi64 (by omega) (by omega)]; rfl
  have c3 : IntKind.i64.wrap ((m : Int).tmod 8) = ((m % 8 : Nat) : Int) := by rw [Int.tmod_eq_emod_of_nonneg (by omega), wi64 (by omega) (by omega)]; rfl
  by_cases h1 : 0 < m ∧ m % 4 = 0
  ·obtain ⟨h0, h4⟩ := h1
   have HX : Hid (∃ j, m / 4 < 4 ^ j ∧ b = sevF j (m / 4)) := by
    have hk := HK.out
    cases k with
    | zero => omega
    | succ j => exact ⟨j, by rw [Nat.pow_succ] at hk; omega, by rw [HS.out, sevF, if_pos ⟨h0, h4⟩]⟩
   obtain ⟨j, hj1, hj2⟩ := HX.out
   have HJ1 := Lib.hid hj1
   have HJ2 := Lib.hid hj2
   clear hj1 hj2 HX HK HS c3
   have h5 : (0 : Int) < (m : Int) := by omega
   have h6 : (((m % 4 : Nat) : Int) == 0) = true := by rw [h4]; rfl
   go_wp2
   go_round
   case rel => exact ⟨j, m / 4, rfl, by omega, HJ1, HJ2⟩
   case measure => simp [intOf]; omega
  ·have HX : Hid (b = (m % 8 == 7)) := HS.out.trans (sev_stop h1)
   clear HS HK
   by_cases h0 : 0 < m
   ·have h4 : ¬ m % 4 = 0 := fun h => h1 ⟨h0, h⟩
    clear h1
    go_wp2
    go_ret
    exact ⟨congrArg (fun b => Ending.returned (Value.bool b)) ((sev_eq m).trans HX.out.symm), rfl⟩
   ·clear h1
    go_wp2
    go_ret
    exact ⟨congrArg (fun b => Ending.returned (Value.bool b)) ((sev_eq m).trans HX.out.symm), rfl⟩

/-- the pair from a place that may be -1 -/
def twoZ (n : Nat) (x : Int) : Option (Nat × Nat) := if x < 0 then none else twoF n x.toNat
theorem twoZ_nat (n x : Nat) : twoZ n (x : Int) = twoF n x := by rw [twoZ, if_neg (by omega)]; rfl
theorem twoZ_pred (n x : Nat) : twoZ n ((x : Int) - 1) = if x = 0 then none else twoF n (x - 1) := by
 rw [twoZ]
 by_cases h : x = 0
 ·rw [if_pos h, if_pos (by omega)]
 ·rw [if_neg h, if_neg (by omega)]; congr 1; omega

set_option maxHeartbeats 3200000 in
theorem r25two_c (n most : Nat) (w : World) (hn : n < 4294967296) (hm : most < 4294967296) :
  Calls Tryz.prog 144 #[.int .i64 (n : Int), .int .i64 (most : Int)] w fun e w' => e = .returned (.tuple #[.int .i64 (tw1 (twoF n (min (rt n) most)) : Nat), .int .i64 (tw2 (twoF n (min (rt n) most)) : Nat), .bool (twoF n (min (rt n) most)).isSome]) ∧ w = w' := by
 have h2 := rt_lt (k := 65536) (show n < 65536 * 65536 by omega)
 have h3 := (rt_spec n).1
 obtain ⟨x0, hx0⟩ : ∃ x, x = min (rt n) most := ⟨_, rfl⟩
 have hx1 : x0 ≤ rt n := by omega
 have hxx : x0 * x0 ≤ n := Nat.le_trans (Nat.mul_le_mul hx1 hx1) h3
 have hx2 : x0 < 65536 := by omega
 obtain ⟨R, hR⟩ : ∃ R, R = twoF n x0 := ⟨_, rfl⟩
 rw [← hx0, ← hR]
 have HR : Hid (R = twoZ n (x0 : Int)) := hR.trans (twoZ_nat n x0).symm
 have HXX := Lib.hid hxx
 obtain ⟨r, hr⟩ : ∃ r, r = rt n := ⟨_, rfl⟩
 rw [← hr] at hx0
 have hrb : min (r : Int) (most : Int) = (x0 : Int) := by omega
 have HRT : Hid (∀ w, Calls Tryz.prog 105 #[.int .i64 (n : Int)] w fun e w' => e = .returned (.int .i64 (r : Nat)) ∧ w = w') := fun w => by rw [hr]; exact r25root_c n w hn
 clear h2 h3 hx1 hxx hR hx0 hr
 go_enter Tryz.func144, Tryz.ntmps144
 go_wp2_with fail
 refine (HRT.out _).mono ?_
 rintro e w' ⟨rfl, rfl⟩
 go_wp2
 go_loop [7] (fun v => ∃ x : Int, v = .int .i64 x ∧ -1 ≤ x ∧ x < 65536 ∧ Hid (0 ≤ x → x.toNat * x.toNat ≤ n) ∧ Hid (R = twoZ n x)) (fun v => (intOf v + 1).toNat)
 case atStart => exact ⟨x0, rfl, by omega, by omega, fun _ => HXX.out, HR⟩
 case round =>
  clear HR HXX hrb hx2
  obtain ⟨x, rfl, hx1, hx, HXX, HR⟩ := hrel
  by_cases h0 : x < 0
  ·have HX : Hid (R = none) := HR.out.trans (by rw [twoZ, if_pos h0])
   have h0' : ¬ (0 : Int) ≤ x := by omega
   clear HR HXX
   go_wp2
   refine bodyPost_ret (v := .tuple #[.int .i64 0, .int .i64 0, .bool false]) ?_ rfl ?_
   ·simp [results, Tryz.results144, go_sem]
   ·rw [HX.out]; exact ⟨rfl, rfl⟩
  ·have h0' : (0 : Int) ≤ x := by omega
   obtain ⟨y, rfl⟩ : ∃ y : Nat, x = (y : Int) := ⟨x.toNat, by omega⟩
   replace HXX : Hid (y * y ≤ n) := HXX.out h0'
   have hy : y < 65536 := by omega
   clear h0 hx1 hx
   have HS := Lib.hid ((HR.out.trans (twoZ_nat n y)).trans (two_step n y))
   clear HR
   obtain ⟨q, hq⟩ : ∃ q, q = y * y := ⟨_, rfl⟩
   have hq2 : q ≤ 65536 * 65536 := by rw [hq]; exact Nat.mul_le_mul (by omega) (by omega)
   have hqn : q ≤ n := by rw [hq]; exact HXX.out
   have hz : 2 * y * y = 2 * q := by rw [hq, Nat.mul_assoc]
   rw [hz, ← hq] at HS
   have c1 : IntKind.i64.wrap (2 * (y : Int)) = 2 * (y : Int) := wi64 (by omega) (by omega)
   have c2 : IntKind.i64.wrap (2 * (y : Int) * (y : Int)) = ((2 * q : Nat) : Int) := by
    rw [show 2 * (y : Int) * (y : Int) = ((2 * q : Nat) : Int) by rw [← hz]; simp only [Int.natCast_mul]; rfl, wi64 (by omega) (by omega)]
   have c3 : IntKind.i64.wrap ((y : Int) * (y : Int)) = (q : Int) := by rw [show (y : Int) * (y : Int) = (q : Int) by rw [hq]; exact (Int.natCast_mul y y).symm, wi64 (by omega) (by omega)]
   obtain ⟨d, hd⟩ : ∃ d, d = n - q := ⟨_, rfl⟩
   have c4 : IntKind.i64.wrap ((n : Int) - (q : Int)) = (d : Int) := by rw [wi64 (by omega) (by omega)]; omega
   rw [← hd] at HS
   have hd2 : d < 4294967296 := by omega
   by_cases h1 : 2 * q < n
   ·have HX : Hid (R = none) := HS.out.trans (if_pos h1)
    have h1' : ¬ n ≤ 2 * q := by omega
    have h1i : ¬ (n : Int) ≤ ((2 * q : Nat) : Int) := by omega
    clear HS hq hz hd hd2 c4 h1 hq2 hqn
    go_wp2
    refine bodyPost_ret (v := .tuple #[.int .i64 0, .int .i64 0, .bool false]) ?_ rfl ?_
    ·simp [results, Tryz.results144, go_sem]
    ·rw [HX.out]; exact ⟨rfl, rfl⟩
   ·have h1' : n ≤ 2 * q := by omega
    have h1i : (n : Int) ≤ ((2 * q : Nat) : Int) := by omega
    replace HS := Lib.hid (HS.out.trans (if_neg h1))
    obtain ⟨r2, hr2⟩ : ∃ r, r = rt d := ⟨_, rfl⟩
    have hr3 : r2 < 65536 := by rw [hr2]; exact rt_lt (by omega)
    have HON : Hid (∀ w, Calls Tryz.prog 105 #[.int .i64 (d : Int)] w fun e w' => e = .returned (.int .i64 (r2 : Nat)) ∧ w = w') := fun w => by rw [hr2]; exact r25root_c d w hd2
    have HOB : Hid (oneB d y = (decide (r2 * r2 = d) && decide (r2 ≤ y))) := by rw [Hid, hr2]; rfl
    rw [← hr2] at HS
    obtain ⟨z, hz2⟩ : ∃ z, z = r2 * r2 := ⟨_, rfl⟩
    have hz3 : z ≤ 65536 * 65536 := by rw [hz2]; exact Nat.mul_le_mul (by omega) (by omega)
    have c6 : IntKind.i64.wrap ((r2 : Int) * (r2 : Int)) = (z : Int) := by rw [show (r2 : Int) * (r2 : Int) = (z : Int) by rw [hz2]; exact (Int.natCast_mul r2 r2).symm, wi64 (by omega) (by omega)]
    rw [← hz2] at HOB
    clear h1 hd hr2 hd2 hq hz hz2 hq2 hqn hz3 hr3
    go_wp2_with fail
    refine (HON.out _).mono ?_
    rintro e w' ⟨rfl, rfl⟩
    by_cases h3 : z = d
    ·have e1 : ((z : Int) == (d : Int)) = true := by rw [h3]; simp
     by_cases h4 : r2 ≤ y
     ·have HX : Hid (R = some (y, r2)) := HS.out.trans (if_pos (HOB.out.trans (by rw [decide_eq_true h3, decide_eq_true h4]; rfl)))
      clear HS HOB HXX h3
      go_wp2
      refine bodyPost_ret (v := .tuple #[.int .i64 (y : Int), .int .i64 (r2 : Int), .bool true]) ?_ rfl ?_
      ·simp [results, Tryz.results144, go_sem]
      ·rw [HX.out]; exact ⟨rfl, rfl⟩
     ·have HX : Hid (R = twoZ n ((y : Int) - 1)) := (HS.out.trans (if_neg (by rw [HOB.out, decide_eq_true h3, decide_eq_false h4]; decide))).trans (twoZ_pred n y).symm
      have c5 : IntKind.i64.wrap ((y : Int) - 1) = (y : Int) - 1 := wi64 (by omega) (by omega)
      have HQ2 : Hid (0 ≤ (y : Int) - 1 → ((y : Int) - 1).toNat * ((y : Int) - 1).toNat ≤ n) := fun _ => Nat.le_trans (Nat.mul_le_mul (by omega) (by omega)) HXX.out
      clear HS HOB HXX h3
      go_wp2
      go_round
      case rel => exact ⟨(y : Int) - 1, rfl, by omega, by omega, HQ2, HX⟩
      case measure => simp [intOf]
    ·have e1 : ((z : Int) == (d : Int)) = false := by rw [beq_eq_false_iff_ne]; omega
     have HX : Hid (R = twoZ n ((y : Int) - 1)) := (HS.out.trans (if_neg (by rw [HOB.out, decide_eq_false h3]; simp))).trans (twoZ_pred n y).symm
     have c5 : IntKind.i64.wrap ((y : Int) - 1) = (y : Int) - 1 := wi64 (by omega) (by omega)
     have HQ2 : Hid (0 ≤ (y : Int) - 1 → ((y : Int) - 1).toNat * ((y : Int) - 1).toNat ≤ n) := fun _ => Nat.le_trans (Nat.mul_le_mul (by omega) (by omega)) HXX.out
     clear HS HOB HXX h3
     go_wp2
     go_round
     case rel => exact ⟨(y : Int) - 1, rfl, by omega, by omega, HQ2, HX⟩
     case measure => simp [intOf]

/-- the triple from a place that may be -1 -/
def threeZ (n : Nat) (x : Int) : Option (Nat × Nat × Nat) := if x < 0 then none else threeF n x.toNat
theorem threeZ_nat (n x : Nat) : threeZ n (x : Int) = threeF n x := by rw [threeZ, if_neg (by omega)]; rfl
theorem threeZ_pred (n x : Nat) : threeZ n ((x : Int) - 1) = if x = 0 then none else threeF n (x - 1) := by
 rw [threeZ]
 by_cases h : x = 0
 ·rw [if_pos h, if_pos (by omega)]
 ·rw [if_neg h, if_neg (by omega)]; congr 1; omega

set_option maxHeartbeats 3200000 in
theorem r25three_c (n most : Nat) (w : World) (hn : n < 4294967296) (hm : most < 4294967296) :
  Calls Tryz.prog 107 #[.int .i64 (n : Int), .int .i64 (most : Int)] w fun e w' => ∃ g, e = .returned (.tuple #[.slice (some ⟨g, 0, none⟩) 3 3, .bool (threeF n (min (rt n) most)).isSome]) ∧ Blk w' g 3 [.int .i64 (th1 (threeF n (min (rt n) most)) : Nat), .int .i64 (th2 (threeF n (min (rt n) most)) : Nat), .int .i64 (th3 (threeF n (min (rt n) most)) : Nat)] ∧ Below w.heap.size w w' := by
 have h2 := rt_lt (k := 65536) (show n < 65536 * 65536 by omega)
 have h3 := (rt_spec n).1
 obtain ⟨x0, hx0⟩ : ∃ x, x = min (rt n) most := ⟨_, rfl⟩
 have hx1 : x0 ≤ rt n := by omega
 have hxx : x0 * x0 ≤ n := Nat.le_trans (Nat.mul_le_mul hx1 hx1) h3
 have hx2 : x0 < 65536 := by omega
 obtain ⟨R, hR⟩ : ∃ R, R = threeF n x0 := ⟨_, rfl⟩
 rw [← hx0, ← hR]
 have HR : Hid (R = threeZ n (x0 : Int)) := hR.trans (threeZ_nat n x0).symm
 have HXX := Lib.hid hxx
 obtain ⟨r, hr⟩ : ∃ r, r = rt n := ⟨_, rfl⟩
 rw [← hr] at hx0
 have hrb : min (r : Int) (most : Int) = (x0 : Int) := by omega
 have HRT : Hid (∀ w, Calls Tryz.prog 105 #[.int .i64 (n : Int)] w fun e w' => e = .returned (.int .i64 (r : Nat)) ∧ w = w') := fun w => by rw [hr]; exact r25root_c n w hn
 clear h2 h3 hx1 hxx hR hx0 hr
 go_enter Tryz.func107, Tryz.ntmps107
 go_wp2_with fail
 refine (HRT.out _).mono ?_
 rintro e w' ⟨rfl, rfl⟩
 go_wp2
 go_loop [6] (fun v => ∃ x : Int, v = .int .i64 x ∧ -1 ≤ x ∧ x < 65536 ∧ Hid (0 ≤ x → x.toNat * x.toNat ≤ n) ∧ Hid (R = threeZ n x)) (fun v => (intOf v + 1).toNat)
 case atStart => exact ⟨x0, rfl, by omega, by omega, fun _ => HXX.out, HR⟩
 case round =>
  clear HR HXX hrb hx2
  obtain ⟨x, rfl, hx1, hx, HXX, HR⟩ := hrel
  by_cases h0 : x < 0
  ·have HX : Hid (R = none) := HR.out.trans (by rw [threeZ, if_pos h0])
   have h0' : ¬ (0 : Int) ≤ x := by omega
   clear HR HXX
   go_wp2
   go_ret2
   rw [HX.out]; exact ⟨_, rfl, Blk.new _ _ _, b1 _ _⟩
  ·have h0' : (0 : Int) ≤ x := by omega
   obtain ⟨y, rfl⟩ : ∃ y : Nat, x = (y : Int) := ⟨x.toNat, by omega⟩
   replace HXX : Hid (y * y ≤ n) := HXX.out h0'
   have hy : y < 65536 := by omega
   clear h0 hx1 hx
   have HS := Lib.hid ((HR.out.trans (threeZ_nat n y)).trans (three_step n y))
   clear HR
   obtain ⟨q, hq⟩ : ∃ q, q = y * y := ⟨_, rfl⟩
   have hq2 : q ≤ 65536 * 65536 := by rw [hq]; exact Nat.mul_le_mul (by omega) (by omega)
   have hqn : q ≤ n := by rw [hq]; exact HXX.out
   have hz : 3 * y * y = 3 * q := by rw [hq, Nat.mul_assoc]
   obtain ⟨d, hd⟩ : ∃ d, d = n - q := ⟨_, rfl⟩
   have hd2 : d < 4294967296 := by omega
   have HTW := fun w => r25two_c d y w hd2 (by omega)
   obtain ⟨T2, hT2⟩ : ∃ t, t = twoF d (min (rt d) y) := ⟨_, rfl⟩
   replace HS : Hid (R = if 3 * q < n then none else thM y (threeZ n ((y : Int) - 1)) T2) := by
    rw [Hid, HS.out, hz, ← hq, ← hd, ← hT2, threeZ_pred]
    split <;> (cases T2 <;> rfl)
   rw [← hT2] at HTW
   have HTT := Lib.hid HTW
   have c1 : IntKind.i64.wrap (3 * (y : Int)) = 3 * (y : Int) := wi64 (by omega) (by omega)
   have c2 : IntKind.i64.wrap (3 * (y : Int) * (y : Int)) = ((3 * q : Nat) : Int) := by
    rw [show 3 * (y : Int) * (y : Int) = ((3 * q : Nat) : Int) by rw [← hz]; simp only [Int.natCast_mul]; rfl, wi64 (by omega) (by omega)]
   have c3 : IntKind.i64.wrap ((y : Int) * (y : Int)) = (q : Int) := by rw [show (y : Int) * (y : Int) = (q : Int) by rw [hq]; exact (Int.natCast_mul y y).symm, wi64 (by omega) (by omega)]
   have c4 : IntKind.i64.wrap ((n : Int) - (q : Int)) = (d : Int) := by rw [wi64 (by omega) (by omega)]; omega
   have c5 : IntKind.i64.wrap ((y : Int) - 1) = (y : Int) - 1 := wi64 (by omega) (by omega)
   by_cases h1 : 3 * q < n
   ·have HX : Hid (R = none) := HS.out.trans (if_pos h1)
    have h1' : ¬ n ≤ 3 * q := by omega
    have h1i : ¬ (n : Int) ≤ ((3 * q : Nat) : Int) := by omega
    clear HS hq hz hd hd2 c4 h1 hq2 hqn HTW hT2 HTT
    go_wp2
    go_ret2
    rw [HX.out]; exact ⟨_, rfl, Blk.new _ _ _, b1 _ _⟩
   ·have h1' : n ≤ 3 * q := by omega
    have h1i : (n : Int) ≤ ((3 * q : Nat) : Int) := by omega
    replace HS := Lib.hid (HS.out.trans (if_neg h1))
    clear h1 hd hd2 hq hz hq2 hqn HTW hT2
    go_wp2_with fail
    refine (HTT.out _).mono ?_
    rintro e w' ⟨rfl, rfl⟩
    clear HTT
    cases T2 with
    | none =>
     replace HS : Hid (R = threeZ n ((y : Int) - 1)) := HS
     simp only [tw1, tw2, Option.isSome_none]
     have HQ2 : Hid (0 ≤ (y : Int) - 1 → ((y : Int) - 1).toNat * ((y : Int) - 1).toNat ≤ n) := fun _ => Nat.le_trans (Nat.mul_le_mul (by omega) (by omega)) HXX.out
     clear HXX
     go_wp2
     go_round
     case rel => exact ⟨(y : Int) - 1, rfl, by omega, by omega, HQ2, HS⟩
     case measure => simp [intOf]
    | some yz =>
     obtain ⟨y2, z2⟩ := yz
     have HX : Hid (R = some (y, y2, z2)) := HS
     clear HS HXX
     simp only [tw1, tw2, Option.isSome_some]
     go_wp2
     go_ret2
     rw [HX.out]; exact ⟨_, rfl, Blk.new _ _ _, b1 _ _⟩

set_option maxHeartbeats 1600000 in
theorem r25number_c (n : Nat) (w : World) (h : n < 256 ^ 128) :
  Calls Tryz.prog 104 #[.string (E n)] w fun e w' => e = .returned (.tuple #[.int .i64 (if n < 4294967296 then n else 0 : Nat), .int .i64 (if n < 4294967296 then 0 else 5)]) ∧ w = w' := by
 have HV : Hid (∀ w, Calls Tryz.prog 50 #[.string (E n)] w fun e w' => e = .returned (.bool true) ∧ w = w') := fun w => rvalidE_c n w h
 by_cases h1 : n < 4294967296
 ·rw [if_pos h1, if_pos h1]
  have hs : (E n).size ≤ 4 := (E_size_le n 4).2 (Nat.lt_of_lt_of_le h1 (by decide))
  have hs' : ¬ (4 : Int) < ((E n).size : Int) := by omega
  have HU : Hid (∀ w, Calls Tryz.prog 127 #[.string (E n)] w fun e w' => e = .returned (.int .u64 n) ∧ w = w') := fun w => ru64_c n w (Nat.lt_of_lt_of_le h1 (by decide))
  have c1 : IntKind.i64.wrap (n : Int) = (n : Int) := wi64 (by omega) (by omega)
  clear h h1
  go_enter Tryz.func104, Tryz.ntmps104
  go_wp2_with fail
  refine (HV.out _).mono ?_
  rintro e w' ⟨rfl, rfl⟩
  go_wp2_with fail
  refine (HU.out _).mono ?_
  rintro e w' ⟨rfl, rfl⟩
  go_wp2
  go_ret2
  exact ⟨rfl, rfl⟩
 ·rw [if_neg h1, if_neg h1]
  have hs : 4 < (E n).size := by
   apply Classical.byContradiction
   intro hn
   have := (E_size_le n 4).1 (by omega)
   exact h1 (Nat.lt_of_lt_of_le this (by decide))
  have hs' : (4 : Int) < ((E n).size : Int) := by omega
  go_enter Tryz.func104, Tryz.ntmps104
  go_wp2_with fail
  refine (HV.out _).mono ?_
  rintro e w' ⟨rfl, rfl⟩
  go_wp2
  go_ret2
  exact ⟨rfl, rfl⟩
set_option maxHeartbeats 1600000 in
theorem r25of_c (n : Nat) (w : World) (h : n < 65536) :
  Calls Tryz.prog 108 #[.int .i64 (n : Int)] w fun e w' => e = .returned (.string (E n)) ∧ Below w.heap.size w w' := by
 have HO : Hid (∀ w, Calls Tryz.prog 64 #[.int .u64 (n : Int)] w fun e w' => e = .returned (.string (E n)) ∧ Below w.heap.size w w') := fun w => rof_c n w (Nat.lt_of_lt_of_le h (by decide))
 have c1 : IntKind.u64.wrap (n : Int) = (n : Int) := by rw [IntKind.wrap_u64]; omega
 go_enter Tryz.func108, Tryz.ntmps108
 go_wp2_with fail
 refine (HO.out _).mono ?_
 rintro e w' ⟨rfl, hb⟩
 go_wp2
 go_ret
 exact ⟨rfl, hb⟩
end Go.Proofs.YtfgandecbkbleaaGreatDoor
