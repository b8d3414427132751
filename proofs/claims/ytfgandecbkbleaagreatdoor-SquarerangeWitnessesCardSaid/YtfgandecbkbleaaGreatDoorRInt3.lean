import Derived.Test.YtfgandecbkbleaaGreatDoorRInt1
import Derived.Test.YtfgandecbkbleaaGreatDoorDivN
import Derived.Deep.RegionHeld3
section
set_option linter.unusedVariables false
set_option linter.unusedSimpArgs false
set_option maxRecDepth 100000
namespace Go.Proofs.YtfgandecbkbleaaGreatDoor
open Go.RowKit

section
variable (x y : Int) (w : World)

set_option maxHeartbeats 800000 in
theorem riadd_same (hx : x.natAbs < 256 ^ 128) (hy : y.natAbs < 256 ^ 128) (hsum : (x + y).natAbs < 256 ^ 128) (hq : sg x = sg y) :
  Calls Tryz.prog 32 #[.agg #[.bool (sg (x)), .string (E (x).natAbs)], .agg #[.bool (sg (y)), .string (E (y).natAbs)]] w fun e w' => e = .returned (.tuple #[.agg #[.bool (sg (x + y)), .string (E (x + y).natAbs)], .int .i64 0]) ∧ Below w.heap.size w w' := by
 have HX := Lib.hid hx
 have HY := Lib.hid hy
 have HM := Lib.hid (add_made_same x y hq)
 have HS : Hid (x.natAbs + y.natAbs < 256 ^ 128) := by
  rw [same_abs x y hq] at hsum
  exact hsum
 have hs := sz _ HS.out
 have hqb : (sg x == sg y) = true := by rw [hq]; simp
 clear hx hy hsum hq
 have hA := blk3a w #[Value.bool (sg x), Value.string (E x.natAbs)] #[Value.bool (sg y), Value.string (E y.natAbs)] #[Value.bool false, Value.string { data := #[] }] 28 28 28
 have hB := blk3b w #[Value.bool (sg x), Value.string (E x.natAbs)] #[Value.bool (sg y), Value.string (E y.natAbs)] #[Value.bool false, Value.string { data := #[] }] 28 28 28
 have hC := blk3c w #[Value.bool (sg x), Value.string (E x.natAbs)] #[Value.bool (sg y), Value.string (E y.natAbs)] #[Value.bool false, Value.string { data := #[] }] 28 28 28
 go_enter Tryz.func32, Tryz.ntmps32
 go_wp2_with fail
 refine (rivalidI_c x _ HX.out).mono ?_
 rintro e w0 ⟨rfl, hb0⟩
 replace hA := hA.after hb0
 replace hB := hB.after hb0
 replace hC := hC.after hb0
 obtain ⟨hAc0, hAf0, hAc1, hAf1⟩ := hA.x2
 obtain ⟨hBc0, hBf0, hBc1, hBf1⟩ := hB.x2
 go_wp2_with fail
 refine (rivalidI_c y _ HY.out).mono ?_
 rintro e w1 ⟨rfl, hb1⟩
 clear hAc0 hAf0 hAc1 hAf1
 clear hBc0 hBf0 hBc1 hBf1
 replace hA := hA.after hb1
 replace hB := hB.after hb1
 replace hC := hC.after hb1
 obtain ⟨hAc0, hAf0, hAc1, hAf1⟩ := hA.x2
 obtain ⟨hBc0, hBf0, hBc1, hBf1⟩ := hB.x2
 go_wp2_with fail
 refine (radd_c x.natAbs y.natAbs _ HX.out HY.out HS.out).mono ?_
 rintro e w2 ⟨rfl, hb2⟩
 clear hAc0 hAf0 hAc1 hAf1
 clear hBc0 hBf0 hBc1 hBf1
 replace hA := hA.after hb2
 replace hC := hC.after hb2
 obtain ⟨hAc0, hAf0, hAc1, hAf1⟩ := hA.x2
 go_wp2_with fail
 refine (rmake_c (sg x) (x.natAbs + y.natAbs) (x + y) _ (by omega) HM.out).mono ?_
 rintro e w3 ⟨rfl, hb3⟩
 clear hAc0 hAf0 hAc1 hAf1
 replace hC := hC.after hb3
 obtain ⟨hCc0, hCf0, hCc1, hCf1⟩ := hC.x2
 go_wp2
 refine bodyPost_ret (v := .tuple #[.agg #[.bool (sg (x + y)), .string (E (x + y).natAbs)], .int .i64 0]) ?_ rfl ⟨rfl, ?_⟩
 ·simp [results, Tryz.results32, go_sem, hCc0, hCc1]
 ·exact ((bt (bt (bt (bt (b3 _ _ _ _) hb0) hb1) hb2) hb3).setCell (by simp; omega) _).setCell (by simp; omega) _

set_option maxHeartbeats 800000 in
theorem riadd_ge (hx : x.natAbs < 256 ^ 128) (hy : y.natAbs < 256 ^ 128) (hq : sg x ≠ sg y) (hg : y.natAbs ≤ x.natAbs) :
  Calls Tryz.prog 32 #[.agg #[.bool (sg (x)), .string (E (x).natAbs)], .agg #[.bool (sg (y)), .string (E (y).natAbs)]] w fun e w' => e = .returned (.tuple #[.agg #[.bool (sg (x + y)), .string (E (x + y).natAbs)], .int .i64 0]) ∧ Below w.heap.size w w' := by
 have HX := Lib.hid hx
 have HY := Lib.hid hy
 have HG := Lib.hid hg
 have HM := Lib.hid (add_made_ge x y hq hg)
 have hs : (E (x.natAbs - y.natAbs)).size ≤ 128 := sz _ (by omega)
 have hqb : (sg x == sg y) = false := by rw [beq_eq_false_iff_ne]; exact hq
 have hc := cmp_nneg x.natAbs y.natAbs hg
 clear hx hy hq hg
 have hA := blk3a w #[Value.bool (sg x), Value.string (E x.natAbs)] #[Value.bool (sg y), Value.string (E y.natAbs)] #[Value.bool false, Value.string { data := #[] }] 28 28 28
 have hB := blk3b w #[Value.bool (sg x), Value.string (E x.natAbs)] #[Value.bool (sg y), Value.string (E y.natAbs)] #[Value.bool false, Value.string { data := #[] }] 28 28 28
 have hC := blk3c w #[Value.bool (sg x), Value.string (E x.natAbs)] #[Value.bool (sg y), Value.string (E y.natAbs)] #[Value.bool false, Value.string { data := #[] }] 28 28 28
 go_enter Tryz.func32, Tryz.ntmps32
 go_wp2_with fail
 refine (rivalidI_c x _ HX.out).mono ?_
 rintro e w0 ⟨rfl, hb0⟩
 replace hA := hA.after hb0
 replace hB := hB.after hb0
 replace hC := hC.after hb0
 obtain ⟨hAc0, hAf0, hAc1, hAf1⟩ := hA.x2
 obtain ⟨hBc0, hBf0, hBc1, hBf1⟩ := hB.x2
 go_wp2_with fail
 refine (rivalidI_c y _ HY.out).mono ?_
 rintro e w1 ⟨rfl, hb1⟩
 clear hAc0 hAf0 hAc1 hAf1
 clear hBc0 hBf0 hBc1 hBf1
 replace hA := hA.after hb1
 replace hB := hB.after hb1
 replace hC := hC.after hb1
 obtain ⟨hAc0, hAf0, hAc1, hAf1⟩ := hA.x2
 obtain ⟨hBc0, hBf0, hBc1, hBf1⟩ := hB.x2
 go_wp2_with fail
 refine (rcmp_c x.natAbs y.natAbs _ HX.out HY.out).mono ?_
 rintro e wc ⟨rfl, hbc⟩
 clear hAc0 hAf0 hAc1 hAf1
 clear hBc0 hBf0 hBc1 hBf1
 replace hA := hA.after hbc
 replace hB := hB.after hbc
 replace hC := hC.after hbc
 obtain ⟨hAc0, hAf0, hAc1, hAf1⟩ := hA.x2
 obtain ⟨hBc0, hBf0, hBc1, hBf1⟩ := hB.x2
 go_wp2_with fail
 refine (rsub_c x.natAbs y.natAbs _ HX.out HG.out).mono ?_
 rintro e w2 ⟨rfl, hb2⟩
 clear hAc0 hAf0 hAc1 hAf1
 clear hBc0 hBf0 hBc1 hBf1
 replace hA := hA.after hb2
 replace hC := hC.after hb2
 obtain ⟨hAc0, hAf0, hAc1, hAf1⟩ := hA.x2
 go_wp2_with fail
 refine (rmake_c (sg x) (x.natAbs - y.natAbs) (x + y) _ (by omega) HM.out).mono ?_
 rintro e w3 ⟨rfl, hb3⟩
 clear hAc0 hAf0 hAc1 hAf1
 replace hC := hC.after hb3
 obtain ⟨hCc0, hCf0, hCc1, hCf1⟩ := hC.x2
 go_wp2
 refine bodyPost_ret (v := .tuple #[.agg #[.bool (sg (x + y)), .string (E (x + y).natAbs)], .int .i64 0]) ?_ rfl ⟨rfl, ?_⟩
 ·simp [results, Tryz.results32, go_sem, hCc0, hCc1]
 ·exact ((bt (bt (bt (bt (bt (b3 _ _ _ _) hb0) hb1) hbc) hb2) hb3).setCell (by simp; omega) _).setCell (by simp; omega) _

set_option maxHeartbeats 800000 in
theorem riadd_lt (hx : x.natAbs < 256 ^ 128) (hy : y.natAbs < 256 ^ 128) (hq : sg x ≠ sg y) (hg : x.natAbs < y.natAbs) :
  Calls Tryz.prog 32 #[.agg #[.bool (sg (x)), .string (E (x).natAbs)], .agg #[.bool (sg (y)), .string (E (y).natAbs)]] w fun e w' => e = .returned (.tuple #[.agg #[.bool (sg (x + y)), .string (E (x + y).natAbs)], .int .i64 0]) ∧ Below w.heap.size w w' := by
 have HX := Lib.hid hx
 have HY := Lib.hid hy
 have HG := Lib.hid hg
 have HM := Lib.hid (add_made_lt x y hq hg)
 have hs : (E (y.natAbs - x.natAbs)).size ≤ 128 := sz _ (by omega)
 have hqb : (sg x == sg y) = false := by rw [beq_eq_false_iff_ne]; exact hq
 have hc := cmp_neg x.natAbs y.natAbs hg
 clear hx hy hq hg
 have hA := blk3a w #[Value.bool (sg x), Value.string (E x.natAbs)] #[Value.bool (sg y), Value.string (E y.natAbs)] #[Value.bool false, Value.string { data := #[] }] 28 28 28
 have hB := blk3b w #[Value.bool (sg x), Value.string (E x.natAbs)] #[Value.bool (sg y), Value.string (E y.natAbs)] #[Value.bool false, Value.string { data := #[] }] 28 28 28
 have hC := blk3c w #[Value.bool (sg x), Value.string (E x.natAbs)] #[Value.bool (sg y), Value.string (E y.natAbs)] #[Value.bool false, Value.string { data := #[] }] 28 28 28
 go_enter Tryz.func32, Tryz.ntmps32
 go_wp2_with fail
 refine (rivalidI_c x _ HX.out).mono ?_
 rintro e w0 ⟨rfl, hb0⟩
 replace hA := hA.after hb0
 replace hB := hB.after hb0
 replace hC := hC.after hb0
 obtain ⟨hAc0, hAf0, hAc1, hAf1⟩ := hA.x2
 obtain ⟨hBc0, hBf0, hBc1, hBf1⟩ := hB.x2
 go_wp2_with fail
 refine (rivalidI_c y _ HY.out).mono ?_
 rintro e w1 ⟨rfl, hb1⟩
 clear hAc0 hAf0 hAc1 hAf1
 clear hBc0 hBf0 hBc1 hBf1
 replace hA := hA.after hb1
 replace hB := hB.after hb1
 replace hC := hC.after hb1
 obtain ⟨hAc0, hAf0, hAc1, hAf1⟩ := hA.x2
 obtain ⟨hBc0, hBf0, hBc1, hBf1⟩ := hB.x2
 go_wp2_with fail
 refine (rcmp_c x.natAbs y.natAbs _ HX.out HY.out).mono ?_
 rintro e wc ⟨rfl, hbc⟩
 clear hAc0 hAf0 hAc1 hAf1
 clear hBc0 hBf0 hBc1 hBf1
 replace hA := hA.after hbc
 replace hB := hB.after hbc
 replace hC := hC.after hbc
 obtain ⟨hAc0, hAf0, hAc1, hAf1⟩ := hA.x2
 obtain ⟨hBc0, hBf0, hBc1, hBf1⟩ := hB.x2
 go_wp2_with fail
 refine (rsub_c y.natAbs x.natAbs _ HY.out (Nat.le_of_lt HG.out)).mono ?_
 rintro e w2 ⟨rfl, hb2⟩
 clear hAc0 hAf0 hAc1 hAf1
 clear hBc0 hBf0 hBc1 hBf1
 replace hB := hB.after hb2
 replace hC := hC.after hb2
 obtain ⟨hBc0, hBf0, hBc1, hBf1⟩ := hB.x2
 go_wp2_with fail
 refine (rmake_c (sg y) (y.natAbs - x.natAbs) (x + y) _ (by omega) HM.out).mono ?_
 rintro e w3 ⟨rfl, hb3⟩
 clear hBc0 hBf0 hBc1 hBf1
 replace hC := hC.after hb3
 obtain ⟨hCc0, hCf0, hCc1, hCf1⟩ := hC.x2
 go_wp2
 refine bodyPost_ret (v := .tuple #[.agg #[.bool (sg (x + y)), .string (E (x + y).natAbs)], .int .i64 0]) ?_ rfl ⟨rfl, ?_⟩
 ·simp [results, Tryz.results32, go_sem, hCc0, hCc1]
 ·exact ((bt (bt (bt (bt (bt (b3 _ _ _ _) hb0) hb1) hbc) hb2) hb3).setCell (by simp; omega) _).setCell (by simp; omega) _

theorem riadd_c (hx : x.natAbs < 256 ^ 128) (hy : y.natAbs < 256 ^ 128) (hsum : (x + y).natAbs < 256 ^ 128) :
  Calls Tryz.prog 32 #[.agg #[.bool (sg (x)), .string (E (x).natAbs)], .agg #[.bool (sg (y)), .string (E (y).natAbs)]] w fun e w' => e = .returned (.tuple #[.agg #[.bool (sg (x + y)), .string (E (x + y).natAbs)], .int .i64 0]) ∧ Below w.heap.size w w' := by
 by_cases hq : sg x = sg y
 ·exact riadd_same x y w hx hy hsum hq
 ·rcases Nat.lt_or_ge x.natAbs y.natAbs with h | h
  ·exact riadd_lt x y w hx hy hq h
  ·exact riadd_ge x y w hx hy hq h

theorem riaddN_c (hx : x.natAbs < 256 ^ 128) (hy : y.natAbs < 256 ^ 128) (hd : (x - y).natAbs < 256 ^ 128) :
  Calls Tryz.prog 32 #[.agg #[.bool (sg (x)), .string (E (x).natAbs)], .agg #[.bool (sg (-y)), .string (E y.natAbs)]] w fun e w' => e = .returned (.tuple #[.agg #[.bool (sg (x - y)), .string (E (x - y).natAbs)], .int .i64 0]) ∧ Below w.heap.size w w' := by
 have := riadd_c x (-y) w hx (by rw [Int.natAbs_neg]; exact hy) (by rw [← Int.sub_eq_add_neg]; exact hd)
 rwa [Int.natAbs_neg, ← Int.sub_eq_add_neg] at this

set_option maxHeartbeats 1000000 in
theorem risub_c (hx : x.natAbs < 256 ^ 128) (hy : y.natAbs < 256 ^ 128) (hd : (x - y).natAbs < 256 ^ 128) :
  Calls Tryz.prog 25 #[.agg #[.bool (sg (x)), .string (E (x).natAbs)], .agg #[.bool (sg (y)), .string (E (y).natAbs)]] w fun e w' => e = .returned (.tuple #[.agg #[.bool (sg (x - y)), .string (E (x - y).natAbs)], .int .i64 0]) ∧ Below w.heap.size w w' := by
 have HX := Lib.hid hx
 have HY := Lib.hid hy
 have HD := Lib.hid hd
 clear hx hy hd
 have hA := blk3a w #[Value.bool (sg x), Value.string (E x.natAbs)] #[Value.bool (sg y), Value.string (E y.natAbs)] #[Value.bool false, Value.string { data := #[] }] 28 28 28
 have hB := blk3b w #[Value.bool (sg x), Value.string (E x.natAbs)] #[Value.bool (sg y), Value.string (E y.natAbs)] #[Value.bool false, Value.string { data := #[] }] 28 28 28
 have hC := blk3c w #[Value.bool (sg x), Value.string (E x.natAbs)] #[Value.bool (sg y), Value.string (E y.natAbs)] #[Value.bool false, Value.string { data := #[] }] 28 28 28
 go_enter Tryz.func25, Tryz.ntmps25
 go_wp2_with fail
 refine (rivalidI_c x _ HX.out).mono ?_
 rintro e w0 ⟨rfl, hb0⟩
 replace hA := hA.after hb0
 replace hB := hB.after hb0
 replace hC := hC.after hb0
 obtain ⟨hAc0, hAf0, hAc1, hAf1⟩ := hA.x2
 obtain ⟨hBc0, hBf0, hBc1, hBf1⟩ := hB.x2
 go_wp2_with fail
 refine (rivalidI_c y _ HY.out).mono ?_
 rintro e w1 ⟨rfl, hb1⟩
 clear hAc0 hAf0 hAc1 hAf1
 clear hBc0 hBf0 hBc1 hBf1
 replace hA := hA.after hb1
 replace hB := hB.after hb1
 replace hC := hC.after hb1
 obtain ⟨hAc0, hAf0, hAc1, hAf1⟩ := hA.x2
 obtain ⟨hBc0, hBf0, hBc1, hBf1⟩ := hB.x2
 obtain ⟨hCc0, hCf0, hCc1, hCf1⟩ := hC.x2
 go_wp2_with fail
 go_region_with (first | (go_at_call 68; refine (rinegS_c y _ HY.out).mono ?_; rintro e w2 ⟨rfl, hb2⟩; have hA2 := hA.drew.after hb2; have hC2 := hC.drew.after hb2; have c0 := hA2.cell 0; have c1 := hA2.cell 1) | (go_at_call 32; refine (riaddN_c x y _ HX.out HY.out HD.out).mono ?_; rintro e w3 ⟨rfl, hb3⟩; have hC3 := hC2.after hb3; have d0 := hC3.cell 0; have d1 := hC3.cell 1; have g0 := hC3.free 0; have g1 := hC3.free 1))
 all_goals go_wp2
 all_goals
  refine bodyPost_ret (v := .tuple #[.agg #[.bool (sg (x - y)), .string (E (x - y).natAbs)], .int .i64 0]) ?_ rfl ⟨rfl, ?_⟩
  ·simp [results, Tryz.results25, go_sem, d0, d1]
  ·exact ((bt (bt (bt (bt (b3 _ _ _ _) hb0) hb1).drew hb2) hb3).setCell (by simp; omega) _).setCell (by simp; omega) _

end

end Go.Proofs.YtfgandecbkbleaaGreatDoor
end

section
set_option linter.unusedVariables false
set_option linter.unusedSimpArgs false
set_option maxRecDepth 100000
namespace Go.Proofs.YtfgandecbkbleaaGreatDoor
open Go.RowKit

theorem rivalidT_c (b : Bool) (n : Nat) (w : World) (hn : n < 256 ^ 128) (h : ivB b (E n) = true) :
  Calls Tryz.prog 73 #[.agg #[.bool b, .string (E n)]] w fun e w' => e = .returned (.bool true) ∧ Below w.heap.size w w' := by
 have := rivalid_c b (E n) w (by have := sz n hn; omega)
 rw [h] at this
 exact this

theorem ivB_false (n : Nat) (h : n < 256 ^ 128) : ivB false (E n) = true := by
 unfold ivB; rw [vldB_E n h]; rfl

theorem fits_div (n m : Nat) (hn : n < 256 ^ 128) (h0 : 0 < m) (hr : n % m ≠ 0) : n / m + 1 < 256 ^ 128 := by
 have h1 : m ≠ 1 := by intro e; subst e; simp [Nat.mod_one] at hr
 have h2 : 0 < n := by
  rcases Nat.eq_zero_or_pos n with h | h
  ·subst h; simp at hr
  ·exact h
 have h3 : n / m < n := Nat.div_lt_self h2 (by omega)
 omega

def qAbs (b : Bool) (n m : Nat) : Nat := if b = true ∧ n % m ≠ 0 then n / m + 1 else n / m
def rAbs (b : Bool) (n m : Nat) : Nat := if b = true ∧ n % m ≠ 0 then m - n % m else n % m

set_option maxHeartbeats 1000000 in
theorem ridivmod_aux (b : Bool) (n m : Nat) (z : Int) (w : World) (hn : n < 256 ^ 128) (hm : m < 256 ^ 128) (h0 : 0 < m) (hv : ivB b (E n) = true) (q r : Nat) (hq : q = qAbs b n m) (hr : r = rAbs b n m) (hz : z = if b then -(q : Int) else (q : Int)) :
  Calls Tryz.prog 204 #[.agg #[.bool b, .string (E n)], .agg #[.bool false, .string (E m)]] w fun e w' => e = .returned (.tuple #[.agg #[.bool (sg (z)), .string (E (z).natAbs)], .string (E r), .int .i64 0]) ∧ Below w.heap.size w w' := by
 have HN := Lib.hid hn
 have HM := Lib.hid hm
 have H0 := Lib.hid h0
 have HV := Lib.hid hv
 have HV2 := Lib.hid (ivB_false m hm)
 have hz0 := nzE h0
 have HLT := Lib.hid (Nat.mod_lt n h0)
 have hszq : (E (n / m)).size ≤ 128 := sz _ (Nat.lt_of_le_of_lt (Nat.div_le_self _ _) hn)
 have hA := blk3a w #[Value.bool b, Value.string (E n)] #[Value.bool false, Value.string (E m)] #[Value.bool false, Value.string { data := #[] }] 28 28 28
 have hB := blk3b w #[Value.bool b, Value.string (E n)] #[Value.bool false, Value.string (E m)] #[Value.bool false, Value.string { data := #[] }] 28 28 28
 have hC := blk3c w #[Value.bool b, Value.string (E n)] #[Value.bool false, Value.string (E m)] #[Value.bool false, Value.string { data := #[] }] 28 28 28
 clear hn hm h0 hv
 cases b
 ·have HR : Hid (r = n % m) := by rw [Hid, hr]; simp [rAbs]
  have HQ : Hid (q = n / m) := by rw [Hid, hq]; simp [qAbs]
  have HZ : Hid (z = if false then -((n / m : Nat) : Int) else ((n / m : Nat) : Int)) := by rw [Hid, hz, ← HQ.out]
  clear hr hq hz
  go_enter Tryz.func204, Tryz.ntmps204
  go_wp2_with fail
  refine (rivalidT_c false n _ HN.out HV.out).mono ?_
  rintro e w0 ⟨rfl, hb0⟩
  replace hA := hA.after hb0
  replace hB := hB.after hb0
  replace hC := hC.after hb0
  obtain ⟨hAc0, hAf0, hAc1, hAf1⟩ := hA.x2
  obtain ⟨hBc0, hBf0, hBc1, hBf1⟩ := hB.x2
  go_wp2_with fail
  refine (rivalidT_c false m _ HM.out HV2.out).mono ?_
  rintro e w1 ⟨rfl, hb1⟩
  clear hAc0 hAf0 hAc1 hAf1
  clear hBc0 hBf0 hBc1 hBf1
  replace hA := hA.after hb1
  replace hB := hB.after hb1
  replace hC := hC.after hb1
  obtain ⟨hAc0, hAf0, hAc1, hAf1⟩ := hA.x2
  obtain ⟨hBc0, hBf0, hBc1, hBf1⟩ := hB.x2
  go_wp2_with fail
  refine (rdivmod_c n m _ HN.out HM.out H0.out).mono ?_
  rintro e w2 ⟨rfl, hb2⟩
  clear hAc0 hAf0 hAc1 hAf1
  clear hBc0 hBf0 hBc1 hBf1
  replace hA := hA.after hb2
  replace hB := hB.after hb2
  replace hC := hC.after hb2
  obtain ⟨hAc0, hAf0, hAc1, hAf1⟩ := hA.x2
  obtain ⟨hBc0, hBf0, hBc1, hBf1⟩ := hB.x2
  go_wp2_with fail
  refine (rmake_c false (n / m) z _ (by omega) HZ.out).mono ?_
  rintro e w3 ⟨rfl, hb3⟩
  clear hAc0 hAf0 hAc1 hAf1
  clear hBc0 hBf0 hBc1 hBf1
  replace hC := hC.after hb3
  obtain ⟨hCc0, hCf0, hCc1, hCf1⟩ := hC.x2
  go_wp2
  refine bodyPost_ret (v := .tuple #[.agg #[.bool (sg (z)), .string (E (z).natAbs)], .string (E r), .int .i64 0]) ?_ rfl ⟨rfl, ?_⟩
  ·rw [HR.out]; simp [results, Tryz.results204, go_sem, hCc0, hCc1]
  ·exact ((bt (bt (bt (bt (b3 _ _ _ _) hb0) hb1) hb2) hb3).setCell (by simp; omega) _).setCell (by simp; omega) _
 ·by_cases hzr : n % m = 0
  ·have HR : Hid (r = n % m) := by rw [Hid, hr]; simp [rAbs, hzr]
   have HQ : Hid (q = n / m) := by rw [Hid, hq]; simp [qAbs, hzr]
   have HZ : Hid (z = if true then -((n / m : Nat) : Int) else ((n / m : Nat) : Int)) := by rw [Hid, hz, ← HQ.out]
   have hzz := zE hzr
   clear hr hq hz hzr
   go_enter Tryz.func204, Tryz.ntmps204
   go_wp2_with fail
   refine (rivalidT_c true n _ HN.out HV.out).mono ?_
   rintro e w0 ⟨rfl, hb0⟩
   replace hA := hA.after hb0
   replace hB := hB.after hb0
   replace hC := hC.after hb0
   obtain ⟨hAc0, hAf0, hAc1, hAf1⟩ := hA.x2
   obtain ⟨hBc0, hBf0, hBc1, hBf1⟩ := hB.x2
   go_wp2_with fail
   refine (rivalidT_c false m _ HM.out HV2.out).mono ?_
   rintro e w1 ⟨rfl, hb1⟩
   clear hAc0 hAf0 hAc1 hAf1
   clear hBc0 hBf0 hBc1 hBf1
   replace hA := hA.after hb1
   replace hB := hB.after hb1
   replace hC := hC.after hb1
   obtain ⟨hAc0, hAf0, hAc1, hAf1⟩ := hA.x2
   obtain ⟨hBc0, hBf0, hBc1, hBf1⟩ := hB.x2
   go_wp2_with fail
   refine (rdivmod_c n m _ HN.out HM.out H0.out).mono ?_
   rintro e w2 ⟨rfl, hb2⟩
   clear hAc0 hAf0 hAc1 hAf1
   clear hBc0 hBf0 hBc1 hBf1
   replace hA := hA.after hb2
   replace hB := hB.after hb2
   replace hC := hC.after hb2
   obtain ⟨hAc0, hAf0, hAc1, hAf1⟩ := hA.x2
   obtain ⟨hBc0, hBf0, hBc1, hBf1⟩ := hB.x2
   go_wp2_with fail
   refine (rmake_c true (n / m) z _ (by omega) HZ.out).mono ?_
   rintro e w3 ⟨rfl, hb3⟩
   clear hAc0 hAf0 hAc1 hAf1
   clear hBc0 hBf0 hBc1 hBf1
   replace hC := hC.after hb3
   obtain ⟨hCc0, hCf0, hCc1, hCf1⟩ := hC.x2
   go_wp2
   refine bodyPost_ret (v := .tuple #[.agg #[.bool (sg (z)), .string (E (z).natAbs)], .string (E r), .int .i64 0]) ?_ rfl ⟨rfl, ?_⟩
   ·rw [HR.out]; simp [results, Tryz.results204, go_sem, hCc0, hCc1]
   ·exact ((bt (bt (bt (bt (b3 _ _ _ _) hb0) hb1) hb2) hb3).setCell (by simp; omega) _).setCell (by simp; omega) _
  ·have HR : Hid (r = m - n % m) := by rw [Hid, hr]; simp [rAbs, hzr]
   have HQ : Hid (q = n / m + 1) := by rw [Hid, hq]; simp [qAbs, hzr]
   have HZ : Hid (z = if true then -((n / m + 1 : Nat) : Int) else ((n / m + 1 : Nat) : Int)) := by rw [Hid, hz, ← HQ.out]
   have hzz := nzE (Nat.pos_of_ne_zero hzr)
   have HF := Lib.hid (fits_div n m HN.out H0.out hzr)
   have hszq1 : (E (n / m + 1)).size ≤ 128 := sz _ HF.out
   have HDV := Lib.hid (Nat.lt_of_le_of_lt (Nat.div_le_self n m) HN.out)
   clear hr hq hz hzr
   go_enter Tryz.func204, Tryz.ntmps204
   go_wp2_with fail
   refine (rivalidT_c true n _ HN.out HV.out).mono ?_
   rintro e w0 ⟨rfl, hb0⟩
   replace hA := hA.after hb0
   replace hB := hB.after hb0
   replace hC := hC.after hb0
   obtain ⟨hAc0, hAf0, hAc1, hAf1⟩ := hA.x2
   obtain ⟨hBc0, hBf0, hBc1, hBf1⟩ := hB.x2
   go_wp2_with fail
   refine (rivalidT_c false m _ HM.out HV2.out).mono ?_
   rintro e w1 ⟨rfl, hb1⟩
   clear hAc0 hAf0 hAc1 hAf1
   clear hBc0 hBf0 hBc1 hBf1
   replace hA := hA.after hb1
   replace hB := hB.after hb1
   replace hC := hC.after hb1
   obtain ⟨hAc0, hAf0, hAc1, hAf1⟩ := hA.x2
   obtain ⟨hBc0, hBf0, hBc1, hBf1⟩ := hB.x2
   go_wp2_with fail
   refine (rdivmod_c n m _ HN.out HM.out H0.out).mono ?_
   rintro e w2 ⟨rfl, hb2⟩
   clear hAc0 hAf0 hAc1 hAf1
   clear hBc0 hBf0 hBc1 hBf1
   replace hA := hA.after hb2
   replace hB := hB.after hb2
   replace hC := hC.after hb2
   obtain ⟨hAc0, hAf0, hAc1, hAf1⟩ := hA.x2
   obtain ⟨hBc0, hBf0, hBc1, hBf1⟩ := hB.x2
   go_wp2_with fail
   have hof : Calls Tryz.prog 64 #[.int .u64 1] w2 fun e w' => e = .returned (.string (E 1)) ∧ Below w2.heap.size w2 w' := rof_c 1 w2 (by decide)
   refine hof.mono ?_
   clear hof
   rintro e w3 ⟨rfl, hb3⟩
   clear hAc0 hAf0 hAc1 hAf1
   clear hBc0 hBf0 hBc1 hBf1
   replace hA := hA.after hb3
   replace hB := hB.after hb3
   replace hC := hC.after hb3
   obtain ⟨hAc0, hAf0, hAc1, hAf1⟩ := hA.x2
   obtain ⟨hBc0, hBf0, hBc1, hBf1⟩ := hB.x2
   go_wp2_with fail
   refine (radd_c (n / m) 1 _ HDV.out (by decide) HF.out).mono ?_
   rintro e w4 ⟨rfl, hb4⟩
   clear hAc0 hAf0 hAc1 hAf1
   clear hBc0 hBf0 hBc1 hBf1
   replace hA := hA.after hb4
   replace hB := hB.after hb4
   replace hC := hC.after hb4
   obtain ⟨hAc0, hAf0, hAc1, hAf1⟩ := hA.x2
   obtain ⟨hBc0, hBf0, hBc1, hBf1⟩ := hB.x2
   go_wp2_with fail
   refine (rsub_c m (n % m) _ HM.out (Nat.le_of_lt HLT.out)).mono ?_
   rintro e w5 ⟨rfl, hb5⟩
   clear hAc0 hAf0 hAc1 hAf1
   clear hBc0 hBf0 hBc1 hBf1
   replace hA := hA.after hb5
   replace hB := hB.after hb5
   replace hC := hC.after hb5
   obtain ⟨hAc0, hAf0, hAc1, hAf1⟩ := hA.x2
   obtain ⟨hBc0, hBf0, hBc1, hBf1⟩ := hB.x2
   go_wp2_with fail
   refine (rmake_c true (n / m + 1) z _ (by omega) HZ.out).mono ?_
   rintro e w6 ⟨rfl, hb6⟩
   clear hAc0 hAf0 hAc1 hAf1
   clear hBc0 hBf0 hBc1 hBf1
   replace hC := hC.after hb6
   obtain ⟨hCc0, hCf0, hCc1, hCf1⟩ := hC.x2
   go_wp2
   refine bodyPost_ret (v := .tuple #[.agg #[.bool (sg (z)), .string (E (z).natAbs)], .string (E r), .int .i64 0]) ?_ rfl ⟨rfl, ?_⟩
   ·rw [HR.out]; simp [results, Tryz.results204, go_sem, hCc0, hCc1]
   ·exact ((bt (bt (bt (bt (bt (bt (bt (b3 _ _ _ _) hb0) hb1) hb2) hb3) hb4) hb5) hb6).setCell (by simp; omega) _).setCell (by simp; omega) _

theorem ediv_if (z : Int) (m : Nat) (hm : 0 < m) : z / (m : Int) = if sg z then -(qAbs (sg z) z.natAbs m : Int) else (qAbs (sg z) z.natAbs m : Int) := by
 have hd := Int.mul_ediv_add_emod z (m : Int)
 have hmi : (0 : Int) < (m : Int) := by omega
 have hr0 := Int.emod_nonneg z (Int.ne_of_gt hmi)
 have hr1 := Int.emod_lt_of_pos z hmi
 by_cases h : z < 0
 ·rw [sg_of_neg h]
  simp only [if_true]
  unfold qAbs
  have hn := Nat.div_add_mod z.natAbs m
  have hnlt := Nat.mod_lt z.natAbs hm
  have hE := emod_if z m hm
  rw [sg_of_neg h] at hE
  by_cases hr : z.natAbs % m = 0
  ·rw [if_neg (fun h => h.2 hr)] at hE ⊢
   rw [hr] at hE hn
   have e0 : z % (m : Int) = 0 := by omega
   rw [e0, Int.add_zero] at hd
   have e1 : (m : Int) * (z / (m : Int)) = (m : Int) * (-((z.natAbs / m : Nat) : Int)) := by
    rw [hd, Int.mul_neg]; omega
   exact Int.eq_of_mul_eq_mul_left (Int.ne_of_gt hmi) e1
  ·rw [if_pos ⟨rfl, hr⟩] at hE ⊢
   have e0 : z % (m : Int) = ((m - z.natAbs % m : Nat) : Int) := by omega
   have e1 : (m : Int) * (z / (m : Int)) = (m : Int) * (-((z.natAbs / m + 1 : Nat) : Int)) := by
    rw [Int.mul_neg, Int.natCast_add, Int.mul_add]
    simp only [Int.natCast_one, Int.mul_one]
    have : (m : Int) * ((z.natAbs / m : Nat) : Int) = ((m * (z.natAbs / m) : Nat) : Int) := by rw [Int.natCast_mul]
    omega
   exact Int.eq_of_mul_eq_mul_left (Int.ne_of_gt hmi) e1
 ·rw [sg_of_nonneg (by omega)]
  simp only [Bool.false_eq_true, if_false]
  unfold qAbs
  rw [if_neg (fun h => Bool.noConfusion h.1)]
  have e : z = (z.natAbs : Int) := by omega
  conv => lhs; rw [e]
  rw [Int.natCast_ediv]

/-- 'DivMod' by a natural number -/
theorem ridivmod_c (z : Int) (m : Nat) (w : World) (hz : z.natAbs < 256 ^ 128) (hm : m < 256 ^ 128) (h0 : 0 < m) :
  Calls Tryz.prog 204 #[.agg #[.bool (sg (z)), .string (E (z).natAbs)], .agg #[.bool (sg (m : Int)), .string (E m)]] w fun e w' => e = .returned (.tuple #[.agg #[.bool (sg (z / (m : Int))), .string (E (z / (m : Int)).natAbs)], .string (E (z % (m : Int)).toNat), .int .i64 0]) ∧ Below w.heap.size w w' := by
 rw [sg_nat m]
 exact ridivmod_aux (sg z) z.natAbs m _ w hz hm h0 (ivB_I z hz) _ _ rfl (by rw [emod_if z m h0]; rfl) (ediv_if z m h0)

theorem rifromS_c (n : Nat) (w : World) (hn : n < 256 ^ 128) :
  Calls Tryz.prog 55 #[.string (E n)] w fun e w' => e = .returned (.agg #[.bool (sg (n : Int)), .string (E n)]) ∧ Below w.heap.size w w' := by
 have := rifrom_c n w hn
 rwa [Int.natAbs_natCast] at this

set_option maxHeartbeats 1000000 in
theorem rimod_c (z : Int) (m : Nat) (w : World) (hz : z.natAbs < 256 ^ 128) (hm : m < 256 ^ 128) (h0 : 0 < m) :
  Calls Tryz.prog 183 #[.agg #[.bool (sg (z)), .string (E (z).natAbs)], .string (E m)] w fun e w' => e = .returned (.tuple #[.string (E (z % (m : Int)).toNat), .int .i64 0]) ∧ Below w.heap.size w w' := by
 have HZ := Lib.hid hz
 have HM := Lib.hid hm
 have H0 := Lib.hid h0
 have hA := Blk.new w #[Value.bool (sg z), Value.string (E z.natAbs)] 28
 clear hz hm h0
 go_enter Tryz.func183, Tryz.ntmps183
 go_wp2_with fail
 refine (rivalidI_c z _ HZ.out).mono ?_
 rintro e w0 ⟨rfl, hb0⟩
 replace hA := hA.after hb0
 obtain ⟨hAc0, hAf0, hAc1, hAf1⟩ := hA.x2
 go_wp2_with fail
 refine (rvalidE_c m _ HM.out).mono ?_
 rintro e w' ⟨rfl, rfl⟩
 go_wp2_with fail
 have hl0 : w.heap.size < w0.heap.size := hA.lt
 go_region_with (first | (go_at_call 55; refine (rifromS_c m _ HM.out).mono ?_; rintro e wf ⟨rfl, hbf⟩; have hAf : Blk wf w.heap.size 28 [Value.bool (sg z), Value.string (E z.natAbs)] := (by first | exact hA.drew.after hbf | exact (hA.alloc _).drew.after hbf); have af0 := hAf.cell 0; have af1 := hAf.cell 1; have hlf : w.heap.size < wf.heap.size := hAf.lt) | (go_at_call 204; refine (ridivmod_c z m _ HZ.out HM.out H0.out).mono ?_; rintro e wd ⟨rfl, hbd⟩; have hld : w.heap.size < wd.heap.size := (by have h5 := hbd.size; (try simp at h5); omega); (try (have kA := ((Blk.new w0 #[Value.bool false, Value.string { data := #[] }] 28).drew.after hbf).after hbd; have kA0 := kA.cell 0; have kA1 := kA.cell 1; have kA2 := kA.free 0; have kA3 := kA.free 1)); (try (have kB := (Blk.new wf #[Value.bool false, Value.string { data := #[] }] 28).after hbd; have kB0 := kB.cell 0; have kB1 := kB.cell 1; have kB2 := kB.free 0; have kB3 := kB.free 1))))
 all_goals go_wp2
 all_goals
  go_ret2
  refine ⟨rfl, ?_⟩
  repeat (first | exact bt (b1 _ _) hb0 | (refine ba ?_ _) | (refine Below.setCell ?_ (by first | omega | (dsimp only; omega) | (simp; omega) | simp) _) | (refine Below.drew ?_) | (refine bt ?_ hbd) | (refine bt ?_ hbf))

end Go.Proofs.YtfgandecbkbleaaGreatDoor
end
