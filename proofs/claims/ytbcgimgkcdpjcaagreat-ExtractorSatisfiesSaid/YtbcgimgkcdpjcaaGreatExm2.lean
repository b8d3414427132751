import Derived.Test.YtbcgimgkcdpjcaaGreatDf5
import Derived.Test.YtbcgimgkcdpjcaaGreatLck6
set_option linter.unusedVariables false
set_option linter.unusedSimpArgs false
set_option maxRecDepth 100000
section
namespace Go.Proofs.YtbcgimgkcdpjcaaGreat
open Go.RowKit Go.Shelf

theorem ediv_exact (x : Int) (c : Nat) (h0 : 0 < c) (h : x.natAbs % c = 0) : x / (c : Int) = if (sg x != false) then -((x.natAbs / c : Nat) : Int) else ((x.natAbs / c : Nat) : Int) := by
 have e1 := Nat.div_add_mod x.natAbs c
 rw [h, Nat.add_zero] at e1
 have e2 : (c : Int) * ((x.natAbs / c : Nat) : Int) = (x.natAbs : Int) := by rw [← Int.natCast_mul, e1]
 by_cases hx : x < 0
 ·rw [sg_of_neg hx, if_pos (by decide)]
  have e3 : x = -((c : Int) * ((x.natAbs / c : Nat) : Int)) := by rw [e2]; omega
  conv => lhs; rw [e3]
  rw [← Int.mul_neg, Int.mul_ediv_cancel_left _ (by omega)]
 ·rw [sg_of_nonneg (by omega), if_neg (by decide)]
  have e3 : x = (c : Int) * ((x.natAbs / c : Nat) : Int) := by rw [e2]; omega
  conv => lhs; rw [e3]
  rw [Int.mul_ediv_cancel_left _ (by omega)]

set_option maxHeartbeats 2000000 in
theorem idivide_no (x : Int) (c : Nat) (w : World) (hx : x.natAbs < 256 ^ 128) (hc : c < 256 ^ 128) (h0 : 0 < c)
  (hdm : ∀ w, Calls Tryz.prog 131 #[.string (E x.natAbs), .string (E c)] w fun e w' => e = .returned (.tuple #[.string (E (x.natAbs / c)), .string (E (x.natAbs % c)), .int .i64 0]) ∧ Below w.heap.size w w') (hr : x.natAbs % c ≠ 0) :
  Calls Tryz.prog 84 #[.agg #[.bool (sg (x)), .string (E (x).natAbs)], .agg #[.bool false, .string (E c)]] w fun e w' => e = .returned (.tuple #[.agg #[.bool false, .string { data := #[] }], .int .i64 1]) ∧ Below w.heap.size w w' := by
 have HBO : Hid (∀ w, Calls Tryz.prog 117 #[.agg #[.bool (sg (x)), .string (E (x).natAbs)], .agg #[.bool false, .string (E c)]] w fun e w' => e = .returned (.bool true) ∧ Below w.heap.size w w') := fun w => by
  have h := iboth_c x (c : Int) w hx (by rw [Int.natAbs_natCast]; exact hc)
  rwa [Int.natAbs_natCast, sg_nat] at h
 have HDM := Lib.hid hdm
 have hz := nzE h0
 have hzr := nzE (Nat.pos_of_ne_zero hr)
 clear hx hc h0 hdm hr
 have hA := blk3a w #[Value.bool (sg x), Value.string (E x.natAbs)] #[Value.bool false, Value.string (E c)] #[Value.bool false, Value.string { data := #[] }] 39 39 39
 have hB := blk3b w #[Value.bool (sg x), Value.string (E x.natAbs)] #[Value.bool false, Value.string (E c)] #[Value.bool false, Value.string { data := #[] }] 39 39 39
 have hC := blk3c w #[Value.bool (sg x), Value.string (E x.natAbs)] #[Value.bool false, Value.string (E c)] #[Value.bool false, Value.string { data := #[] }] 39 39 39
 have hBW := b3 w (.cells #[Value.bool (sg x), Value.string (E x.natAbs)] 39) (.cells #[Value.bool false, Value.string (E c)] 39) (.cells #[Value.bool false, Value.string { data := #[] }] 39)
 have hAc0 := hA.cell 0
 have hAf0 := hA.free 0
 have hAc1 := hA.cell 1
 have hAf1 := hA.free 1
 have hBc0 := hB.cell 0
 have hBf0 := hB.free 0
 have hBc1 := hB.cell 1
 have hBf1 := hB.free 1
 go_enter Tryz.func84, Tryz.ntmps84
 go_wp2_with fail
 refine (HBO.out _).mono ?_
 rintro e w1 ⟨rfl, hb1⟩
 clear hAc0 hAf0 hAc1 hAf1
 clear hBc0 hBf0 hBc1 hBf1
 replace hA := hA.after hb1
 replace hB := hB.after hb1
 replace hC := hC.after hb1
 replace hBW := bt hBW hb1
 clear hb1
 have hAl := hA.lt
 have hBl := hB.lt
 have hAc0 := hA.cell 0
 have hAf0 := hA.free 0
 have hAc1 := hA.cell 1
 have hAf1 := hA.free 1
 have hBc0 := hB.cell 0
 have hBf0 := hB.free 0
 have hBc1 := hB.cell 1
 have hBf1 := hB.free 1
 go_wp2_with fail
 refine (HDM.out _).mono ?_
 rintro e w2 ⟨rfl, hb2⟩
 clear hAc0 hAf0 hAc1 hAf1
 clear hBc0 hBf0 hBc1 hBf1
 replace hA := hA.after hb2
 replace hB := hB.after hb2
 replace hC := hC.after hb2
 replace hBW := bt hBW hb2
 clear hb2 hAl hBl
 have hAl := hA.lt
 have hBl := hB.lt
 have hCl := hC.lt
 have hCc0 := hC.cell 0
 have hCf0 := hC.free 0
 have hCc1 := hC.cell 1
 have hCf1 := hC.free 1
 go_wp2
 refine bodyPost_ret (v := .tuple #[.agg #[.bool false, .string { data := #[] }], .int .i64 1]) ?_ rfl ⟨rfl, ?_⟩
 ·simp [results, Tryz.results84, go_sem, hCc0, hCc1, hCl]
 ·exact (hBW.setCell (by first | (simp; omega) | simp) _).setCell (by first | (simp; omega) | simp) _

set_option maxHeartbeats 2000000 in
theorem idivide_yes (x : Int) (c : Nat) (w : World) (hx : x.natAbs < 256 ^ 128) (hc : c < 256 ^ 128) (h0 : 0 < c)
  (hdm : ∀ w, Calls Tryz.prog 131 #[.string (E x.natAbs), .string (E c)] w fun e w' => e = .returned (.tuple #[.string (E (x.natAbs / c)), .string (E (x.natAbs % c)), .int .i64 0]) ∧ Below w.heap.size w w') (hr : x.natAbs % c = 0) :
  Calls Tryz.prog 84 #[.agg #[.bool (sg (x)), .string (E (x).natAbs)], .agg #[.bool false, .string (E c)]] w fun e w' => e = .returned (.tuple #[.agg #[.bool (sg (x / (c : Int))), .string (E (x / (c : Int)).natAbs)], .int .i64 0]) ∧ Below w.heap.size w w' := by
 have HBO : Hid (∀ w, Calls Tryz.prog 117 #[.agg #[.bool (sg (x)), .string (E (x).natAbs)], .agg #[.bool false, .string (E c)]] w fun e w' => e = .returned (.bool true) ∧ Below w.heap.size w w') := fun w => by
  have h := iboth_c x (c : Int) w hx (by rw [Int.natAbs_natCast]; exact hc)
  rwa [Int.natAbs_natCast, sg_nat] at h
 have HDM := Lib.hid hdm
 have hz := nzE h0
 have hzr := zE hr
 have HMA : Hid (∀ w, Calls Tryz.prog 64 #[.bool (sg x != false), .string (E (x.natAbs / c))] w fun e w' => e = .returned (.agg #[.bool (sg (x / (c : Int))), .string (E (x / (c : Int)).natAbs)]) ∧ Below w.heap.size w w') := fun w =>
  made_c (sg x != false) (x.natAbs / c) (x / (c : Int)) w (by have := sz _ (Nat.lt_of_le_of_lt (Nat.div_le_self x.natAbs c) hx); omega) (ediv_exact x c h0 hr)
 generalize x / (c : Int) = qz at HMA
 generalize x.natAbs / c = qn at HMA HDM
 clear hx hc h0 hdm hr
 have hA := blk3a w #[Value.bool (sg x), Value.string (E x.natAbs)] #[Value.bool false, Value.string (E c)] #[Value.bool false, Value.string { data := #[] }] 39 39 39
 have hB := blk3b w #[Value.bool (sg x), Value.string (E x.natAbs)] #[Value.bool false, Value.string (E c)] #[Value.bool false, Value.string { data := #[] }] 39 39 39
 have hC := blk3c w #[Value.bool (sg x), Value.string (E x.natAbs)] #[Value.bool false, Value.string (E c)] #[Value.bool false, Value.string { data := #[] }] 39 39 39
 have hBW := b3 w (.cells #[Value.bool (sg x), Value.string (E x.natAbs)] 39) (.cells #[Value.bool false, Value.string (E c)] 39) (.cells #[Value.bool false, Value.string { data := #[] }] 39)
 have hAc0 := hA.cell 0
 have hAf0 := hA.free 0
 have hAc1 := hA.cell 1
 have hAf1 := hA.free 1
 have hBc0 := hB.cell 0
 have hBf0 := hB.free 0
 have hBc1 := hB.cell 1
 have hBf1 := hB.free 1
 go_enter Tryz.func84, Tryz.ntmps84
 go_wp2_with fail
 refine (HBO.out _).mono ?_
 rintro e w1 ⟨rfl, hb1⟩
 clear hAc0 hAf0 hAc1 hAf1
 clear hBc0 hBf0 hBc1 hBf1
 replace hA := hA.after hb1
 replace hB := hB.after hb1
 replace hC := hC.after hb1
 replace hBW := bt hBW hb1
 clear hb1
 have hAl := hA.lt
 have hBl := hB.lt
 have hAc0 := hA.cell 0
 have hAf0 := hA.free 0
 have hAc1 := hA.cell 1
 have hAf1 := hA.free 1
 have hBc0 := hB.cell 0
 have hBf0 := hB.free 0
 have hBc1 := hB.cell 1
 have hBf1 := hB.free 1
 go_wp2_with fail
 refine (HDM.out _).mono ?_
 rintro e w2 ⟨rfl, hb2⟩
 clear hAc0 hAf0 hAc1 hAf1
 clear hBc0 hBf0 hBc1 hBf1
 replace hA := hA.after hb2
 replace hB := hB.after hb2
 replace hC := hC.after hb2
 replace hBW := bt hBW hb2
 clear hb2 hAl hBl
 have hAl := hA.lt
 have hBl := hB.lt
 have HMA2 : Hid (∀ w, Calls Tryz.prog 64 #[.bool (sg x), .string (E qn)] w fun e w' => e = .returned (.agg #[.bool (sg (qz)), .string (E (qz).natAbs)]) ∧ Below w.heap.size w w') := fun w => by
  have h := HMA.out w
  rwa [show (sg x != false) = sg x by cases sg x <;> rfl] at h
 have hAc0 := hA.cell 0
 have hAf0 := hA.free 0
 have hAc1 := hA.cell 1
 have hAf1 := hA.free 1
 have hBc0 := hB.cell 0
 have hBf0 := hB.free 0
 have hBc1 := hB.cell 1
 have hBf1 := hB.free 1
 go_wp2_with fail
 refine (by first | exact HMA2.out _ | exact HMA.out _ : Calls _ _ _ _ _).mono ?_
 rintro e w3 ⟨rfl, hb3⟩
 clear hAc0 hAf0 hAc1 hAf1
 clear hBc0 hBf0 hBc1 hBf1
 replace hC := hC.after hb3
 replace hBW := bt hBW hb3
 clear hb3
 have hCl := hC.lt
 have hCc0 := hC.cell 0
 have hCf0 := hC.free 0
 have hCc1 := hC.cell 1
 have hCf1 := hC.free 1
 go_wp2
 refine bodyPost_ret (v := .tuple #[.agg #[.bool (sg (qz)), .string (E (qz).natAbs)], .int .i64 0]) ?_ rfl ⟨rfl, ?_⟩
 ·simp [results, Tryz.results84, go_sem, hCc0, hCc1, hCl]
 ·exact (hBW.setCell (by first | (simp; omega) | simp) _).setCell (by first | (simp; omega) | simp) _

set_option maxHeartbeats 2000000 in
theorem iquot_no (x : Int) (c : Nat) (q : ByteArray) (w : World) (hx : x.natAbs < 256 ^ 128) (hc : c < 256 ^ 128) (h0 : 0 < c)
  (hdm : ∀ w, Calls Tryz.prog 131 #[.string (E x.natAbs), .string (E c)] w fun e w' => e = .returned (.tuple #[.string (E (x.natAbs / c)), .string (E (x.natAbs % c)), .int .i64 0]) ∧ Below w.heap.size w w') (hr : x.natAbs % c ≠ 0) :
  Calls Tryz.prog 43 #[.string q, .agg #[.bool (sg (x)), .string (E (x).natAbs)], .agg #[.bool false, .string (E c)]] w fun e w' => e = .returned (.tuple #[.agg #[.bool false, .string { data := #[] }], .bool false]) ∧ Below w.heap.size w w' := by
 have HD := Lib.hid (fun w => idivide_no x c w hx hc h0 hdm hr)
 clear hx hc h0 hdm hr
 have hA := blk3a w #[Value.bool (sg x), Value.string (E x.natAbs)] #[Value.bool false, Value.string (E c)] #[Value.bool false, Value.string { data := #[] }] 39 39 39
 have hB := blk3b w #[Value.bool (sg x), Value.string (E x.natAbs)] #[Value.bool false, Value.string (E c)] #[Value.bool false, Value.string { data := #[] }] 39 39 39
 have hC := blk3c w #[Value.bool (sg x), Value.string (E x.natAbs)] #[Value.bool false, Value.string (E c)] #[Value.bool false, Value.string { data := #[] }] 39 39 39
 have hBW := b3 w (.cells #[Value.bool (sg x), Value.string (E x.natAbs)] 39) (.cells #[Value.bool false, Value.string (E c)] 39) (.cells #[Value.bool false, Value.string { data := #[] }] 39)
 have hAc0 := hA.cell 0
 have hAf0 := hA.free 0
 have hAc1 := hA.cell 1
 have hAf1 := hA.free 1
 have hBc0 := hB.cell 0
 have hBf0 := hB.free 0
 have hBc1 := hB.cell 1
 have hBf1 := hB.free 1
 go_enter Tryz.func43, Tryz.ntmps43
 go_wp2_with fail
 refine (HD.out _).mono ?_
 rintro e w1 ⟨rfl, hb1⟩
 clear hAc0 hAf0 hAc1 hAf1
 clear hBc0 hBf0 hBc1 hBf1
 replace hC := hC.after hb1
 replace hBW := bt hBW hb1
 clear hb1
 have hCl := hC.lt
 have hCc0 := hC.cell 0
 have hCf0 := hC.free 0
 have hCc1 := hC.cell 1
 have hCf1 := hC.free 1
 go_wp2
 refine bodyPost_ret (v := .tuple #[.agg #[.bool false, .string { data := #[] }], .bool false]) ?_ rfl ⟨rfl, ?_⟩
 ·simp [results, Tryz.results43, go_sem, hCc0, hCc1, hCl]
 ·exact ba ((hBW.setCell (by first | (simp; omega) | simp) _).setCell (by first | (simp; omega) | simp) _) _

set_option maxHeartbeats 2000000 in
theorem iquot_yes (x : Int) (c : Nat) (q : ByteArray) (w : World) (hx : x.natAbs < 256 ^ 128) (hc : c < 256 ^ 128) (h0 : 0 < c)
  (hdm : ∀ w, Calls Tryz.prog 131 #[.string (E x.natAbs), .string (E c)] w fun e w' => e = .returned (.tuple #[.string (E (x.natAbs / c)), .string (E (x.natAbs % c)), .int .i64 0]) ∧ Below w.heap.size w w') (hr : x.natAbs % c = 0) :
  Calls Tryz.prog 43 #[.string q, .agg #[.bool (sg (x)), .string (E (x).natAbs)], .agg #[.bool false, .string (E c)]] w fun e w' => e = .returned (.tuple #[.agg #[.bool (sg (x / (c : Int))), .string (E (x / (c : Int)).natAbs)], .bool true]) ∧ Below w.heap.size w w' := by
 have HD := Lib.hid (fun w => idivide_yes x c w hx hc h0 hdm hr)
 generalize x / (c : Int) = qz at HD
 clear hx hc h0 hdm hr
 have hA := blk3a w #[Value.bool (sg x), Value.string (E x.natAbs)] #[Value.bool false, Value.string (E c)] #[Value.bool false, Value.string { data := #[] }] 39 39 39
 have hB := blk3b w #[Value.bool (sg x), Value.string (E x.natAbs)] #[Value.bool false, Value.string (E c)] #[Value.bool false, Value.string { data := #[] }] 39 39 39
 have hC := blk3c w #[Value.bool (sg x), Value.string (E x.natAbs)] #[Value.bool false, Value.string (E c)] #[Value.bool false, Value.string { data := #[] }] 39 39 39
 have hBW := b3 w (.cells #[Value.bool (sg x), Value.string (E x.natAbs)] 39) (.cells #[Value.bool false, Value.string (E c)] 39) (.cells #[Value.bool false, Value.string { data := #[] }] 39)
 have hAc0 := hA.cell 0
 have hAf0 := hA.free 0
 have hAc1 := hA.cell 1
 have hAf1 := hA.free 1
 have hBc0 := hB.cell 0
 have hBf0 := hB.free 0
 have hBc1 := hB.cell 1
 have hBf1 := hB.free 1
 go_enter Tryz.func43, Tryz.ntmps43
 go_wp2_with fail
 refine (HD.out _).mono ?_
 rintro e w1 ⟨rfl, hb1⟩
 clear hAc0 hAf0 hAc1 hAf1
 clear hBc0 hBf0 hBc1 hBf1
 replace hC := hC.after hb1
 replace hBW := bt hBW hb1
 clear hb1
 have hCl := hC.lt
 have hCc0 := hC.cell 0
 have hCf0 := hC.free 0
 have hCc1 := hC.cell 1
 have hCf1 := hC.free 1
 go_wp2
 refine bodyPost_ret (v := .tuple #[.agg #[.bool (sg (qz)), .string (E (qz).natAbs)], .bool true]) ?_ rfl ⟨rfl, ?_⟩
 ·simp [results, Tryz.results43, go_sem, hCc0, hCc1, hCl]
 ·exact ba ((hBW.setCell (by first | (simp; omega) | simp) _).setCell (by first | (simp; omega) | simp) _) _

set_option maxHeartbeats 2000000 in
theorem mquot_no (x : Int) (c q : Nat) (w : World) (hc : c < 256 ^ 8) (hq : q < 256 ^ 8) (h0 : 0 < q) (hg : Nat.gcd c q ≠ 1) :
  Calls Tryz.prog 42 #[.string (E q), .agg #[.bool (sg (x)), .string (E (x).natAbs)], .agg #[.bool false, .string (E c)]] w fun e w' => e = .returned (.tuple #[.agg #[.bool false, .string { data := #[] }], .bool false]) ∧ Below w.heap.size w w' := by
 have HD := Lib.hid (fun w => minv_none c q w hc hq h0 hg)
 clear hc hq h0 hg
 have hA := blk3a w #[Value.bool (sg x), Value.string (E x.natAbs)] #[Value.bool false, Value.string (E c)] #[Value.bool false, Value.string { data := #[] }] 39 39 39
 have hB := blk3b w #[Value.bool (sg x), Value.string (E x.natAbs)] #[Value.bool false, Value.string (E c)] #[Value.bool false, Value.string { data := #[] }] 39 39 39
 have hC := blk3c w #[Value.bool (sg x), Value.string (E x.natAbs)] #[Value.bool false, Value.string (E c)] #[Value.bool false, Value.string { data := #[] }] 39 39 39
 have hBW := b3 w (.cells #[Value.bool (sg x), Value.string (E x.natAbs)] 39) (.cells #[Value.bool false, Value.string (E c)] 39) (.cells #[Value.bool false, Value.string { data := #[] }] 39)
 have hAc0 := hA.cell 0
 have hAf0 := hA.free 0
 have hAc1 := hA.cell 1
 have hAf1 := hA.free 1
 have hBc0 := hB.cell 0
 have hBf0 := hB.free 0
 have hBc1 := hB.cell 1
 have hBf1 := hB.free 1
 go_enter Tryz.func42, Tryz.ntmps42
 go_wp2_with fail
 refine (HD.out _).mono ?_
 rintro e w1 ⟨rfl, hb1⟩
 clear hAc0 hAf0 hAc1 hAf1
 clear hBc0 hBf0 hBc1 hBf1
 replace hC := hC.after hb1
 replace hBW := bt hBW hb1
 clear hb1
 have hCl := hC.lt
 have hCc0 := hC.cell 0
 have hCf0 := hC.free 0
 have hCc1 := hC.cell 1
 have hCf1 := hC.free 1
 go_wp2
 refine bodyPost_ret (v := .tuple #[.agg #[.bool false, .string { data := #[] }], .bool false]) ?_ rfl ⟨rfl, ?_⟩
 ·simp [results, Tryz.results42, go_sem, hCc0, hCc1, hCl]
 ·exact (hBW.setCell (by first | (simp; omega) | simp) _).setCell (by first | (simp; omega) | simp) _

/-- the quotient modulo the order -/
def mquo (q : Nat) (x : Int) (c : Nat) : Nat := x.natAbs * invN (c % q) q % q

set_option maxHeartbeats 2000000 in
theorem mquot_yes (x : Int) (c q : Nat) (w : World) (hx : x.natAbs < 256 ^ 8) (hc : c < 256 ^ 8) (hq : q < 256 ^ 8) (h0 : 0 < q) (hg : Nat.gcd c q = 1) :
  Calls Tryz.prog 42 #[.string (E q), .agg #[.bool (sg (x)), .string (E (x).natAbs)], .agg #[.bool false, .string (E c)]] w fun e w' => e = .returned (.tuple #[.agg #[.bool false, .string (E (mquo q x c))], .bool true]) ∧ Below w.heap.size w w' := by
 have HD := Lib.hid (fun w => minv_c c q w hc hq h0 hg)
 have HM : Hid (∀ w, Calls Tryz.prog 83 #[.string (E x.natAbs), .string (E (invN (c % q) q)), .string (E q)] w fun e w' => e = .returned (.tuple #[.string (E (mquo q x c)), .int .i64 0]) ∧ Below w.heap.size w w') := fun w =>
  mmulV_c _ _ _ _ w hx (Nat.lt_trans (invN_lt _ q h0) hq) hq h0 rfl
 generalize mquo q x c = mq at HM
 generalize invN (c % q) q = iv at HM HD
 clear hx hc hq h0 hg
 have hA := blk3a w #[Value.bool (sg x), Value.string (E x.natAbs)] #[Value.bool false, Value.string (E c)] #[Value.bool false, Value.string { data := #[] }] 39 39 39
 have hB := blk3b w #[Value.bool (sg x), Value.string (E x.natAbs)] #[Value.bool false, Value.string (E c)] #[Value.bool false, Value.string { data := #[] }] 39 39 39
 have hC := blk3c w #[Value.bool (sg x), Value.string (E x.natAbs)] #[Value.bool false, Value.string (E c)] #[Value.bool false, Value.string { data := #[] }] 39 39 39
 have hBW := b3 w (.cells #[Value.bool (sg x), Value.string (E x.natAbs)] 39) (.cells #[Value.bool false, Value.string (E c)] 39) (.cells #[Value.bool false, Value.string { data := #[] }] 39)
 have hAc0 := hA.cell 0
 have hAf0 := hA.free 0
 have hAc1 := hA.cell 1
 have hAf1 := hA.free 1
 have hBc0 := hB.cell 0
 have hBf0 := hB.free 0
 have hBc1 := hB.cell 1
 have hBf1 := hB.free 1
 go_enter Tryz.func42, Tryz.ntmps42
 go_wp2_with fail
 refine (HD.out _).mono ?_
 rintro e w1 ⟨rfl, hb1⟩
 clear hAc0 hAf0 hAc1 hAf1
 clear hBc0 hBf0 hBc1 hBf1
 replace hA := hA.after hb1
 replace hC := hC.after hb1
 replace hBW := bt hBW hb1
 clear hb1
 have hAl := hA.lt
 have hAc0 := hA.cell 0
 have hAf0 := hA.free 0
 have hAc1 := hA.cell 1
 have hAf1 := hA.free 1
 go_wp2_with fail
 refine (HM.out _).mono ?_
 rintro e w2 ⟨rfl, hb2⟩
 clear hAc0 hAf0 hAc1 hAf1
 replace hC := hC.after hb2
 replace hBW := bt hBW hb2
 clear hb2
 have hCl := hC.lt
 have hCc0 := hC.cell 0
 have hCf0 := hC.free 0
 have hCc1 := hC.cell 1
 have hCf1 := hC.free 1
 go_wp2
 refine bodyPost_ret (v := .tuple #[.agg #[.bool false, .string (E mq)], .bool true]) ?_ rfl ⟨rfl, ?_⟩
 ·simp [results, Tryz.results42, go_sem, hCc0, hCc1, hCl]
 ·exact (hBW.setCell (by first | (simp; omega) | simp) _).setCell (by first | (simp; omega) | simp) _

end Go.Proofs.YtbcgimgkcdpjcaaGreat
end

section
namespace Go.Proofs.YtbcgimgkcdpjcaaGreat
open Go.RowKit Go.Shelf

def QBox (w : World) (u1 u2 : Value) (ok : Bool) (s17 s18 : Value) (wx : World) : Prop := ∃ g, s17 = .pointer (some ⟨g, 0, none⟩) ∧ s18 = .bool ok ∧ Blk wx g 39 [u1, u2] ∧ w.heap.size ≤ g ∧ Below w.heap.size w wx

/-- the quotient of a variable; whether all exist; all of them; the witness -/
def quoO (q vb : Nat) (x : Int) (c : Nat) : Option Int := if vb = 0 then (if Nat.gcd c q = 1 then some (mquo q x c : Int) else none) else if x.natAbs % c = 0 then some (x / (c : Int)) else none
def quoJ (N : NSta) (L : List Int) (c j : Nat) : Option Int := quoO N.ord (N.vars.getD j 0) (L.getD j 0) c
def quoL (N : NSta) (L : List Int) (c : Nat) : List Int := (List.range N.vars.length).map fun j => (quoJ N L c j).getD 0
def NSta.ext (N : NSta) (L : List Int) (c : Nat) : Option (List Int) := if ra N.vars.length (fun j => (quoJ N L c j).isSome) = false then none else if N.imgs (quoL N L c) = N.eqs.map (·.tgt) then some (quoL N L c) else none

theorem quoJ_at (N : NSta) (L : List Int) (c j : Nat) (h : j < N.vars.length) (h2 : j < L.length) : quoJ N L c j = quoO N.ord N.vars[j] L[j] c := by
 unfold quoJ; simp only [List.getD_eq_getElem?_getD, List.getElem?_eq_getElem h, List.getElem?_eq_getElem h2, Option.getD_some]
theorem quoL_step (N : NSta) (L : List Int) (c k : Nat) (h : k < N.vars.length) : (quoL N L c).take (k + 1) = (quoL N L c).take k ++ [(quoJ N L c k).getD 0] := by
 unfold quoL
 rw [← List.map_take, List.take_succ_eq_append_getElem (by simpa using h), List.map_append, List.map_take]
 simp
theorem ext_bad {N : NSta} {L : List Int} {c k : Nat} (h : k < N.vars.length) (hn : quoJ N L c k = none) : N.ext L c = none := by
 unfold NSta.ext; rw [if_pos (ra_false h (by rw [hn]; rfl))]
theorem ext_ne {N : NSta} {L : List Int} {c : Nat} (h : N.imgs (quoL N L c) ≠ N.eqs.map (·.tgt)) : N.ext L c = none := by
 unfold NSta.ext; rw [if_neg h]; simp
theorem ext_some {N : NSta} {L : List Int} {c : Nat} (h1 : ∀ j, j < N.vars.length → (quoJ N L c j).isSome = true) (h : N.imgs (quoL N L c) = N.eqs.map (·.tgt)) : N.ext L c = some (quoL N L c) := by
 unfold NSta.ext; rw [if_neg (by rw [ra_true h1]; simp), if_pos h]

/-- what Extract returns -/
def XPost (w : World) (r : Option (List Int)) (e : Ending) (w' : World) : Prop :=
 match r with
 | none => e = .returned (.tuple #[.slice none 0 0, .int .i64 17]) ∧ Below w.heap.size w w'
 | some L => ∃ v, e = .returned (.tuple #[v, .int .i64 0]) ∧ ZOwn w' w.heap.size v L ∧ Below w.heap.size w w'

/-- what is needed of the differences -/
structure QuoOk (N : NSta) (L : List Int) (c : Nat) : Prop where
 len : L.length = N.vars.length
 sz : ∀ x ∈ L, x.natAbs < 256 ^ 64
 c0 : 0 < c
 c8 : c < 256 ^ 8
 md : ∀ (k : Nat) (h : k < N.vars.length) (h2 : k < L.length), N.vars[k] = 0 → 0 < N.ord ∧ L[k].natAbs < 256 ^ 8
 dm : ∀ (k : Nat) (h : k < N.vars.length) (h2 : k < L.length), N.vars[k] ≠ 0 → ∀ w, Calls Tryz.prog 131 #[.string (E L[k].natAbs), .string (E c)] w fun e w' => e = .returned (.tuple #[.string (E (L[k].natAbs / c)), .string (E (L[k].natAbs % c)), .int .i64 0]) ∧ Below w.heap.size w w'

theorem quo_lt {N : NSta} {L : List Int} {c : Nat} (hm : NOk N) (h : QuoOk N L c) : ∀ z ∈ quoL N L c, z.natAbs < 256 ^ 64 := by
 intro z hz
 obtain ⟨j, hj, rfl⟩ := List.mem_map.1 hz
 have hjl : j < N.vars.length := List.mem_range.1 hj
 have hj2 : j < L.length := by rw [h.len]; exact hjl
 rw [quoJ_at N L c j hjl hj2]
 unfold quoO
 split
 ·rename_i h0
  split
  ·rw [Option.getD_some, Int.natAbs_natCast]
   exact Nat.lt_of_lt_of_le (Nat.lt_trans (Nat.mod_lt _ (h.md j hjl hj2 h0).1) (ord_lt hm)) (by decide)
  ·exact Nat.pow_pos (by decide)
 ·split
  ·rw [Option.getD_some]
   exact Nat.lt_of_le_of_lt (Int.natAbs_ediv_le_natAbs _ _) (h.sz _ (List.getElem_mem hj2))
  ·exact Nat.pow_pos (by decide)

set_option maxHeartbeats 2000000 in
theorem extract_err (C K cha chb : ByteArray) (s1 s2 s3 xa ya xb yb : Option Addr) (m1 m2 m3 d1 d2 d3 na pa ma qa nb pb mb qb : Nat) (k : Nat) (w : World) (hk : k ≠ 0)
  (hd : ∀ w', Below w.heap.size w w' → Calls Tryz.prog 10 #[.agg #[.string C, .string K], .agg #[.slice s1 m1 d1, .slice s2 m2 d2, .slice s3 m3 d3], .agg #[.slice xa na pa, .string cha, .slice ya ma qa], .agg #[.slice xb nb pb, .string chb, .slice yb mb qb]] w' fun e w'' => e = .returned (.tuple #[.agg #[.bool false, .string { data := #[] }], .slice none 0 0, .int .i64 k]) ∧ Below w'.heap.size w' w'') :
  Calls Tryz.prog 13 #[.agg #[.string C, .string K], .agg #[.slice s1 m1 d1, .slice s2 m2 d2, .slice s3 m3 d3], .agg #[.slice xa na pa, .string cha, .slice ya ma qa], .agg #[.slice xb nb pb, .string chb, .slice yb mb qb]] w fun e w' => e = .returned (.tuple #[.slice none 0 0, .int .i64 k]) ∧ Below w.heap.size w w' := by
 have HD := Lib.hid hd
 have hkb : ((k : Int) != 0) = true := by rw [bne_iff_ne]; omega
 have hR := (((Blk.new w #[.string C, .string K] 24).alloc (.cells #[.slice s1 m1 d1, .slice s2 m2 d2, .slice s3 m3 d3] 29)).alloc (.cells #[.slice xa na pa, .string cha, .slice ya ma qa] 33)).alloc (.cells #[.slice xb nb pb, .string chb, .slice yb mb qb] 33)
 have hP := ((blkN (w := w.alloc (.cells #[.string C, .string K] 24)) (cs := #[.slice s1 m1 d1, .slice s2 m2 d2, .slice s3 m3 d3]) (T := 29) (g := w.heap.size + 1) (by simp)).alloc (.cells #[.slice xa na pa, .string cha, .slice ya ma qa] 33)).alloc (.cells #[.slice xb nb pb, .string chb, .slice yb mb qb] 33)
 have hA := (blkN (w := (w.alloc (.cells #[.string C, .string K] 24)).alloc (.cells #[.slice s1 m1 d1, .slice s2 m2 d2, .slice s3 m3 d3] 29)) (cs := #[.slice xa na pa, .string cha, .slice ya ma qa]) (T := 33) (g := w.heap.size + 1 + 1) (by simp)).alloc (.cells #[.slice xb nb pb, .string chb, .slice yb mb qb] 33)
 have hB := blkN (w := ((w.alloc (.cells #[.string C, .string K] 24)).alloc (.cells #[.slice s1 m1 d1, .slice s2 m2 d2, .slice s3 m3 d3] 29)).alloc (.cells #[.slice xa na pa, .string cha, .slice ya ma qa] 33)) (cs := #[.slice xb nb pb, .string chb, .slice yb mb qb]) (T := 33) (g := w.heap.size + 1 + 1 + 1) (by simp)
 have hBW := ba (b3 w (.cells #[.string C, .string K] 24) (.cells #[.slice s1 m1 d1, .slice s2 m2 d2, .slice s3 m3 d3] 29) (.cells #[.slice xa na pa, .string cha, .slice ya ma qa] 33)) (.cells #[.slice xb nb pb, .string chb, .slice yb mb qb] 33)
 clear hd hk
 have hRc0 := hR.cell 0
 have hRf0 := hR.free 0
 have hRc1 := hR.cell 1
 have hRf1 := hR.free 1
 have hPc0 := hP.cell 0
 have hPf0 := hP.free 0
 have hPc1 := hP.cell 1
 have hPf1 := hP.free 1
 have hPc2 := hP.cell 2
 have hPf2 := hP.free 2
 have hAc0 := hA.cell 0
 have hAf0 := hA.free 0
 have hAc1 := hA.cell 1
 have hAf1 := hA.free 1
 have hAc2 := hA.cell 2
 have hAf2 := hA.free 2
 have hBc0 := hB.cell 0
 have hBf0 := hB.free 0
 have hBc1 := hB.cell 1
 have hBf1 := hB.free 1
 have hBc2 := hB.cell 2
 have hBf2 := hB.free 2
 go_enter Tryz.func13, Tryz.ntmps13
 go_wp2_with fail
 refine (HD.out _ hBW).mono ?_
 rintro e w2 ⟨rfl, hb2⟩
 go_wp2
 go_ret2
 exact ⟨rfl, ba (bt hBW hb2) _⟩

set_option maxHeartbeats 8000000 in
theorem extract_c (N : NSta) (L : List Int) (c : Nat) (C K cha chb : ByteArray) (s1 s2 s3 xa ya xb yb : Option Addr) (m1 m2 m3 d1 d2 d3 na pa ma qa nb pb mb qb : Nat) (w : World)
  (hm : NOk N) (hS : NAt w (.slice s1 m1 d1) (.slice s2 m2 d2) (.slice s3 m3 d3) N) (hc : N.chk = 0) (hq : QuoOk N L c)
  (hd : ∀ w', Below w.heap.size w w' → Calls Tryz.prog 10 #[.agg #[.string C, .string K], .agg #[.slice s1 m1 d1, .slice s2 m2 d2, .slice s3 m3 d3], .agg #[.slice xa na pa, .string cha, .slice ya ma qa], .agg #[.slice xb nb pb, .string chb, .slice yb mb qb]] w' (DPost w' c L)) :
  Calls Tryz.prog 13 #[.agg #[.string C, .string K], .agg #[.slice s1 m1 d1, .slice s2 m2 d2, .slice s3 m3 d3], .agg #[.slice xa na pa, .string cha, .slice ya ma qa], .agg #[.slice xb nb pb, .string chb, .slice yb mb qb]] w (XPost w (N.ext L c)) := by
 obtain ⟨i1, hi1, hz10, hz11, hz12⟩ := info_parts info_Int
 have HI1 := Lib.hid hi1
 have HA1 := Lib.hid hz10
 have HB1 := Lib.hid hz11
 have HC1 := Lib.hid hz12
 clear hi1 hz10 hz11 hz12
 have HD := Lib.hid hd
 have HM := Lib.hid hm
 have HS0 := Lib.hid hS
 have HCK := Lib.hid hc
 have HQ := Lib.hid hq
 have HN2 : Hid (m2 = N.vars.length) := by have h := RAt.len hS.v; rw [Hid, h]; simp [NSta.s]
 have HN3 : Hid (m3 = N.eqs.length) := by have h := RAt.len hS.e; rw [Hid, h]; simp [NSta.s]
 have l2 : m2 ≤ 6 := by rw [HN2.out]; exact hm.nv
 have l3 : m3 ≤ 6 := by rw [HN3.out]; exact hm.ne
 have hR := (((Blk.new w #[.string C, .string K] 24).alloc (.cells #[.slice s1 m1 d1, .slice s2 m2 d2, .slice s3 m3 d3] 29)).alloc (.cells #[.slice xa na pa, .string cha, .slice ya ma qa] 33)).alloc (.cells #[.slice xb nb pb, .string chb, .slice yb mb qb] 33)
 have hP := ((blkN (w := w.alloc (.cells #[.string C, .string K] 24)) (cs := #[.slice s1 m1 d1, .slice s2 m2 d2, .slice s3 m3 d3]) (T := 29) (g := w.heap.size + 1) (by simp)).alloc (.cells #[.slice xa na pa, .string cha, .slice ya ma qa] 33)).alloc (.cells #[.slice xb nb pb, .string chb, .slice yb mb qb] 33)
 have hA := (blkN (w := (w.alloc (.cells #[.string C, .string K] 24)).alloc (.cells #[.slice s1 m1 d1, .slice s2 m2 d2, .slice s3 m3 d3] 29)) (cs := #[.slice xa na pa, .string cha, .slice ya ma qa]) (T := 33) (g := w.heap.size + 1 + 1) (by simp)).alloc (.cells #[.slice xb nb pb, .string chb, .slice yb mb qb] 33)
 have hB := blkN (w := ((w.alloc (.cells #[.string C, .string K] 24)).alloc (.cells #[.slice s1 m1 d1, .slice s2 m2 d2, .slice s3 m3 d3] 29)).alloc (.cells #[.slice xa na pa, .string cha, .slice ya ma qa] 33)) (cs := #[.slice xb nb pb, .string chb, .slice yb mb qb]) (T := 33) (g := w.heap.size + 1 + 1 + 1) (by simp)
 have hBW := ba (b3 w (.cells #[.string C, .string K] 24) (.cells #[.slice s1 m1 d1, .slice s2 m2 d2, .slice s3 m3 d3] 29) (.cells #[.slice xa na pa, .string cha, .slice ya ma qa] 33)) (.cells #[.slice xb nb pb, .string chb, .slice yb mb qb] 33)
 clear hd hm hS hc hq
 have hRc0 := hR.cell 0
 have hRf0 := hR.free 0
 have hRc1 := hR.cell 1
 have hRf1 := hR.free 1
 have hPc0 := hP.cell 0
 have hPf0 := hP.free 0
 have hPc1 := hP.cell 1
 have hPf1 := hP.free 1
 have hPc2 := hP.cell 2
 have hPf2 := hP.free 2
 have hAc0 := hA.cell 0
 have hAf0 := hA.free 0
 have hAc1 := hA.cell 1
 have hAf1 := hA.free 1
 have hAc2 := hA.cell 2
 have hAf2 := hA.free 2
 have hBc0 := hB.cell 0
 have hBf0 := hB.free 0
 have hBc1 := hB.cell 1
 have hBf1 := hB.free 1
 have hBc2 := hB.cell 2
 have hBf2 := hB.free 2
 go_enter Tryz.func13, Tryz.ntmps13
 go_wp2_with fail
 refine (HD.out _ hBW).mono ?_
 rintro e w2 ⟨lv, rfl, hLO, hb2⟩
 clear hRc0 hRf0 hRc1 hRf1
 clear hPc0 hPf0 hPc1 hPf1 hPc2 hPf2
 clear hAc0 hAf0 hAc1 hAf1 hAc2 hAf2
 clear hBc0 hBf0 hBc1 hBf1 hBc2 hBf2
 replace hP := hP.after hb2
 replace hBW := bt hBW hb2
 clear hb2 hR hA hB
 have hLz := hLO.zs
 clear hLO
 obtain ⟨a4, c4, rfl⟩ := hLz.form
 have HLL : Hid (L.length = m2) := by rw [Hid, HQ.out.len, HN2.out]
 rw [HLL.out] at hLz ⊢
 have hPl := hP.lt
 have hPn : w.heap.size ≠ w2.heap.size := by omega
 have hPd := (hP.alloc (.cells #[.bool false, .string (E c)] 39)).alloc (.cells #[.func (.func 42) #[] #[], .func (.func 43) #[] #[]] 89)
 have hPdl := hPd.lt
 have hPdc0 := hPd.cell 0
 have hPdf0 := hPd.free 0
 have hPdc1 := hPd.cell 1
 have hPdf1 := hPd.free 1
 have hPdc2 := hPd.cell 2
 have hPdf2 := hPd.free 2
 go_wp2_with fail
 clear hPdc0 hPdf0 hPdc1 hPdf1 hPdc2 hPdf2
 clear hPl hPn hPd hPdl
 have hD := (Blk.new w2 #[.bool false, .string (E c)] 39).alloc (.cells #[.func (.func 42) #[] #[], .func (.func 43) #[] #[]] 89)
 have hFn := blkN (w := w2.alloc (.cells #[.bool false, .string (E c)] 39)) (cs := #[.func (.func 42) #[] #[], .func (.func 43) #[] #[]]) (T := 89) (g := w2.heap.size + 1) (by simp)
 have hbD0 := b2 w2 (.cells #[.bool false, .string (E c)] 39) (.cells #[.func (.func 42) #[] #[], .func (.func 43) #[] #[]] 89)
 replace hP := hP.after hbD0
 replace hBW := bt hBW hbD0
 replace hLz := hLz.after hbD0
 clear hbD0
 generalize (w2.alloc (.cells #[.bool false, .string (E c)] 39)).alloc (.cells #[.func (.func 42) #[] #[], .func (.func 43) #[] #[]] 89) = wF at hFn hP hD hLz hBW ⊢
 obtain ⟨g10, hg10⟩ : ∃ g, w2.heap.size = g := ⟨_, rfl⟩
 rw [hg10] at hD hFn ⊢
 clear hg10
 replace hD : Blk wF g10 39 [.bool false, .string (E c)] := hD
 replace hFn : Blk wF (g10 + 1) 89 [.func (.func 42) #[] #[], .func (.func 43) #[] #[]] := hFn
 go_loopw [14, 38] (fun v14 i wr => ∃ k : Nat, k ≤ m2 ∧ i = .int .i64 k ∧ ZOwn wr wF.heap.size v14 ((quoL N L c).take k) ∧ Hid (∀ j, j < k → (quoJ N L c j).isSome = true) ∧ Below wF.heap.size wF wr) (fun _ i _ => m2 - (intOf i).toNat)
 case atStart => exact ⟨0, by omega, rfl, World.ownsRow_nil _ _ _ _, fun j h => absurd h (Nat.not_lt_zero _), Below.refl _ _⟩
 case round =>
  obtain ⟨k, hk, rfl, hO, HA, hbr⟩ := hrel
  obtain ⟨wq, hwq⟩ : ∃ wq, wq = wr := ⟨_, rfl⟩
  subst hwq
  have hBW1 := bt hBW hbr
  by_cases hlt : k < m2
  ·have hkl : k < N.vars.length := by rw [← HN2.out]; exact hlt
   have hkx : k < L.length := by rw [HLL.out]; exact hlt
   have HST := Lib.hid (quoL_step N L c k hkl)
   have HQJ := Lib.hid (quoJ_at N L c k hkl hkx)
   have HMD := Lib.hid (HQ.out.md k hkl hkx)
   have HDMX := Lib.hid (HQ.out.dm k hkl hkx)
   have HZX := Lib.hid (HQ.out.sz _ (List.getElem_mem hkx))
   have hS1 := HS0.out.after hBW1
   obtain ⟨b0, o0, rfl, hbl, vx1⟩ := NAt.vat hS1 hkl
   obtain ⟨bx, ox, rfl, hbx, x1⟩ := (hLz.after hbr).at_ hkx
   obtain ⟨x1, x2⟩ := x1
   generalize (N.vars[k]'hkl) = vb at vx1 HQJ HMD HDMX
   generalize (L[k]'hkx) = zx at x1 x2 HQJ HMD HZX HDMX
   have h0k : (0 : Int) ≤ (k : Int) := by omega
   have h1k : (k : Int) < (m2 : Int) := by omega
   have h16 := Blk.new wq #[.string (E vb)] 67
   have hb19 := b1 wq (.cells #[.string (E vb)] 67)
   have hO1 := own_after hO hb19
   have hFn1 := (hFn.after hbr).after hb19
   have hP1 := (hP.after hbr).after hb19
   have hD1 := (hD.after hbr).after hb19
   have hbr1 := bt hbr hb19
   have hBW2 := bt hBW1 hb19
   replace x1 := (hb19.cell (p := ⟨bx, ox + k * 2, none⟩) hbx).trans x1
   replace x2 := (hb19.cell (p := ⟨bx, ox + k * 2 + 1, none⟩) hbx).trans x2
   replace hbx := Nat.lt_of_lt_of_le hbx hb19.size
   have hLE : Hid (((quoL N L c).take k).length = k) := by rw [Hid, List.length_take, quoL, List.length_map, List.length_range]; omega
   clear hO hS1
   go_wp2_with fail
   clear vx1 hbl
   generalize wq.alloc (.cells #[.string (E vb)] 67) = wA at h16 hO1 hFn1 hP1 hD1 hbr1 hBW2 x1 x2 hbx
   obtain ⟨g16, hg16⟩ : ∃ g, wq.heap.size = g := ⟨_, rfl⟩
   rw [hg16] at h16 ⊢
   clear hg16 hb19
   replace h16 : Blk wA g16 67 [.string (E vb)] := h16
   have HORD : Hid (∀ w', Below wA.heap.size wA w' → Calls Tryz.prog 34 #[.agg #[.slice s1 m1 d1, .slice (some ⟨b0, o0, none⟩) m2 d2, .slice s3 m3 d3]] w' fun e w'' => e = .returned (.string (E N.ord)) ∧ Below w'.heap.size w' w'') := fun w' hb' => eorder_c N _ _ _ w' HM.out (HS0.out.after (bt hBW2 hb'))
   by_cases hv0 : vb = 0
   ·have HKD : Hid (∀ w, Calls Tryz.prog 33 #[.agg #[.string (E vb)]] w fun e w' => e = .returned (.int .i64 0) ∧ Below w.heap.size w w') := fun w => ekindV_c vb 0 w (if_pos hv0)
    by_cases hg : Nat.gcd c N.ord = 1
    ·obtain ⟨dz, hdz⟩ : ∃ z : Int, z = (mquo N.ord zx c : Nat) := ⟨_, rfl⟩
     have HQN : Hid (quoJ N L c k = some dz) := by rw [Hid, HQJ.out, quoO, if_pos hv0, if_pos hg, hdz]
     have HDY : Hid (∀ w, Calls Tryz.prog 42 #[.string (E N.ord), .agg #[.bool (sg (zx)), .string (E (zx).natAbs)], .agg #[.bool false, .string (E c)]] w fun e w' => e = .returned (.tuple #[.agg #[.bool (sg (dz)), .string (E (dz).natAbs)], .bool true]) ∧ Below w.heap.size w w') := fun w => by
      have h := mquot_yes zx c N.ord w (HMD.out hv0).2 HQ.out.c8 (ord_lt HM.out) (HMD.out hv0).1 hg
      rw [hdz, sg_nat, Int.natAbs_natCast]; exact h
     clear hv0 hg hdz
     obtain ⟨cl, hcl⟩ : ∃ l : List (Addr × Value), l = [(⟨g16, 0, none⟩, .string (E vb)), (⟨g10 + 1, 0, none⟩, .func (.func 42) #[] #[]), (⟨g10 + 1, 1, none⟩, .func (.func 43) #[] #[]), (⟨w.heap.size + 1, 0, none⟩, .slice s1 m1 d1), (⟨w.heap.size + 1, 1, none⟩, .slice (some ⟨b0, o0, none⟩) m2 d2), (⟨w.heap.size + 1, 2, none⟩, .slice s3 m3 d3), (⟨bx, ox + k * 2, none⟩, .bool (sg zx)), (⟨bx, ox + k * 2 + 1, none⟩, .string (E zx.natAbs)), (⟨g10, 0, none⟩, .bool false), (⟨g10, 1, none⟩, .string (E c))] := ⟨_, rfl⟩
     have HCL := Lib.hid hcl
     clear hcl
     have hC : CA wA cl := by
      rw [HCL.out]
      exact CA.cons h16.lt (h16.cell 0) (CA.cons hFn1.lt (hFn1.cell 0) (CA.cons hFn1.lt (hFn1.cell 1) (CA.cons hP1.lt (hP1.cell 0) (CA.cons hP1.lt (hP1.cell 1) (CA.cons hP1.lt (hP1.cell 2) (CA.cons hbx x1 (CA.cons hbx x2 (CA.cons hD1.lt (hD1.cell 0) (CA.cons hD1.lt (hD1.cell 1) (CA.nil _))))))))))
     have hneA := fun x hx => Nat.ne_of_lt (hC x hx).1
     clear h16 hFn1 hP1 hD1 x1 x2 hbx
     go_upto_region 9 with fail
     go_cut [17, 18] (fun s17 s18 wx => QBox wA (.bool (sg dz)) (.string (E dz.natAbs)) true s17 s18 wx)
     case first =>
      go_region_held3 (fun w' => w'.cell? ⟨g16, 0, none⟩ = some (.string (E vb)) ∧ w'.cell? ⟨g10 + 1, 0, none⟩ = some (.func (.func 42) #[] #[]) ∧ w'.cell? ⟨g10 + 1, 1, none⟩ = some (.func (.func 43) #[] #[]) ∧ w'.cell? ⟨w.heap.size + 1, 0, none⟩ = some (.slice s1 m1 d1) ∧ w'.cell? ⟨w.heap.size + 1, 1, none⟩ = some (.slice (some ⟨b0, o0, none⟩) m2 d2) ∧ w'.cell? ⟨w.heap.size + 1, 2, none⟩ = some (.slice s3 m3 d3) ∧ w'.cell? ⟨bx, ox + k * 2, none⟩ = some (.bool (sg zx)) ∧ w'.cell? ⟨bx, ox + k * 2 + 1, none⟩ = some (.string (E zx.natAbs)) ∧ w'.cell? ⟨g10, 0, none⟩ = some (.bool false) ∧ w'.cell? ⟨g10, 1, none⟩ = some (.string (E c))) ((refine CA.k10 ?_; rw [← HCL.out]; repeat (first | (with_reducible exact hCd) | (with_reducible exact hCo) | (with_reducible exact hCf) | (with_reducible exact hC) | (with_reducible refine CA.drew ?_) | (with_reducible refine CA.alloc ?_ _) | (refine CA.set ?_ _ _ _ hneA) | (refine CA.set ?_ _ _ _ (fun x hx => Nat.ne_of_lt (hCf x hx).1)) | (refine CA.set ?_ _ _ _ (fun x hx => Nat.ne_of_lt (hCo x hx).1)))))
       (first | (go_at_call 33; refine (HKD.out _).mono ?_; rintro e wf ⟨rfl, hbf⟩; have hCf : CA wf cl := (by first | exact hC.drew.after hbf | exact (hC.alloc _).drew.after hbf | exact (hC.drew.alloc _).after hbf); (try (have hbF : Below wA.heap.size wA wf := (Below.drew (Below.refl _ _)).trans hbf)); (try (have hbF : Below wA.heap.size wA wf := bt ((b1 wA _).drew) hbf)); (try (have kA := (Blk.new wA #[.bool false, .string { data := #[] }] 39).drew.after hbf))) | (go_at_call 34; refine (HORD.out _ (by first | exact hbF | exact ba hbF _)).mono ?_; rintro e wo ⟨rfl, hbo⟩; have hCo : CA wo cl := (by first | exact hCf.after hbo | exact (hCf.alloc _).after hbo); (try (have hbO : Below wA.heap.size wA wo := bt hbF hbo)); (try (have hbO : Below wA.heap.size wA wo := bt (ba hbF _) hbo)); (try (have kAo := kA.after hbo)); (try (have kB := (Blk.new wf #[.bool false, .string { data := #[] }] 39).after hbo))) | (go_at_call 42; refine (HDY.out _).mono ?_; rintro e wd ⟨rfl, hbd⟩; have hCd : CA wd cl := (by first | exact hCo.after hbd | exact (hCo.alloc _).after hbd); (try (have hbD : Below wA.heap.size wA wd := bt hbO hbd)); (try (have hbD : Below wA.heap.size wA wd := bt (ba hbO _) hbd)); (try (have kD := kAo.after hbd; have kd0 := kD.cell 0; have kd1 := kD.cell 1; have kd2 := kD.free 0; have kd3 := kD.free 1; have kdl := kD.lt)); (try (have kE := kB.after hbd; have ke0 := kE.cell 0; have ke1 := kE.cell 1; have ke2 := kE.free 0; have ke3 := kE.free 1; have kel := kE.lt)); (try (have kF := (Blk.new wo #[.bool false, .string { data := #[] }] 39).after hbd; have kf0 := kF.cell 0; have kf1 := kF.cell 1; have kf2 := kF.free 0; have kf3 := kF.free 1; have kfl := kF.lt))))
      all_goals
       go_wp2_with fail
       go_meet
       first
        | exact ⟨_, rfl, rfl, Blk.new _ _ _, hbD.size, ba hbD _⟩
        | exact ⟨_, rfl, rfl, (kD.set 0 _).set 1 _, Nat.le_refl _, (hbD.setCell (by simp) _).setCell (by simp) _⟩
        | exact ⟨_, rfl, rfl, (kE.set 0 _).set 1 _, hbF.size, (hbD.setCell (by have := hbF.size; simp; omega) _).setCell (by have := hbF.size; simp; omega) _⟩
        | exact ⟨_, rfl, rfl, (kF.set 0 _).set 1 _, hbO.size, (hbD.setCell (by have := hbO.size; simp; omega) _).setCell (by have := hbO.size; simp; omega) _⟩
     case rest =>
      obtain ⟨g17, rfl, rfl, h17, hg17, hbz⟩ := hcut
      obtain ⟨wy, hwy⟩ : ∃ wy, wy = wc := ⟨_, rfl⟩
      subst hwy
      clear hC hneA
      have hO2 := own_after hO1 hbz
      have hbr2 := bt hbr1 hbz
      have h17l := h17.lt
      rw [hLE.out] at hO2
      clear hbz hO1
      have hszy := hbr2.size
      have HX : Hid (∀ j, j < k + 1 → (quoJ N L c j).isSome = true) := fun j hj => by
       by_cases e : j = k
       ·rw [e, HQN.out]; rfl
       ·exact HA.out j (by omega)
      rw [show (quoJ N L c k).getD 0 = dz by rw [HQN.out]; rfl] at HST
      generalize (quoL N L c).take k = LI at hO2 HST hLE
      have h17c0 := h17.cell 0
      have h17f0 := h17.free 0
      have h17c1 := h17.cell 1
      have h17f1 := h17.free 1
      go_wp2_with (at_builtin; refine wpList_append_lies _ rfl (.tmp 60) (.tmp 62) _ rfl wF.heap.size 39 i1 _ 2 24 Tryz.underlying31 HI1.out HA1.out HB1.out HC1.out rfl (by omega) u14 k (ics (LI.map zI)) rfl (own_after hO2 (b1 _ (.cells #[.bool (sg dz), .string (E dz.natAbs)] 39))) ⟨wy.heap.size, 0, none⟩ 1 1 [.bool (sg dz), .string (E dz.natAbs)] rfl rfl (Blk.new wy #[.bool (sg dz), .string (E dz.natAbs)] 39).cells (by simp [Value.oneCell']) (by omega) (by simp only [maxLen]; omega) (by omega) (by rw [World.size_alloc]; omega) (wy.heap.size + 1) (by simp) ?_; intro ga ca' wa hown hgrow hat hlt2)
      have hOA : ZOwn wa wF.heap.size (.slice (some ⟨ga, 0, none⟩) (k + 1) ca') (LI ++ [dz]) := by rw [ZOwn, List.length_append, hLE.out, ← ics_app]; exact hown
      rw [← HST.out] at hOA
      have hbA := (ba hbr2 (.cells #[.bool (sg dz), .string (E dz.natAbs)] 39)).grown hgrow (by rw [World.size_alloc]; omega) (fun x hx => (own_lt hO2 hx).2)
      clear hown hgrow hat hlt2 hO2 hbr2
      go_wp2
      go_roundw
      case rel => exact ⟨k + 1, by omega, by go_num, hOA, HX, hbA⟩
      case measure => simp [intOf]; omega
    ·have HQN : Hid (quoJ N L c k = none) := by rw [Hid, HQJ.out, quoO, if_pos hv0, if_neg hg]
     have HDY : Hid (∀ w, Calls Tryz.prog 42 #[.string (E N.ord), .agg #[.bool (sg (zx)), .string (E (zx).natAbs)], .agg #[.bool false, .string (E c)]] w fun e w' => e = .returned (.tuple #[.agg #[.bool false, .string { data := #[] }], .bool false]) ∧ Below w.heap.size w w') := fun w =>
      mquot_no zx c N.ord w HQ.out.c8 (ord_lt HM.out) (HMD.out hv0).1 hg
     clear hv0 hg
     obtain ⟨cl, hcl⟩ : ∃ l : List (Addr × Value), l = [(⟨g16, 0, none⟩, .string (E vb)), (⟨g10 + 1, 0, none⟩, .func (.func 42) #[] #[]), (⟨g10 + 1, 1, none⟩, .func (.func 43) #[] #[]), (⟨w.heap.size + 1, 0, none⟩, .slice s1 m1 d1), (⟨w.heap.size + 1, 1, none⟩, .slice (some ⟨b0, o0, none⟩) m2 d2), (⟨w.heap.size + 1, 2, none⟩, .slice s3 m3 d3), (⟨bx, ox + k * 2, none⟩, .bool (sg zx)), (⟨bx, ox + k * 2 + 1, none⟩, .string (E zx.natAbs)), (⟨g10, 0, none⟩, .bool false), (⟨g10, 1, none⟩, .string (E c))] := ⟨_, rfl⟩
     have HCL := Lib.hid hcl
     clear hcl
     have hC : CA wA cl := by
      rw [HCL.out]
      exact CA.cons h16.lt (h16.cell 0) (CA.cons hFn1.lt (hFn1.cell 0) (CA.cons hFn1.lt (hFn1.cell 1) (CA.cons hP1.lt (hP1.cell 0) (CA.cons hP1.lt (hP1.cell 1) (CA.cons hP1.lt (hP1.cell 2) (CA.cons hbx x1 (CA.cons hbx x2 (CA.cons hD1.lt (hD1.cell 0) (CA.cons hD1.lt (hD1.cell 1) (CA.nil _))))))))))
     have hneA := fun x hx => Nat.ne_of_lt (hC x hx).1
     clear h16 hFn1 hP1 hD1 x1 x2 hbx
     go_upto_region 9 with fail
     go_cut [17, 18] (fun s17 s18 wx => QBox wA (.bool false) (.string { data := #[] }) false s17 s18 wx)
     case first =>
      go_region_held3 (fun w' => w'.cell? ⟨g16, 0, none⟩ = some (.string (E vb)) ∧ w'.cell? ⟨g10 + 1, 0, none⟩ = some (.func (.func 42) #[] #[]) ∧ w'.cell? ⟨g10 + 1, 1, none⟩ = some (.func (.func 43) #[] #[]) ∧ w'.cell? ⟨w.heap.size + 1, 0, none⟩ = some (.slice s1 m1 d1) ∧ w'.cell? ⟨w.heap.size + 1, 1, none⟩ = some (.slice (some ⟨b0, o0, none⟩) m2 d2) ∧ w'.cell? ⟨w.heap.size + 1, 2, none⟩ = some (.slice s3 m3 d3) ∧ w'.cell? ⟨bx, ox + k * 2, none⟩ = some (.bool (sg zx)) ∧ w'.cell? ⟨bx, ox + k * 2 + 1, none⟩ = some (.string (E zx.natAbs)) ∧ w'.cell? ⟨g10, 0, none⟩ = some (.bool false) ∧ w'.cell? ⟨g10, 1, none⟩ = some (.string (E c))) ((refine CA.k10 ?_; rw [← HCL.out]; repeat (first | (with_reducible exact hCd) | (with_reducible exact hCo) | (with_reducible exact hCf) | (with_reducible exact hC) | (with_reducible refine CA.drew ?_) | (with_reducible refine CA.alloc ?_ _) | (refine CA.set ?_ _ _ _ hneA) | (refine CA.set ?_ _ _ _ (fun x hx => Nat.ne_of_lt (hCf x hx).1)) | (refine CA.set ?_ _ _ _ (fun x hx => Nat.ne_of_lt (hCo x hx).1)))))
       (first | (go_at_call 33; refine (HKD.out _).mono ?_; rintro e wf ⟨rfl, hbf⟩; have hCf : CA wf cl := (by first | exact hC.drew.after hbf | exact (hC.alloc _).drew.after hbf | exact (hC.drew.alloc _).after hbf); (try (have hbF : Below wA.heap.size wA wf := (Below.drew (Below.refl _ _)).trans hbf)); (try (have hbF : Below wA.heap.size wA wf := bt ((b1 wA _).drew) hbf)); (try (have kA := (Blk.new wA #[.bool false, .string { data := #[] }] 39).drew.after hbf))) | (go_at_call 34; refine (HORD.out _ (by first | exact hbF | exact ba hbF _)).mono ?_; rintro e wo ⟨rfl, hbo⟩; have hCo : CA wo cl := (by first | exact hCf.after hbo | exact (hCf.alloc _).after hbo); (try (have hbO : Below wA.heap.size wA wo := bt hbF hbo)); (try (have hbO : Below wA.heap.size wA wo := bt (ba hbF _) hbo)); (try (have kAo := kA.after hbo)); (try (have kB := (Blk.new wf #[.bool false, .string { data := #[] }] 39).after hbo))) | (go_at_call 42; refine (HDY.out _).mono ?_; rintro e wd ⟨rfl, hbd⟩; have hCd : CA wd cl := (by first | exact hCo.after hbd | exact (hCo.alloc _).after hbd); (try (have hbD : Below wA.heap.size wA wd := bt hbO hbd)); (try (have hbD : Below wA.heap.size wA wd := bt (ba hbO _) hbd)); (try (have kD := kAo.after hbd; have kd0 := kD.cell 0; have kd1 := kD.cell 1; have kd2 := kD.free 0; have kd3 := kD.free 1; have kdl := kD.lt)); (try (have kE := kB.after hbd; have ke0 := kE.cell 0; have ke1 := kE.cell 1; have ke2 := kE.free 0; have ke3 := kE.free 1; have kel := kE.lt)); (try (have kF := (Blk.new wo #[.bool false, .string { data := #[] }] 39).after hbd; have kf0 := kF.cell 0; have kf1 := kF.cell 1; have kf2 := kF.free 0; have kf3 := kF.free 1; have kfl := kF.lt))))
      all_goals
       go_wp2_with fail
       go_meet
       first
        | exact ⟨_, rfl, rfl, Blk.new _ _ _, hbD.size, ba hbD _⟩
        | exact ⟨_, rfl, rfl, (kD.set 0 _).set 1 _, Nat.le_refl _, (hbD.setCell (by simp) _).setCell (by simp) _⟩
        | exact ⟨_, rfl, rfl, (kE.set 0 _).set 1 _, hbF.size, (hbD.setCell (by have := hbF.size; simp; omega) _).setCell (by have := hbF.size; simp; omega) _⟩
        | exact ⟨_, rfl, rfl, (kF.set 0 _).set 1 _, hbO.size, (hbD.setCell (by have := hbO.size; simp; omega) _).setCell (by have := hbO.size; simp; omega) _⟩
     case rest =>
      obtain ⟨g17, rfl, rfl, h17, hg17, hbz⟩ := hcut
      obtain ⟨wy, hwy⟩ : ∃ wy, wy = wc := ⟨_, rfl⟩
      subst hwy
      clear hC hneA
      have HF : Hid (N.ext L c = none) := ext_bad hkl HQN.out
      go_wp2
      go_ret2
      show XPost w (N.ext L c) _ _
      rw [HF.out]
      exact ⟨rfl, bt hBW2 hbz⟩
   ·have HKD : Hid (∀ w, Calls Tryz.prog 33 #[.agg #[.string (E vb)]] w fun e w' => e = .returned (.int .i64 1) ∧ Below w.heap.size w w') := fun w => ekindV_c vb 1 w (if_neg hv0)
    by_cases hg : zx.natAbs % c = 0
    ·obtain ⟨dz, hdz⟩ : ∃ z : Int, z = zx / (c : Int) := ⟨_, rfl⟩
     have HQN : Hid (quoJ N L c k = some dz) := by rw [Hid, HQJ.out, quoO, if_neg hv0, if_pos hg, hdz]
     have HDY : Hid (∀ w, Calls Tryz.prog 43 #[.string (E N.ord), .agg #[.bool (sg (zx)), .string (E (zx).natAbs)], .agg #[.bool false, .string (E c)]] w fun e w' => e = .returned (.tuple #[.agg #[.bool (sg (dz)), .string (E (dz).natAbs)], .bool true]) ∧ Below w.heap.size w w') := fun w => by
      rw [hdz]; exact iquot_yes zx c _ w (lt64 HZX.out) (lt128 HQ.out.c8) HQ.out.c0 (HDMX.out hv0) hg
     clear hv0 hg hdz
     obtain ⟨cl, hcl⟩ : ∃ l : List (Addr × Value), l = [(⟨g16, 0, none⟩, .string (E vb)), (⟨g10 + 1, 0, none⟩, .func (.func 42) #[] #[]), (⟨g10 + 1, 1, none⟩, .func (.func 43) #[] #[]), (⟨w.heap.size + 1, 0, none⟩, .slice s1 m1 d1), (⟨w.heap.size + 1, 1, none⟩, .slice (some ⟨b0, o0, none⟩) m2 d2), (⟨w.heap.size + 1, 2, none⟩, .slice s3 m3 d3), (⟨bx, ox + k * 2, none⟩, .bool (sg zx)), (⟨bx, ox + k * 2 + 1, none⟩, .string (E zx.natAbs)), (⟨g10, 0, none⟩, .bool false), (⟨g10, 1, none⟩, .string (E c))] := ⟨_, rfl⟩
     have HCL := Lib.hid hcl
     clear hcl
     have hC : CA wA cl := by
      rw [HCL.out]
      exact CA.cons h16.lt (h16.cell 0) (CA.cons hFn1.lt (hFn1.cell 0) (CA.cons hFn1.lt (hFn1.cell 1) (CA.cons hP1.lt (hP1.cell 0) (CA.cons hP1.lt (hP1.cell 1) (CA.cons hP1.lt (hP1.cell 2) (CA.cons hbx x1 (CA.cons hbx x2 (CA.cons hD1.lt (hD1.cell 0) (CA.cons hD1.lt (hD1.cell 1) (CA.nil _))))))))))
     have hneA := fun x hx => Nat.ne_of_lt (hC x hx).1
     clear h16 hFn1 hP1 hD1 x1 x2 hbx
     go_upto_region 9 with fail
     go_cut [17, 18] (fun s17 s18 wx => QBox wA (.bool (sg dz)) (.string (E dz.natAbs)) true s17 s18 wx)
     case first =>
      go_region_held3 (fun w' => w'.cell? ⟨g16, 0, none⟩ = some (.string (E vb)) ∧ w'.cell? ⟨g10 + 1, 0, none⟩ = some (.func (.func 42) #[] #[]) ∧ w'.cell? ⟨g10 + 1, 1, none⟩ = some (.func (.func 43) #[] #[]) ∧ w'.cell? ⟨w.heap.size + 1, 0, none⟩ = some (.slice s1 m1 d1) ∧ w'.cell? ⟨w.heap.size + 1, 1, none⟩ = some (.slice (some ⟨b0, o0, none⟩) m2 d2) ∧ w'.cell? ⟨w.heap.size + 1, 2, none⟩ = some (.slice s3 m3 d3) ∧ w'.cell? ⟨bx, ox + k * 2, none⟩ = some (.bool (sg zx)) ∧ w'.cell? ⟨bx, ox + k * 2 + 1, none⟩ = some (.string (E zx.natAbs)) ∧ w'.cell? ⟨g10, 0, none⟩ = some (.bool false) ∧ w'.cell? ⟨g10, 1, none⟩ = some (.string (E c))) ((refine CA.k10 ?_; rw [← HCL.out]; repeat (first | (with_reducible exact hCd) | (with_reducible exact hCo) | (with_reducible exact hCf) | (with_reducible exact hC) | (with_reducible refine CA.drew ?_) | (with_reducible refine CA.alloc ?_ _) | (refine CA.set ?_ _ _ _ hneA) | (refine CA.set ?_ _ _ _ (fun x hx => Nat.ne_of_lt (hCf x hx).1)) | (refine CA.set ?_ _ _ _ (fun x hx => Nat.ne_of_lt (hCo x hx).1)))))
       (first | (go_at_call 33; refine (HKD.out _).mono ?_; rintro e wf ⟨rfl, hbf⟩; have hCf : CA wf cl := (by first | exact hC.drew.after hbf | exact (hC.alloc _).drew.after hbf | exact (hC.drew.alloc _).after hbf); (try (have hbF : Below wA.heap.size wA wf := (Below.drew (Below.refl _ _)).trans hbf)); (try (have hbF : Below wA.heap.size wA wf := bt ((b1 wA _).drew) hbf)); (try (have kA := (Blk.new wA #[.bool false, .string { data := #[] }] 39).drew.after hbf))) | (go_at_call 34; refine (HORD.out _ (by first | exact hbF | exact ba hbF _)).mono ?_; rintro e wo ⟨rfl, hbo⟩; have hCo : CA wo cl := (by first | exact hCf.after hbo | exact (hCf.alloc _).after hbo); (try (have hbO : Below wA.heap.size wA wo := bt hbF hbo)); (try (have hbO : Below wA.heap.size wA wo := bt (ba hbF _) hbo)); (try (have kAo := kA.after hbo)); (try (have kB := (Blk.new wf #[.bool false, .string { data := #[] }] 39).after hbo))) | (go_at_call 43; refine (HDY.out _).mono ?_; rintro e wd ⟨rfl, hbd⟩; have hCd : CA wd cl := (by first | exact hCo.after hbd | exact (hCo.alloc _).after hbd); (try (have hbD : Below wA.heap.size wA wd := bt hbO hbd)); (try (have hbD : Below wA.heap.size wA wd := bt (ba hbO _) hbd)); (try (have kD := kAo.after hbd; have kd0 := kD.cell 0; have kd1 := kD.cell 1; have kd2 := kD.free 0; have kd3 := kD.free 1; have kdl := kD.lt)); (try (have kE := kB.after hbd; have ke0 := kE.cell 0; have ke1 := kE.cell 1; have ke2 := kE.free 0; have ke3 := kE.free 1; have kel := kE.lt)); (try (have kF := (Blk.new wo #[.bool false, .string { data := #[] }] 39).after hbd; have kf0 := kF.cell 0; have kf1 := kF.cell 1; have kf2 := kF.free 0; have kf3 := kF.free 1; have kfl := kF.lt))))
      all_goals
       go_wp2_with fail
       go_meet
       first
        | exact ⟨_, rfl, rfl, Blk.new _ _ _, hbD.size, ba hbD _⟩
        | exact ⟨_, rfl, rfl, (kD.set 0 _).set 1 _, Nat.le_refl _, (hbD.setCell (by simp) _).setCell (by simp) _⟩
        | exact ⟨_, rfl, rfl, (kE.set 0 _).set 1 _, hbF.size, (hbD.setCell (by have := hbF.size; simp; omega) _).setCell (by have := hbF.size; simp; omega) _⟩
        | exact ⟨_, rfl, rfl, (kF.set 0 _).set 1 _, hbO.size, (hbD.setCell (by have := hbO.size; simp; omega) _).setCell (by have := hbO.size; simp; omega) _⟩
     case rest =>
      obtain ⟨g17, rfl, rfl, h17, hg17, hbz⟩ := hcut
      obtain ⟨wy, hwy⟩ : ∃ wy, wy = wc := ⟨_, rfl⟩
      subst hwy
      clear hC hneA
      have hO2 := own_after hO1 hbz
      have hbr2 := bt hbr1 hbz
      have h17l := h17.lt
      rw [hLE.out] at hO2
      clear hbz hO1
      have hszy := hbr2.size
      have HX : Hid (∀ j, j < k + 1 → (quoJ N L c j).isSome = true) := fun j hj => by
       by_cases e : j = k
       ·rw [e, HQN.out]; rfl
       ·exact HA.out j (by omega)
      rw [show (quoJ N L c k).getD 0 = dz by rw [HQN.out]; rfl] at HST
      generalize (quoL N L c).take k = LI at hO2 HST hLE
      have h17c0 := h17.cell 0
      have h17f0 := h17.free 0
      have h17c1 := h17.cell 1
      have h17f1 := h17.free 1
      go_wp2_with (at_builtin; refine wpList_append_lies _ rfl (.tmp 60) (.tmp 62) _ rfl wF.heap.size 39 i1 _ 2 24 Tryz.underlying31 HI1.out HA1.out HB1.out HC1.out rfl (by omega) u14 k (ics (LI.map zI)) rfl (own_after hO2 (b1 _ (.cells #[.bool (sg dz), .string (E dz.natAbs)] 39))) ⟨wy.heap.size, 0, none⟩ 1 1 [.bool (sg dz), .string (E dz.natAbs)] rfl rfl (Blk.new wy #[.bool (sg dz), .string (E dz.natAbs)] 39).cells (by simp [Value.oneCell']) (by omega) (by simp only [maxLen]; omega) (by omega) (by rw [World.size_alloc]; omega) (wy.heap.size + 1) (by simp) ?_; intro ga ca' wa hown hgrow hat hlt2)
      have hOA : ZOwn wa wF.heap.size (.slice (some ⟨ga, 0, none⟩) (k + 1) ca') (LI ++ [dz]) := by rw [ZOwn, List.length_append, hLE.out, ← ics_app]; exact hown
      rw [← HST.out] at hOA
      have hbA := (ba hbr2 (.cells #[.bool (sg dz), .string (E dz.natAbs)] 39)).grown hgrow (by rw [World.size_alloc]; omega) (fun x hx => (own_lt hO2 hx).2)
      clear hown hgrow hat hlt2 hO2 hbr2
      go_wp2
      go_roundw
      case rel => exact ⟨k + 1, by omega, by go_num, hOA, HX, hbA⟩
      case measure => simp [intOf]; omega
    ·have HQN : Hid (quoJ N L c k = none) := by rw [Hid, HQJ.out, quoO, if_neg hv0, if_neg hg]
     have HDY : Hid (∀ w, Calls Tryz.prog 43 #[.string (E N.ord), .agg #[.bool (sg (zx)), .string (E (zx).natAbs)], .agg #[.bool false, .string (E c)]] w fun e w' => e = .returned (.tuple #[.agg #[.bool false, .string { data := #[] }], .bool false]) ∧ Below w.heap.size w w') := fun w =>
      iquot_no zx c _ w (lt64 HZX.out) (lt128 HQ.out.c8) HQ.out.c0 (HDMX.out hv0) hg
     clear hv0 hg
     obtain ⟨cl, hcl⟩ : ∃ l : List (Addr × Value), l = [(⟨g16, 0, none⟩, .string (E vb)), (⟨g10 + 1, 0, none⟩, .func (.func 42) #[] #[]), (⟨g10 + 1, 1, none⟩, .func (.func 43) #[] #[]), (⟨w.heap.size + 1, 0, none⟩, .slice s1 m1 d1), (⟨w.heap.size + 1, 1, none⟩, .slice (some ⟨b0, o0, none⟩) m2 d2), (⟨w.heap.size + 1, 2, none⟩, .slice s3 m3 d3), (⟨bx, ox + k * 2, none⟩, .bool (sg zx)), (⟨bx, ox + k * 2 + 1, none⟩, .string (E zx.natAbs)), (⟨g10, 0, none⟩, .bool false), (⟨g10, 1, none⟩, .string (E c))] := ⟨_, rfl⟩
     have HCL := Lib.hid hcl
     clear hcl
     have hC : CA wA cl := by
      rw [HCL.out]
      exact CA.cons h16.lt (h16.cell 0) (CA.cons hFn1.lt (hFn1.cell 0) (CA.cons hFn1.lt (hFn1.cell 1) (CA.cons hP1.lt (hP1.cell 0) (CA.cons hP1.lt (hP1.cell 1) (CA.cons hP1.lt (hP1.cell 2) (CA.cons hbx x1 (CA.cons hbx x2 (CA.cons hD1.lt (hD1.cell 0) (CA.cons hD1.lt (hD1.cell 1) (CA.nil _))))))))))
     have hneA := fun x hx => Nat.ne_of_lt (hC x hx).1
     clear h16 hFn1 hP1 hD1 x1 x2 hbx
     go_upto_region 9 with fail
     go_cut [17, 18] (fun s17 s18 wx => QBox wA (.bool false) (.string { data := #[] }) false s17 s18 wx)
     case first =>
      go_region_held3 (fun w' => w'.cell? ⟨g16, 0, none⟩ = some (.string (E vb)) ∧ w'.cell? ⟨g10 + 1, 0, none⟩ = some (.func (.func 42) #[] #[]) ∧ w'.cell? ⟨g10 + 1, 1, none⟩ = some (.func (.func 43) #[] #[]) ∧ w'.cell? ⟨w.heap.size + 1, 0, none⟩ = some (.slice s1 m1 d1) ∧ w'.cell? ⟨w.heap.size + 1, 1, none⟩ = some (.slice (some ⟨b0, o0, none⟩) m2 d2) ∧ w'.cell? ⟨w.heap.size + 1, 2, none⟩ = some (.slice s3 m3 d3) ∧ w'.cell? ⟨bx, ox + k * 2, none⟩ = some (.bool (sg zx)) ∧ w'.cell? ⟨bx, ox + k * 2 + 1, none⟩ = some (.string (E zx.natAbs)) ∧ w'.cell? ⟨g10, 0, none⟩ = some (.bool false) ∧ w'.cell? ⟨g10, 1, none⟩ = some (.string (E c))) ((refine CA.k10 ?_; rw [← HCL.out]; repeat (first | (with_reducible exact hCd) | (with_reducible exact hCo) | (with_reducible exact hCf) | (with_reducible exact hC) | (with_reducible refine CA.drew ?_) | (with_reducible refine CA.alloc ?_ _) | (refine CA.set ?_ _ _ _ hneA) | (refine CA.set ?_ _ _ _ (fun x hx => Nat.ne_of_lt (hCf x hx).1)) | (refine CA.set ?_ _ _ _ (fun x hx => Nat.ne_of_lt (hCo x hx).1)))))
       (first | (go_at_call 33; refine (HKD.out _).mono ?_; rintro e wf ⟨rfl, hbf⟩; have hCf : CA wf cl := (by first | exact hC.drew.after hbf | exact (hC.alloc _).drew.after hbf | exact (hC.drew.alloc _).after hbf); (try (have hbF : Below wA.heap.size wA wf := (Below.drew (Below.refl _ _)).trans hbf)); (try (have hbF : Below wA.heap.size wA wf := bt ((b1 wA _).drew) hbf)); (try (have kA := (Blk.new wA #[.bool false, .string { data := #[] }] 39).drew.after hbf))) | (go_at_call 34; refine (HORD.out _ (by first | exact hbF | exact ba hbF _)).mono ?_; rintro e wo ⟨rfl, hbo⟩; have hCo : CA wo cl := (by first | exact hCf.after hbo | exact (hCf.alloc _).after hbo); (try (have hbO : Below wA.heap.size wA wo := bt hbF hbo)); (try (have hbO : Below wA.heap.size wA wo := bt (ba hbF _) hbo)); (try (have kAo := kA.after hbo)); (try (have kB := (Blk.new wf #[.bool false, .string { data := #[] }] 39).after hbo))) | (go_at_call 43; refine (HDY.out _).mono ?_; rintro e wd ⟨rfl, hbd⟩; have hCd : CA wd cl := (by first | exact hCo.after hbd | exact (hCo.alloc _).after hbd); (try (have hbD : Below wA.heap.size wA wd := bt hbO hbd)); (try (have hbD : Below wA.heap.size wA wd := bt (ba hbO _) hbd)); (try (have kD := kAo.after hbd; have kd0 := kD.cell 0; have kd1 := kD.cell 1; have kd2 := kD.free 0; have kd3 := kD.free 1; have kdl := kD.lt)); (try (have kE := kB.after hbd; have ke0 := kE.cell 0; have ke1 := kE.cell 1; have ke2 := kE.free 0; have ke3 := kE.free 1; have kel := kE.lt)); (try (have kF := (Blk.new wo #[.bool false, .string { data := #[] }] 39).after hbd; have kf0 := kF.cell 0; have kf1 := kF.cell 1; have kf2 := kF.free 0; have kf3 := kF.free 1; have kfl := kF.lt))))
      all_goals
       go_wp2_with fail
       go_meet
       first
        | exact ⟨_, rfl, rfl, Blk.new _ _ _, hbD.size, ba hbD _⟩
        | exact ⟨_, rfl, rfl, (kD.set 0 _).set 1 _, Nat.le_refl _, (hbD.setCell (by simp) _).setCell (by simp) _⟩
        | exact ⟨_, rfl, rfl, (kE.set 0 _).set 1 _, hbF.size, (hbD.setCell (by have := hbF.size; simp; omega) _).setCell (by have := hbF.size; simp; omega) _⟩
        | exact ⟨_, rfl, rfl, (kF.set 0 _).set 1 _, hbO.size, (hbD.setCell (by have := hbO.size; simp; omega) _).setCell (by have := hbO.size; simp; omega) _⟩
     case rest =>
      obtain ⟨g17, rfl, rfl, h17, hg17, hbz⟩ := hcut
      obtain ⟨wy, hwy⟩ : ∃ wy, wy = wc := ⟨_, rfl⟩
      subst hwy
      clear hC hneA
      have HF : Hid (N.ext L c = none) := ext_bad hkl HQN.out
      go_wp2
      go_ret2
      show XPost w (N.ext L c) _ _
      rw [HF.out]
      exact ⟨rfl, bt hBW2 hbz⟩
  ·have HSA : Hid (∀ j, j < N.vars.length → (quoJ N L c j).isSome = true) := fun j hj => HA.out j (by have := HN2.out; omega)
   have HTK : Hid ((quoL N L c).take k = quoL N L c) := List.take_of_length_le (by rw [quoL, List.length_map, List.length_range, ← HN2.out]; omega)
   rw [HTK.out] at hO
   have hS1 := HS0.out.after hBW1
   replace hP := hP.after hbr
   have HIM := Lib.hid (Images_c N (quoL N L c) _ _ _ _ wq HM.out hS1 hO.zs (quo_lt HM.out HQ.out) (by rw [quoL, List.length_map, List.length_range]) HCK.out)
   have hPl := hP.lt
   clear HA hS1
   have hPc0 := hP.cell 0
   have hPf0 := hP.free 0
   have hPc1 := hP.cell 1
   have hPf1 := hP.free 1
   have hPc2 := hP.cell 2
   have hPf2 := hP.free 2
   go_wp2_with fail
   refine HIM.out.mono ?_
   rintro e w8 ⟨iv, rfl, hIO, hb8⟩
   clear hPc0 hPf0 hPc1 hPf1 hPc2 hPf2
   replace hP := hP.after hb8
   replace hO := own_after hO hb8
   replace hBW1 := bt hBW1 hb8
   have hbr8 := bt hbr hb8
   clear hb8 hPl HIM
   have hIs := hIO.ss
   clear hIO
   obtain ⟨a7, c7, rfl⟩ := RAt.form hIs
   have HIL : Hid (((N.imgs (quoL N L c)).map E).length = m3) := by rw [Hid, List.length_map, NSta.imgs, List.length_map, HN3.out]
   rw [HIL.out] at hIs ⊢
   have hPl := hP.lt
   have hszF := hBW.size
   have hPc0 := hP.cell 0
   have hPf0 := hP.free 0
   have hPc1 := hP.cell 1
   have hPf1 := hP.free 1
   have hPc2 := hP.cell 2
   have hPf2 := hP.free 2
   go_wp2
   clear hPc0 hPf0 hPc1 hPf1 hPc2 hPf2
   go_loopw [77] (fun i wr => ∃ k : Nat, k ≤ m3 ∧ i = .int .i64 k ∧ Hid (∀ j, j < k → (N.imgs (quoL N L c))[j]? = (N.eqs.map (·.tgt))[j]?) ∧ Below w8.heap.size w8 wr) (fun i _ => m3 - (intOf i).toNat)
   case atStart => exact ⟨0, by omega, rfl, fun j h => absurd h (Nat.not_lt_zero _), Below.refl _ _⟩
   case round =>
    clear hlt hk
    obtain ⟨k, hk, rfl, HA, hbs⟩ := hrel
    obtain ⟨wu, hwu⟩ : ∃ wp, wp = wr := ⟨_, rfl⟩
    subst hwu
    have hBW2 := bt hBW1 hbs
    replace hIs := SsAt.after hIs hbs
    by_cases hlt : k < m3
    ·have hkl : k < N.eqs.length := by rw [← HN3.out]; exact hlt
     have hki : k < ((N.imgs (quoL N L c)).map E).length := by rw [HIL.out]; exact hlt
     have hS1 := HS0.out.after hBW2
     have HE1 : Hid ((N.imgs (quoL N L c))[k]? = some (imgV N (quoL N L c) (N.eqs[k]'hkl))) := by rw [Hid, NSta.imgs, List.getElem?_map, List.getElem?_eq_getElem hkl]; rfl
     have HE2 : Hid ((N.eqs.map (·.tgt))[k]? = some (N.eqs[k]'hkl).tgt) := by rw [Hid, List.getElem?_map, List.getElem?_eq_getElem hkl]; rfl
     obtain ⟨b, o, tv, rfl, hbl, x1, x2, x3, hTs⟩ := NAt.eat hS1 hkl
     obtain ⟨b7, o7, rfl, hbl7, i1'⟩ := SsAt.at_ hIs hki
     rw [show ((N.imgs (quoL N L c)).map E)[k] = E (imgV N (quoL N L c) (N.eqs[k]'hkl)) by simp [NSta.imgs]] at i1'
     obtain ⟨to_, tc, rfl⟩ := hTs.form
     generalize (N.eqs[k]'hkl).trms.length = n4 at x3
     generalize (N.eqs[k]'hkl).grp = qg at x1
     generalize imgV N (quoL N L c) (N.eqs[k]'hkl) = iq at i1' HE1
     generalize (N.eqs[k]'hkl).tgt = qt at x2 HE2
     have h0k : (0 : Int) ≤ (k : Int) := by omega
     have h1k : (k : Int) < (m3 : Int) := by omega
     have hQb := Blk.new wu #[.int .i64 (qg : Int), .string (E qt), .slice to_ n4 tc] 55
     have hbq := b1 wu (.cells #[.int .i64 (qg : Int), .string (E qt), .slice to_ n4 tc] 55)
     have i2 := (hbq.cell (p := ⟨b7, o7 + k, none⟩) hbl7).trans i1'
     have g1 := gcl (a := ⟨b7, o7 + k, none⟩) (Nat.lt_of_lt_of_le hbl7 hbq.size) i2
     clear hTs hS1
     go_upto_region 20 with fail
     generalize wu.alloc (.cells #[.int .i64 (qg : Int), .string (E qt), .slice to_ n4 tc] 55) = wv at hQb hbq i2 g1 ⊢
     replace hQb : Blk wv wu.heap.size 55 [.int .i64 (qg : Int), .string (E qt), .slice to_ n4 tc] := hQb
     by_cases hyi : iq = qt
     ·have h1 := eqT hyi
      have h2 := eqE hyi
      have HX : Hid (∀ j, j < k + 1 → (N.imgs (quoL N L c))[j]? = (N.eqs.map (·.tgt))[j]?) := fun j hj => by
       by_cases e : j = k
       ·rw [e, HE1.out, HE2.out, hyi]
       ·exact HA.out j (by omega)
      clear hyi
      have hQbc0 := hQb.cell 0
      have hQbf0 := hQb.free 0
      have hQbc1 := hQb.cell 1
      have hQbf1 := hQb.free 1
      have hQbc2 := hQb.cell 2
      have hQbf2 := hQb.free 2
      have hQbg0 := hQb.gcell 0
      have hQbg1 := hQb.gcell 1
      have hQbg2 := hQb.gcell 2
      go_wp2_with fail
      refine wp_region_gw (by kernel_rfl) (by kernel_rfl) ?_
      repeat (go_big_quiet_step (first | (fail)))
      refine wpQuiet_nil ?_
      rintro w9 ⟨xw9, rfl⟩
      have hb9 := gw_below xw9
      generalize gw xw9 = w9 at hb9
      go_wp2
      go_roundw
      case rel => exact ⟨k + 1, by omega, by go_num, HX, bt (bt hbs hbq) hb9⟩
      case measure => simp [intOf]; omega
     ·have h1 := eqF hyi
      have h2 := neE hyi
      have HF : Hid (N.ext L c = none) := ext_ne (fun e => hyi (by have h3 := HE1.out; rw [e, HE2.out] at h3; exact (Option.some.inj h3).symm))
      clear hyi
      have hQbc0 := hQb.cell 0
      have hQbf0 := hQb.free 0
      have hQbc1 := hQb.cell 1
      have hQbf1 := hQb.free 1
      have hQbc2 := hQb.cell 2
      have hQbf2 := hQb.free 2
      have hQbg0 := hQb.gcell 0
      have hQbg1 := hQb.gcell 1
      have hQbg2 := hQb.gcell 2
      go_wp2_with fail
      refine wp_region_gw (by kernel_rfl) (by kernel_rfl) ?_
      repeat (go_big_quiet_step (first | (fail)))
      refine wpQuiet_nil ?_
      rintro w9 ⟨xw9, rfl⟩
      have hb9 := gw_below xw9
      generalize gw xw9 = w9 at hb9
      go_wp2
      go_ret2
      show XPost w (N.ext L c) _ _
      rw [HF.out]
      exact ⟨rfl, bt (bt hBW2 hbq) hb9⟩
    ·have HF : Hid (N.ext L c = some (quoL N L c)) := ext_some HSA.out (List.ext_getElem? fun j => by
      by_cases hj : j < k
      ·exact HA.out j hj
      ·rw [List.getElem?_eq_none (by rw [NSta.imgs, List.length_map, ← HN3.out]; omega), List.getElem?_eq_none (by rw [List.length_map, ← HN3.out]; omega)])
     have hO9 := own_after hO hbs
     go_wp2
     go_ret2
     show XPost w (N.ext L c) _ _
     rw [HF.out]
     exact ⟨_, rfl, own_mono hO9 hszF, hBW2⟩

end Go.Proofs.YtbcgimgkcdpjcaaGreat
end

section
/- Differences of two proofs, in bytes: both sides return the same error, or there are numbers. -/
namespace Go.Proofs.YtbcgimgkcdpjcaaGreat
open Go.RowKit Go.Shelf

theorem numk {s : ByteArray} {k : Nat} (h : s.size ≤ k) (hv : vldB s = true) : ∃ n, n < 256 ^ k ∧ s = E n := by
 obtain ⟨n, _, rfl⟩ := of_vldB hv
 exact ⟨n, lt_of_size h, rfl⟩

/-- a small statement has small sizes -/
theorem few_ssm {S : Sta} (h : fewB S = true) : SSm S := by
 simp only [fewB, gszB, vszB, eszB, tszB, Bool.and_eq_true, decide_eq_true_eq, List.all_eq_true] at h
 obtain ⟨⟨⟨⟨⟨l1, l2⟩, l3⟩, hg⟩, hv⟩, he⟩ := h
 exact ⟨by omega, by omega, by omega, fun x hx => by have := hg x hx; omega, fun x hx => by have := hv x hx; omega, fun x hx => ⟨by have := (he x hx).1.2; omega, by have := (he x hx).1.1; omega, fun t ht => by have := (he x hx).2 t ht; omega⟩⟩

/-- a rule and a statement: both sides refuse with one error, or they are numbers with masks -/
theorem bnd_two (S : Sta) (C K : ByteArray) (v1 v2 v3 : Value) (w : World) (hC : C.size ≤ 8) (hK : K.size ≤ 8) (hf : fewB S = true) (hS : StAt w v1 v2 v3 S) :
  (∃ k : Nat, k ≠ 0 ∧ (∀ w', Below w.heap.size w w' → Calls Tryz.prog 53 #[.agg #[.string C, .string K], .agg #[v1, v2, v3]] w' fun e w'' => e = .returned (.tuple #[.slice none 0 0, .int .i64 k]) ∧ Below w'.heap.size w' w'') ∧
   (∀ w', Below w.heap.size w w' → Calls Tryz.prog 68 #[.agg #[.string C, .string K], .agg #[v1, v2, v3]] w' fun e w'' => e = .returned (.tuple #[.slice none 0 0, .slice none 0 0, .int .i64 k]) ∧ Below w'.heap.size w' w'')) ∨
  (∃ (N : NSta) (c k : Nat), C = E c ∧ K = E k ∧ c < 256 ^ 8 ∧ k < 256 ^ 8 ∧ S = N.s ∧ NOk N ∧ N.chk = 0 ∧ 2 ≤ c ∧ 2 ≤ k ∧ (N.vars.any vz = true → c ≤ N.ord)) := by
 have hss := few_ssm hf
 cases hr : (vldB C && vldB K)
 ·exact .inl ⟨3, by decide, fun w' hb => bounds_rule C K v1 v2 v3 w' (by omega) (by omega) hr, fun w' hb => rbounds_rule C K v1 v2 v3 w' (by omega) (by omega) hr⟩
 ·simp only [Bool.and_eq_true] at hr
  obtain ⟨c, hc, rfl⟩ := numk hC hr.1
  obtain ⟨k, hk, rfl⟩ := numk hK hr.2
  cases hfm : formB S
  ·exact .inl ⟨3, by decide, fun w' hb => bounds_chk c k v1 v2 v3 3 w' hc hk (by decide) (fun w2 hb2 => check_bad S v1 v2 v3 w2 hss (hS.after (bt hb hb2)) hfm),
    fun w' hb => rbounds_chk c k v1 v2 v3 3 w' hc hk (by decide) (fun w2 hb2 => rCheck_bad S v1 v2 v3 w2 hss (hS.after (bt hb hb2)) hfm)⟩
  ·obtain ⟨N, rfl, hm⟩ := to_num S hfm hf
   by_cases h0 : N.chk = 0
   ·by_cases h2 : c < 2 ∨ k < 2
    ·exact .inl ⟨2, by decide, fun w' hb => bounds_two N c k v1 v2 v3 w' hc hk h2 hm (hS.after hb) h0, fun w' hb => rbounds_two N c k v1 v2 v3 w' hc hk h2 hm (hS.after hb) h0⟩
    ·by_cases h3 : N.vars.any vz = true ∧ N.ord < c
     ·exact .inl ⟨2, by decide, fun w' hb => bounds_ord N c k v1 v2 v3 w' hc hk (by omega) (by omega) h3.1 h3.2 hm (hS.after hb) h0, fun w' hb => rbounds_ord N c k v1 v2 v3 w' hc hk (by omega) (by omega) h3.1 h3.2 hm (hS.after hb) h0⟩
     ·exact .inr ⟨N, c, k, rfl, rfl, hc, hk, rfl, hm, h0, by omega, by omega, fun hv => by
       apply Classical.byContradiction
       intro hn
       exact h3 ⟨hv, by omega⟩⟩
   ·exact .inl ⟨N.chk, h0, fun w' hb => bounds_chk c k v1 v2 v3 N.chk w' hc hk h0 (fun w2 hb2 => check_c N v1 v2 v3 w2 hm (hS.after (bt hb hb2))),
     fun w' hb => rbounds_chk c k v1 v2 v3 N.chk w' hc hk h0 (fun w2 hb2 => rCheck_c N v1 v2 v3 w2 hm (hS.after (bt hb hb2)))⟩

theorem nums_lift (F : List ByteArray) (n : Nat) (h1 : ∀ x ∈ F, vldB x = true) (h2 : ∀ x ∈ F, x.size ≤ n) : ∃ G : List Nat, G.map E = F ∧ ∀ x ∈ G, x < 256 ^ n :=
 list_lift E (fun x => x < 256 ^ n) F fun x hx => by
  obtain ⟨m, hm, rfl⟩ := numk (h2 x hx) (h1 x hx)
  exact ⟨m, rfl, hm⟩
theorem ints_lift (R : List (Bool × ByteArray)) (n : Nat) (h1 : ∀ x ∈ R, ivB x.1 x.2 = true) (h2 : ∀ x ∈ R, x.2.size ≤ n) : ∃ Z : List Int, Z.map zI = R ∧ ∀ z ∈ Z, z.natAbs < 256 ^ n :=
 list_lift zI (fun z => z.natAbs < 256 ^ n) R fun x hx => by
  obtain ⟨z, _, e1, e2⟩ := of_ivB (h1 x hx)
  have h3 := h2 x hx
  rw [e2] at h3
  exact ⟨z, by rw [zI, ← e1, ← e2], lt_of_size h3⟩

/-- one proof: both sides refuse with one error, or it is numbers and both accept -/
theorem ver_two (N : NSta) (C K : Nat) (ch : ByteArray) (F : List ByteArray) (R : List (Bool × ByteArray)) (v1 v2 v3 f rs : Value) (w : World) (hC : C < 256 ^ 8) (hK : K < 256 ^ 8) (hm : NOk N) (hS : NAt w v1 v2 v3 N) (hc : N.chk = 0)
  (h2 : 2 ≤ C) (h3 : 2 ≤ K) (hv : N.vars.any vz = true → C ≤ N.ord) (hn1 : F.length ≤ 9) (hs1 : ∀ x ∈ F, x.size ≤ 9) (hn2 : R.length ≤ 9) (hs2 : ∀ x ∈ R, x.2.size ≤ 40) (hsc : ch.size ≤ 16) (hFs : SsAt w f F) (hIs : IsAt w rs R) :
  (∃ k : Nat, k ≠ 0 ∧ (∀ w', Below w.heap.size w w' → Calls Tryz.prog 18 #[.agg #[.string (E C), .string (E K)], .agg #[v1, v2, v3], .agg #[f, .string ch, rs]] w' fun e w'' => e = .returned (.int .i64 k) ∧ Below w'.heap.size w' w'') ∧
   (∀ w', Below w.heap.size w w' → Calls Tryz.prog 35 #[.agg #[.string (E C), .string (E K)], .agg #[v1, v2, v3], .agg #[f, .string ch, rs]] w' fun e w'' => e = .returned (.int .i64 k) ∧ Below w'.heap.size w' w'')) ∨
  (∃ (G : List Nat) (c : Nat) (Z : List Int), G.map E = F ∧ ch = E c ∧ Z.map zI = R ∧ (∀ x ∈ G, x < 256 ^ 9) ∧ c < 256 ^ 16 ∧ (∀ z ∈ Z, z.natAbs < 256 ^ 40) ∧ N.ver C K G c Z = 0 ∧
   (∀ w', Below w.heap.size w w' → Calls Tryz.prog 18 #[.agg #[.string (E C), .string (E K)], .agg #[v1, v2, v3], .agg #[f, .string ch, rs]] w' fun e w'' => e = .returned (.int .i64 0) ∧ Below w'.heap.size w' w'') ∧
   (∀ w', Below w.heap.size w w' → Calls Tryz.prog 35 #[.agg #[.string (E C), .string (E K)], .agg #[v1, v2, v3], .agg #[f, .string ch, rs]] w' fun e w'' => e = .returned (.int .i64 0) ∧ Below w'.heap.size w' w'')) := by
 cases hp : prB F ch R
 ·refine .inl ⟨3, by decide, fun w' hb => ?_, fun w' hb => ?_⟩
  ·refine verify_form (E C) (E K) ch v1 v2 v3 f rs F R w' (fun w2 hb2 => (bounds_ok N C K v1 v2 v3 w2 hC hK h2 h3 hv hm (hS.after (bt hb hb2)) hc).mono ?_) (by omega) (fun x hx => by have := hs1 x hx; omega) (by omega) (fun x hx => by have := hs2 x hx; omega) (by omega) (SsAt.after hFs hb) (IsAt.after hIs hb) hp
   rintro e w3 ⟨v, rfl, _, hb3⟩
   exact ⟨v, rfl, hb3⟩
  ·refine rverify_form (E C) (E K) ch v1 v2 v3 f rs F R w' (fun w2 hb2 => (rbounds_ok N C K v1 v2 v3 w2 hC hK h2 h3 hv hm (hS.after (bt hb hb2)) hc).mono ?_) (by omega) (fun x hx => by have := hs1 x hx; omega) (by omega) (fun x hx => by have := hs2 x hx; omega) (by omega) (SsAt.after hFs hb) (IsAt.after hIs hb) hp
   rintro e w3 ⟨v, u, rfl, _, _, hb3⟩
   exact ⟨v, u, rfl, hb3⟩
 ·simp only [prB, Bool.and_eq_true, List.all_eq_true] at hp
  obtain ⟨⟨p1, p2⟩, p3⟩ := hp
  obtain ⟨G, rfl, hG⟩ := nums_lift F 9 p1 hs1
  obtain ⟨c, hcc, rfl⟩ := numk hsc p2
  obtain ⟨Z, rfl, hZ⟩ := ints_lift R 40 p3 hs2
  have hg : G.length ≤ 1000 := by simp at hn1; omega
  have hz : Z.length ≤ 1000 := by simp at hn2; omega
  have hG2 : ∀ x ∈ G, x < 256 ^ 128 := fun x hx => Nat.lt_of_lt_of_le (hG x hx) (Nat.pow_le_pow_right (by decide) (by decide))
  have hZ2 : ∀ z ∈ Z, z.natAbs < 256 ^ 64 := fun x hx => Nat.lt_of_lt_of_le (hZ x hx) (Nat.pow_le_pow_right (by decide) (by decide))
  have hc2 : c < 256 ^ 128 := Nat.lt_of_lt_of_le hcc (Nat.pow_le_pow_right (by decide) (by decide))
  have hA := fun w' (hb : Below w.heap.size w w') => verify_num N C K c G Z v1 v2 v3 f rs w' hC hK hm (hS.after hb) hc (fun w2 hb2 => bounds_ok N C K v1 v2 v3 w2 hC hK h2 h3 hv hm (hS.after (bt hb hb2)) hc) (SsAt.after hFs hb) (ZsAt.after hIs hb) hg hG2 hc2 hz hZ2
  have hB := fun w' (hb : Below w.heap.size w w') => rverify_num N C K c G Z v1 v2 v3 f rs w' hC hK hm (hS.after hb) hc (fun w2 hb2 => rbounds_ok N C K v1 v2 v3 w2 hC hK h2 h3 hv hm (hS.after (bt hb hb2)) hc) (SsAt.after hFs hb) (ZsAt.after hIs hb) hg hG2 hc2 hz hZ2
  by_cases h0 : N.ver C K G c Z = 0
  ·rw [h0] at hA hB
   exact .inr ⟨G, c, Z, rfl, rfl, rfl, hG, hcc, hZ, h0, hA, hB⟩
  ·exact .inl ⟨N.ver C K G c Z, h0, hA, hB⟩

/-- what an accepted proof tells -/
theorem ver_inv {N : NSta} {C K c : Nat} {F : List Nat} {Z : List Int} (h : N.ver C K F c Z = 0) : F.length = N.eqs.length ∧ Z.length = N.vars.length ∧ c < C ∧ ra N.vars.length (blJ N C K Z) = true := by
 unfold NSta.ver at h
 split at h
 ·omega
 ·rename_i h1
  split at h
  ·omega
  ·rename_i h2
   split at h
   ·omega
   ·rename_i h3
    refine ⟨by omega, by omega, by omega, by simpa using h3⟩

theorem mod_of_ver {N : NSta} {C K ca cb : Nat} {F G : List Nat} {X Y : List Int} (hm : NOk N) (h1 : N.ver C K F ca X = 0) (h2 : N.ver C K G cb Y = 0) : ModOkR N X Y := by
 obtain ⟨_, l1, _, r1⟩ := ver_inv h1
 obtain ⟨_, l2, _, r2⟩ := ver_inv h2
 intro k h hx hy h0
 have a1 := ra_at r1 h
 have a2 := ra_at r2 h
 rw [blJ_at N C K X k h hx] at a1
 rw [blJ_at N C K Y k h hy] at a2
 rw [h0, blw, lim, if_pos rfl] at a1 a2
 simp only [vz, sg, Bool.and_eq_true, decide_eq_true_eq] at a1 a2
 have hq := ord_lt hm
 refine ⟨by omega, by omega, by omega, ?_, ?_⟩
 ·have := a1.2; simp at this; omega
 ·have := a2.2; simp at this; omega

theorem ModOkR.ok {N : NSta} {X Y : List Int} (h : ModOkR N X Y) : ModOk N X Y := fun k h1 h2 h3 h4 => ⟨(h k h1 h2 h3 h4).1, (h k h1 h2 h3 h4).2.1, (h k h1 h2 h3 h4).2.2.1⟩
end Go.Proofs.YtbcgimgkcdpjcaaGreat
end

section
namespace Go.Proofs.YtbcgimgkcdpjcaaGreat
open Go.RowKit Go.Shelf

theorem up16 {x : Nat} (h : x < 256 ^ 16) : x < 256 ^ 128 := Nat.lt_of_lt_of_le h (Nat.pow_le_pow_right (by decide) (by decide))
theorem up40 {x : Nat} (h : x < 256 ^ 40) : x < 256 ^ 64 := Nat.lt_of_lt_of_le h (Nat.pow_le_pow_right (by decide) (by decide))

/-- the numbers of two accepted proofs with one first message; the first challenge is the greater -/
structure Two (N : NSta) (C K ca cb : Nat) (F : List Nat) (X Y : List Int) : Prop where
 m : NOk N
 c : N.chk = 0
 c8 : C < 256 ^ 8
 k8 : K < 256 ^ 8
 lt : cb < ca
 va : N.ver C K F ca X = 0
 vb : N.ver C K F cb Y = 0
 sx : ∀ z ∈ X, z.natAbs < 256 ^ 40
 sy : ∀ z ∈ Y, z.natAbs < 256 ^ 40
 sf : ∀ x ∈ F, x < 256 ^ 9

/-- the differences on both sides: one error, or the same numbers -/
theorem dif_two (S : Sta) (C K cha chb : ByteArray) (FA FB : List ByteArray) (RA RB : List (Bool × ByteArray)) (s1 s2 s3 xa ya xb yb : Option Addr) (m1 m2 m3 d1 d2 d3 na pa ma qa nb pb mb qb : Nat) (w : World)
  (hC : C.size ≤ 8) (hK : K.size ≤ 8) (hf : fewB S = true) (hS : StAt w (.slice s1 m1 d1) (.slice s2 m2 d2) (.slice s3 m3 d3) S)
  (la1 : FA.length ≤ 9) (la2 : ∀ x ∈ FA, x.size ≤ 9) (la3 : RA.length ≤ 9) (la4 : ∀ x ∈ RA, x.2.size ≤ 40) (la5 : cha.size ≤ 16) (hFa : SsAt w (.slice xa na pa) FA) (hRa : IsAt w (.slice ya ma qa) RA)
  (lb1 : FB.length ≤ 9) (lb2 : ∀ x ∈ FB, x.size ≤ 9) (lb3 : RB.length ≤ 9) (lb4 : ∀ x ∈ RB, x.2.size ≤ 40) (lb5 : chb.size ≤ 16) (hFb : SsAt w (.slice xb nb pb) FB) (hRb : IsAt w (.slice yb mb qb) RB) :
  (∃ k : Nat, k ≠ 0 ∧ (∀ w', Below w.heap.size w w' → Calls Tryz.prog 10 #[.agg #[.string C, .string K], .agg #[.slice s1 m1 d1, .slice s2 m2 d2, .slice s3 m3 d3], .agg #[.slice xa na pa, .string cha, .slice ya ma qa], .agg #[.slice xb nb pb, .string chb, .slice yb mb qb]] w' fun e w'' => e = .returned (.tuple #[.agg #[.bool false, .string { data := #[] }], .slice none 0 0, .int .i64 k]) ∧ Below w'.heap.size w' w'') ∧ (∀ w', Below w.heap.size w w' → Calls Tryz.prog 11 #[.agg #[.string C, .string K], .agg #[.slice s1 m1 d1, .slice s2 m2 d2, .slice s3 m3 d3], .agg #[.slice xa na pa, .string cha, .slice ya ma qa], .agg #[.slice xb nb pb, .string chb, .slice yb mb qb]] w' fun e w'' => e = .returned (.tuple #[.agg #[.bool false, .string { data := #[] }], .slice none 0 0, .int .i64 k]) ∧ Below w'.heap.size w' w'')) ∨
  (∃ (N : NSta) (c k ca cb : Nat) (F : List Nat) (X Y : List Int), S = N.s ∧ C = E c ∧ K = E k ∧ Two N c k ca cb F X Y ∧ (∀ w', Below w.heap.size w w' → Calls Tryz.prog 10 #[.agg #[.string C, .string K], .agg #[.slice s1 m1 d1, .slice s2 m2 d2, .slice s3 m3 d3], .agg #[.slice xa na pa, .string cha, .slice ya ma qa], .agg #[.slice xb nb pb, .string chb, .slice yb mb qb]] w' (DPost w' (ca - cb) (N.difs X Y))) ∧ (∀ w', Below w.heap.size w w' → Calls Tryz.prog 11 #[.agg #[.string C, .string K], .agg #[.slice s1 m1 d1, .slice s2 m2 d2, .slice s3 m3 d3], .agg #[.slice xa na pa, .string cha, .slice ya ma qa], .agg #[.slice xb nb pb, .string chb, .slice yb mb qb]] w' (DPost w' (ca - cb) (N.difs X Y)))) := by
 obtain ⟨k, hk, h1, h2⟩ | ⟨N, c, k, rfl, rfl, hc, hk, rfl, hm, h0, c2, k2, hv⟩ := bnd_two S C K _ _ _ w hC hK hf hS
 ·exact .inl ⟨k, hk, fun w' hb => diff_err1 C K cha chb s1 s2 s3 xa ya xb yb m1 m2 m3 d1 d2 d3 na pa ma qa nb pb mb qb k w' hk (fun w2 hb2 => verify_bnd C K cha _ _ _ _ _ k w2 hk (fun w3 hb3 => h1 w3 (bt hb (bt hb2 hb3)))),
   fun w' hb => rdiff_err1 C K cha chb s1 s2 s3 xa ya xb yb m1 m2 m3 d1 d2 d3 na pa ma qa nb pb mb qb k w' hk (fun w2 hb2 => rverify_bnd C K cha _ _ _ _ _ k w2 hk (fun w3 hb3 => h2 w3 (bt hb (bt hb2 hb3))))⟩
 ·have hN : NAt w (.slice s1 m1 d1) (.slice s2 m2 d2) (.slice s3 m3 d3) N := hS
  obtain ⟨e, he, a1, a2⟩ | ⟨Fa, ca, Xa, rfl, rfl, rfl, hFA, hca, hX, h1, a1, a2⟩ := ver_two N c k cha FA RA _ _ _ _ _ w hc hk hm hN h0 c2 k2 hv la1 la2 la3 la4 la5 hFa hRa
  ·exact .inl ⟨e, he, fun w' hb => diff_err1 (E c) (E k) cha chb s1 s2 s3 xa ya xb yb m1 m2 m3 d1 d2 d3 na pa ma qa nb pb mb qb e w' he (fun w2 hb2 => a1 w2 (bt hb hb2)),
    fun w' hb => rdiff_err1 (E c) (E k) cha chb s1 s2 s3 xa ya xb yb m1 m2 m3 d1 d2 d3 na pa ma qa nb pb mb qb e w' he (fun w2 hb2 => a2 w2 (bt hb hb2))⟩
  ·obtain ⟨e, he, b1', b2'⟩ | ⟨Fb, cb, Xb, rfl, rfl, rfl, hFB, hcb, hY, h2, b1', b2'⟩ := ver_two N c k chb FB RB _ _ _ _ _ w hc hk hm hN h0 c2 k2 hv lb1 lb2 lb3 lb4 lb5 hFb hRb
   ·exact .inl ⟨e, he, fun w' hb => diff_err2 (E c) (E k) (E ca) chb s1 s2 s3 xa ya xb yb m1 m2 m3 d1 d2 d3 na pa ma qa nb pb mb qb e w' he (fun w2 hb2 => a1 w2 (bt hb hb2)) (fun w2 hb2 => b1' w2 (bt hb hb2)),
     fun w' hb => rdiff_err2 (E c) (E k) (E ca) chb s1 s2 s3 xa ya xb yb m1 m2 m3 d1 d2 d3 na pa ma qa nb pb mb qb e w' he (fun w2 hb2 => a2 w2 (bt hb hb2)) (fun w2 hb2 => b2' w2 (bt hb hb2))⟩
   ·by_cases hne : Fa ≠ Fb ∨ ca = cb
    ·exact .inl ⟨1, by decide, fun w' hb => diff_arg N c k ca cb Fa Fb Xa Xb s1 s2 s3 xa ya xb yb m1 m2 m3 d1 d2 d3 na pa ma qa nb pb mb qb w' (hm) (hN.after hb) (SsAt.after hFa hb) (SsAt.after hFb hb) (by simp at la1; omega) (by simp at lb1; omega) (up16 hca) (up16 hcb) (fun w2 hb2 => a1 w2 (bt hb hb2)) (fun w2 hb2 => b1' w2 (bt hb hb2)) hne,
      fun w' hb => rdiff_arg N c k ca cb Fa Fb Xa Xb s1 s2 s3 xa ya xb yb m1 m2 m3 d1 d2 d3 na pa ma qa nb pb mb qb w' (hm) (hN.after hb) (SsAt.after hFa hb) (SsAt.after hFb hb) (by simp at la1; omega) (by simp at lb1; omega) (up16 hca) (up16 hcb) (fun w2 hb2 => a2 w2 (bt hb hb2)) (fun w2 hb2 => b2' w2 (bt hb hb2)) hne⟩
    ·have hfe : Fa = Fb := Classical.byContradiction fun h => hne (.inl h)
     by_cases hlt : cb < ca
     ·refine .inr ⟨N, c, k, ca, cb, Fa, Xa, Xb, rfl, rfl, rfl, ⟨hm, h0, hc, hk, hlt, h1, by rw [hfe]; exact h2, hX, hY, hFA⟩, fun w' hb => ?_, fun w' hb => ?_⟩
      ·exact diff_ok1 N c k ca cb Fa Fb Xa Xb s1 s2 s3 xa ya xb yb m1 m2 m3 d1 d2 d3 na pa ma qa nb pb mb qb w' (hm) (hN.after hb) (SsAt.after hFa hb) (SsAt.after hFb hb) (by simp at la1; omega) (by simp at lb1; omega) (up16 hca) (up16 hcb) (fun w2 hb2 => a1 w2 (bt hb hb2)) (fun w2 hb2 => b1' w2 (bt hb hb2)) (ZsAt.after hRa hb) (ZsAt.after hRb hb) (ver_inv h1).2.1 (ver_inv h2).2.1 (fun z hz => up40 (hX z hz)) (fun z hz => up40 (hY z hz)) (mod_of_ver hm h1 h2).ok hfe hlt
      ·exact rdiff_ok1 N c k ca cb Fa Fb Xa Xb s1 s2 s3 xa ya xb yb m1 m2 m3 d1 d2 d3 na pa ma qa nb pb mb qb w' (hm) (hN.after hb) (SsAt.after hFa hb) (SsAt.after hFb hb) (by simp at la1; omega) (by simp at lb1; omega) (up16 hca) (up16 hcb) (fun w2 hb2 => a2 w2 (bt hb hb2)) (fun w2 hb2 => b2' w2 (bt hb hb2)) (ZsAt.after hRa hb) (ZsAt.after hRb hb) (ver_inv h1).2.1 (ver_inv h2).2.1 (fun z hz => up40 (hX z hz)) (fun z hz => up40 (hY z hz)) (mod_of_ver hm h1 h2) hfe hlt
     ·have hgt : ca < cb := by omega
      refine .inr ⟨N, c, k, cb, ca, Fb, Xb, Xa, rfl, rfl, rfl, ⟨hm, h0, hc, hk, hgt, h2, by rw [← hfe]; exact h1, hY, hX, hFB⟩, fun w' hb => ?_, fun w' hb => ?_⟩
      ·exact diff_ok2 N c k ca cb Fa Fb Xa Xb s1 s2 s3 xa ya xb yb m1 m2 m3 d1 d2 d3 na pa ma qa nb pb mb qb w' (hm) (hN.after hb) (SsAt.after hFa hb) (SsAt.after hFb hb) (by simp at la1; omega) (by simp at lb1; omega) (up16 hca) (up16 hcb) (fun w2 hb2 => a1 w2 (bt hb hb2)) (fun w2 hb2 => b1' w2 (bt hb hb2)) (ZsAt.after hRa hb) (ZsAt.after hRb hb) (ver_inv h1).2.1 (ver_inv h2).2.1 (fun z hz => up40 (hX z hz)) (fun z hz => up40 (hY z hz)) (mod_of_ver hm h2 h1).ok hfe hgt
      ·exact rdiff_ok2 N c k ca cb Fa Fb Xa Xb s1 s2 s3 xa ya xb yb m1 m2 m3 d1 d2 d3 na pa ma qa nb pb mb qb w' (hm) (hN.after hb) (SsAt.after hFa hb) (SsAt.after hFb hb) (by simp at la1; omega) (by simp at lb1; omega) (up16 hca) (up16 hcb) (fun w2 hb2 => a2 w2 (bt hb hb2)) (fun w2 hb2 => b2' w2 (bt hb hb2)) (ZsAt.after hRa hb) (ZsAt.after hRb hb) (ver_inv h1).2.1 (ver_inv h2).2.1 (fun z hz => up40 (hX z hz)) (fun z hz => up40 (hY z hz)) (mod_of_ver hm h2 h1) hfe hgt

/-- the sizes of the differences -/
theorem Two.dif {N : NSta} {C K ca cb : Nat} {F : List Nat} {X Y : List Int} (h : Two N C K ca cb F X Y) :
  (N.difs X Y).length = N.vars.length ∧ (∀ z ∈ N.difs X Y, z.natAbs < 256 ^ 64) ∧ 0 < ca - cb ∧ ca - cb < 256 ^ 8 ∧
  ∀ (k : Nat) (h1 : k < N.vars.length) (h2 : k < (N.difs X Y).length), N.vars[k] = 0 → 0 < N.ord ∧ (N.difs X Y)[k].natAbs < 256 ^ 8 := by
 obtain ⟨_, l1, c1, _⟩ := ver_inv h.va
 obtain ⟨_, l2, _, _⟩ := ver_inv h.vb
 have hmo := mod_of_ver h.m h.va h.vb
 have hq := ord_lt h.m
 have h8 := h.c8
 have hlt := h.lt
 have key : ∀ (j : Nat) (h1 : j < N.vars.length) (hx : j < X.length) (hy : j < Y.length), (difI N.ord N.vars[j] X[j] Y[j]).natAbs < 256 ^ 64 ∧ (N.vars[j] = 0 → 0 < N.ord ∧ (difI N.ord N.vars[j] X[j] Y[j]).natAbs < 256 ^ 8) := by
  intro j h1 hx hy
  unfold difI
  by_cases h0 : N.vars[j] = 0
  ·have := (hmo j h1 hx hy h0).1
   have h3 : subM X[j].natAbs Y[j].natAbs N.ord < N.ord := Nat.mod_lt _ this
   rw [if_pos h0, Int.natAbs_natCast]
   exact ⟨Nat.lt_of_lt_of_le (Nat.lt_trans h3 hq) (by decide), fun _ => ⟨this, Nat.lt_trans h3 hq⟩⟩
  ·rw [if_neg h0]
   have a := h.sx _ (List.getElem_mem hx)
   have b := h.sy _ (List.getElem_mem hy)
   have : (256 : Nat) ^ 40 + 256 ^ 40 ≤ 256 ^ 64 := by decide
   exact ⟨by omega, fun h => absurd h h0⟩
 refine ⟨by rw [NSta.difs, List.length_map, List.length_range], fun z hz => ?_, by omega, by omega, fun k h1 h2 h0 => ?_⟩
 ·obtain ⟨j, hj, rfl⟩ := List.mem_map.1 hz
  have hj := List.mem_range.1 hj
  have := (key j hj (by omega) (by omega)).1
  simpa only [List.getD_eq_getElem?_getD, List.getElem?_eq_getElem hj, List.getElem?_eq_getElem (show j < X.length by omega), List.getElem?_eq_getElem (show j < Y.length by omega), Option.getD_some] using this
 ·have := (key k h1 (by omega) (by omega)).2 h0
  simpa only [NSta.difs, List.getElem_map, List.getElem_range, List.getD_eq_getElem?_getD, List.getElem?_eq_getElem h1, List.getElem?_eq_getElem (show k < X.length by omega), List.getElem?_eq_getElem (show k < Y.length by omega), Option.getD_some] using this
end Go.Proofs.YtbcgimgkcdpjcaaGreat
end

section
namespace Go.Proofs.YtbcgimgkcdpjcaaGreat
open Go.RowKit Go.Shelf

theorem NOk_F {N : NSta} {C K c : Nat} {F : List Nat} {Z : List Int} (hm : NOk N) (h : N.ver C K F c Z = 0) : F.length ≤ 1000 ∧ Z.length ≤ 1000 := by
 obtain ⟨h1, h2, _, _⟩ := ver_inv h
 have := hm.ne; have := hm.nv
 omega

theorem dif_num1 (N : NSta) (C K ca cb : Nat) (F : List Nat) (X Y : List Int) (s1 s2 s3 xa ya xb yb : Option Addr) (m1 m2 m3 d1 d2 d3 na pa ma qa nb pb mb qb : Nat) (w : World)
  (h : Two N C K ca cb F X Y) (g2 : 2 ≤ C) (g3 : 2 ≤ K) (hv : N.vars.any vz = true → C ≤ N.ord) (hS : NAt w (.slice s1 m1 d1) (.slice s2 m2 d2) (.slice s3 m3 d3) N)
  (hFa : SsAt w (.slice xa na pa) (F.map E)) (hFb : SsAt w (.slice xb nb pb) (F.map E)) (hXa : ZsAt w (.slice ya ma qa) X) (hXb : ZsAt w (.slice yb mb qb) Y) :
  Calls Tryz.prog 10 #[.agg #[.string (E C), .string (E K)], .agg #[.slice s1 m1 d1, .slice s2 m2 d2, .slice s3 m3 d3], .agg #[.slice xa na pa, .string (E ca), .slice ya ma qa], .agg #[.slice xb nb pb, .string (E cb), .slice yb mb qb]] w (DPost w (ca - cb) (N.difs X Y)) := by
 have hca : ca < 256 ^ 128 := lt128 (Nat.lt_trans (ver_inv h.va).2.2.1 h.c8)
 have hcb : cb < 256 ^ 128 := lt128 (Nat.lt_trans (ver_inv h.vb).2.2.1 h.c8)
 exact diff_ok1 N C K ca cb F F X Y s1 s2 s3 xa ya xb yb m1 m2 m3 d1 d2 d3 na pa ma qa nb pb mb qb w h.m hS hFa hFb (NOk_F h.m h.va).1 (NOk_F h.m h.va).1 hca hcb
  (fun w2 hb2 => by have h9 := verify_num N C K ca F X _ _ _ _ _ w2 h.c8 h.k8 h.m (hS.after hb2) h.c (fun w3 hb3 => bounds_ok N C K _ _ _ w3 h.c8 h.k8 g2 g3 hv h.m (hS.after (bt hb2 hb3)) h.c) (SsAt.after hFa hb2) (ZsAt.after hXa hb2) (NOk_F h.m h.va).1 (fun x hx => Nat.lt_of_lt_of_le (h.sf x hx) (Nat.pow_le_pow_right (by decide) (by decide))) hca (NOk_F h.m h.va).2 (fun z hz => up40 (h.sx z hz)); rw [h.va] at h9; exact h9)
  (fun w2 hb2 => by have h9 := verify_num N C K cb F Y _ _ _ _ _ w2 h.c8 h.k8 h.m (hS.after hb2) h.c (fun w3 hb3 => bounds_ok N C K _ _ _ w3 h.c8 h.k8 g2 g3 hv h.m (hS.after (bt hb2 hb3)) h.c) (SsAt.after hFb hb2) (ZsAt.after hXb hb2) (NOk_F h.m h.vb).1 (fun x hx => Nat.lt_of_lt_of_le (h.sf x hx) (Nat.pow_le_pow_right (by decide) (by decide))) hcb (NOk_F h.m h.vb).2 (fun z hz => up40 (h.sy z hz)); rw [h.vb] at h9; exact h9)
  hXa hXb (ver_inv h.va).2.1 (ver_inv h.vb).2.1 (fun z hz => up40 (h.sx z hz)) (fun z hz => up40 (h.sy z hz)) (mod_of_ver h.m h.va h.vb).ok rfl h.lt

theorem ext_num1 (N : NSta) (C K ca cb : Nat) (F : List Nat) (X Y : List Int) (s1 s2 s3 xa ya xb yb : Option Addr) (m1 m2 m3 d1 d2 d3 na pa ma qa nb pb mb qb : Nat) (w : World)
  (h : Two N C K ca cb F X Y) (g2 : 2 ≤ C) (g3 : 2 ≤ K) (hv : N.vars.any vz = true → C ≤ N.ord) (hS : NAt w (.slice s1 m1 d1) (.slice s2 m2 d2) (.slice s3 m3 d3) N)
  (hFa : SsAt w (.slice xa na pa) (F.map E)) (hFb : SsAt w (.slice xb nb pb) (F.map E)) (hXa : ZsAt w (.slice ya ma qa) X) (hXb : ZsAt w (.slice yb mb qb) Y) (hq : QuoOk N (N.difs X Y) (ca - cb)) :
  Calls Tryz.prog 13 #[.agg #[.string (E C), .string (E K)], .agg #[.slice s1 m1 d1, .slice s2 m2 d2, .slice s3 m3 d3], .agg #[.slice xa na pa, .string (E ca), .slice ya ma qa], .agg #[.slice xb nb pb, .string (E cb), .slice yb mb qb]] w (XPost w (N.ext (N.difs X Y) (ca - cb))) :=
 extract_c N (N.difs X Y) (ca - cb) _ _ _ _ s1 s2 s3 xa ya xb yb m1 m2 m3 d1 d2 d3 na pa ma qa nb pb mb qb w h.m hS h.c hq fun w' hb => dif_num1 N C K ca cb F X Y s1 s2 s3 xa ya xb yb m1 m2 m3 d1 d2 d3 na pa ma qa nb pb mb qb w' h g2 g3 hv (hS.after hb) (SsAt.after hFa hb) (SsAt.after hFb hb) (ZsAt.after hXa hb) (ZsAt.after hXb hb)

theorem dif_num2 (N : NSta) (C K ca cb : Nat) (F : List Nat) (X Y : List Int) (s1 s2 s3 xa ya xb yb : Option Addr) (m1 m2 m3 d1 d2 d3 na pa ma qa nb pb mb qb : Nat) (w : World)
  (h : Two N C K cb ca F X Y) (g2 : 2 ≤ C) (g3 : 2 ≤ K) (hv : N.vars.any vz = true → C ≤ N.ord) (hS : NAt w (.slice s1 m1 d1) (.slice s2 m2 d2) (.slice s3 m3 d3) N)
  (hFa : SsAt w (.slice xa na pa) (F.map E)) (hFb : SsAt w (.slice xb nb pb) (F.map E)) (hXa : ZsAt w (.slice ya ma qa) Y) (hXb : ZsAt w (.slice yb mb qb) X) :
  Calls Tryz.prog 10 #[.agg #[.string (E C), .string (E K)], .agg #[.slice s1 m1 d1, .slice s2 m2 d2, .slice s3 m3 d3], .agg #[.slice xa na pa, .string (E ca), .slice ya ma qa], .agg #[.slice xb nb pb, .string (E cb), .slice yb mb qb]] w (DPost w (cb - ca) (N.difs X Y)) := by
 have hca : ca < 256 ^ 128 := lt128 (Nat.lt_trans (ver_inv h.vb).2.2.1 h.c8)
 have hcb : cb < 256 ^ 128 := lt128 (Nat.lt_trans (ver_inv h.va).2.2.1 h.c8)
 exact diff_ok2 N C K ca cb F F Y X s1 s2 s3 xa ya xb yb m1 m2 m3 d1 d2 d3 na pa ma qa nb pb mb qb w h.m hS hFa hFb (NOk_F h.m h.va).1 (NOk_F h.m h.va).1 hca hcb
  (fun w2 hb2 => by have h9 := verify_num N C K ca F Y _ _ _ _ _ w2 h.c8 h.k8 h.m (hS.after hb2) h.c (fun w3 hb3 => bounds_ok N C K _ _ _ w3 h.c8 h.k8 g2 g3 hv h.m (hS.after (bt hb2 hb3)) h.c) (SsAt.after hFa hb2) (ZsAt.after hXa hb2) (NOk_F h.m h.vb).1 (fun x hx => Nat.lt_of_lt_of_le (h.sf x hx) (Nat.pow_le_pow_right (by decide) (by decide))) hca (NOk_F h.m h.vb).2 (fun z hz => up40 (h.sy z hz)); rw [h.vb] at h9; exact h9)
  (fun w2 hb2 => by have h9 := verify_num N C K cb F X _ _ _ _ _ w2 h.c8 h.k8 h.m (hS.after hb2) h.c (fun w3 hb3 => bounds_ok N C K _ _ _ w3 h.c8 h.k8 g2 g3 hv h.m (hS.after (bt hb2 hb3)) h.c) (SsAt.after hFb hb2) (ZsAt.after hXb hb2) (NOk_F h.m h.va).1 (fun x hx => Nat.lt_of_lt_of_le (h.sf x hx) (Nat.pow_le_pow_right (by decide) (by decide))) hcb (NOk_F h.m h.va).2 (fun z hz => up40 (h.sx z hz)); rw [h.va] at h9; exact h9)
  hXa hXb (ver_inv h.vb).2.1 (ver_inv h.va).2.1 (fun z hz => up40 (h.sy z hz)) (fun z hz => up40 (h.sx z hz)) (mod_of_ver h.m h.va h.vb).ok rfl h.lt

theorem ext_num2 (N : NSta) (C K ca cb : Nat) (F : List Nat) (X Y : List Int) (s1 s2 s3 xa ya xb yb : Option Addr) (m1 m2 m3 d1 d2 d3 na pa ma qa nb pb mb qb : Nat) (w : World)
  (h : Two N C K cb ca F X Y) (g2 : 2 ≤ C) (g3 : 2 ≤ K) (hv : N.vars.any vz = true → C ≤ N.ord) (hS : NAt w (.slice s1 m1 d1) (.slice s2 m2 d2) (.slice s3 m3 d3) N)
  (hFa : SsAt w (.slice xa na pa) (F.map E)) (hFb : SsAt w (.slice xb nb pb) (F.map E)) (hXa : ZsAt w (.slice ya ma qa) Y) (hXb : ZsAt w (.slice yb mb qb) X) (hq : QuoOk N (N.difs X Y) (cb - ca)) :
  Calls Tryz.prog 13 #[.agg #[.string (E C), .string (E K)], .agg #[.slice s1 m1 d1, .slice s2 m2 d2, .slice s3 m3 d3], .agg #[.slice xa na pa, .string (E ca), .slice ya ma qa], .agg #[.slice xb nb pb, .string (E cb), .slice yb mb qb]] w (XPost w (N.ext (N.difs X Y) (cb - ca))) :=
 extract_c N (N.difs X Y) (cb - ca) _ _ _ _ s1 s2 s3 xa ya xb yb m1 m2 m3 d1 d2 d3 na pa ma qa nb pb mb qb w h.m hS h.c hq fun w' hb => dif_num2 N C K ca cb F X Y s1 s2 s3 xa ya xb yb m1 m2 m3 d1 d2 d3 na pa ma qa nb pb mb qb w' h g2 g3 hv (hS.after hb) (SsAt.after hFa hb) (SsAt.after hFb hb) (ZsAt.after hXa hb) (ZsAt.after hXb hb)

/-- the quotients of small differences -/
theorem quo_small {N : NSta} {C K ca cb : Nat} {F : List Nat} {X Y : List Int} (h : Two N C K ca cb F X Y) (hs : ∀ z ∈ N.difs X Y, z.natAbs < 256 ^ 8) : QuoOk N (N.difs X Y) (ca - cb) := by
 obtain ⟨h1, h2, h3, h4, h5⟩ := h.dif
 exact ⟨h1, h2, h3, h4, h5, fun k hk hk2 _ w => divmod_c _ _ w (hs _ (List.getElem_mem hk2)) (lt128 h4) h3⟩

/-- the example of the chapter -/
def exN (t : Nat) : NSta := ⟨[(77, 0)], [2], [⟨0, t, [⟨4, 0, 1⟩]⟩]⟩
theorem exN_ok (t : Nat) (h : t < 256 ^ 9) : NOk (exN t) where
 ng := by simp [exN]
 nv := by simp [exN]
 ne := by simp [exN]
 g := by intro x hx; simp [exN] at hx; subst hx; decide
 v := by intro x hx; simp [exN] at hx; subst hx; decide
 e := by
  intro x hx; simp [exN] at hx; subst hx
  refine ⟨by simp [exN], h, by simp, fun t ht => ?_⟩
  simp at ht; subst ht
  refine ⟨by decide, by simp [exN], by decide⟩
theorem ex_two1 : Two (exN 16) 3 2 2 0 [4] [5] [1] := ⟨exN_ok 16 (by decide), by decide +kernel, by decide, by decide, by decide, by decide +kernel, by decide +kernel, by decide, by decide, by decide⟩
theorem ex_two2 : Two (exN 73) 3 2 2 0 [1] [2] [0] := ⟨exN_ok 73 (by decide), by decide +kernel, by decide, by decide, by decide, by decide +kernel, by decide +kernel, by decide, by decide, by decide⟩
theorem ex_two3 : Two (exN 2) 3 2 2 0 [1] [1] [0] := ⟨exN_ok 2 (by decide), by decide +kernel, by decide, by decide, by decide, by decide +kernel, by decide +kernel, by decide, by decide, by decide⟩
theorem ex_dif1 : (exN 16).difs [5] [1] = [4] := by decide +kernel
theorem ex_dif2 : (exN 73).difs [2] [0] = [2] := by decide +kernel
theorem ex_dif3 : (exN 2).difs [1] [0] = [1] := by decide +kernel
theorem ex_ext1 : (exN 16).ext [4] 2 = some [2] := by decide +kernel
theorem ex_ext2 : (exN 73).ext [2] 2 = none := by decide +kernel
theorem ex_ext3 : (exN 2).ext [1] 2 = none := by decide +kernel
end Go.Proofs.YtbcgimgkcdpjcaaGreat
end

section
namespace Go.Proofs.YtbcgimgkcdpjcaaGreat
open Go.RowKit Go.Shelf

/-- a row of one element -/
theorem row1 {α : Type} {Q : World → α → List Value → Prop} {size : Nat} {w : World} {b : Nat} {T : TypeId} {cs : List Value} {x : α} (h : Blk w b T cs) (hq : Q w x cs) : RAt Q size w (.slice (some ⟨b, 0, none⟩) 1 1) [x] := by
 refine ⟨_, _, rfl, .inr ⟨b, 0, rfl, h.lt, fun j hj => ⟨cs, ?_, fun i _ => ?_⟩⟩⟩
 ·obtain rfl : j = 0 := by simpa using hj
  exact hq
 ·obtain rfl : j = 0 := by simpa using hj
  rw [show 0 + 0 * size + i = i by omega]; exact h.cell i

theorem ofV_c (n : Nat) (z : Int) (w : World) (hz : z = (n : Int)) (h : n < 256 ^ 8) :
  Calls Tryz.prog 25 #[.int .u64 z] w fun e w' => e = .returned (.string (E n)) ∧ Below w.heap.size w w' := by
 rw [hz]; exact of_c n w h

/-- what proof returns -/
def PrPost (w : World) (f c : Nat) (r : Int) (e : Ending) (w' : World) : Prop :=
 ∃ v u, e = .returned (.agg #[v, .string (E c), u]) ∧ SsAt w' v [E f] ∧ ZsAt w' u [r] ∧ Below w.heap.size w w'

set_option maxHeartbeats 1600000 in
theorem proof_c (f c : Nat) (r zf zc : Int) (w : World) (hf : zf = (f : Int)) (hc : zc = (c : Int)) (h1 : f < 256 ^ 8) (h2 : c < 256 ^ 8) (h3 : -9223372036854775808 ≤ r) (h4 : r ≤ 9223372036854775807) :
  Calls Tryz.prog 27 #[.int .u64 zf, .int .u64 zc, .int .i64 r] w (PrPost w f c r) := by
 have H1 := Lib.hid (fun w => ofV_c f zf w hf h1)
 have H2 := Lib.hid (fun w => ofV_c c zc w hc h2)
 have H3 := Lib.hid (fun w => iof_c r w h3 h4)
 clear hf hc h1 h2 h3 h4
 have hR := Blk.new w #[.slice none 0 0, .string { data := #[] }, .slice none 0 0] 33
 have hBW := b1 w (.cells #[.slice none 0 0, .string { data := #[] }, .slice none 0 0] 33)
 go_enter Tryz.func27, Tryz.ntmps27
 go_wp2_with fail
 refine (H1.out _).mono ?_
 rintro e wa ⟨rfl, hba⟩
 have HLA : Hid (w.heap.size < wa.heap.size) := (hR.after hba).lt
 replace hR := (hR.after hba).alloc (.cells #[.string (E f)] 22)
 replace hBW := ba (bt hBW hba) (.cells #[.string (E f)] 22)
 have hF := Blk.new wa #[.string (E f)] 22
 go_wp2_with fail
 refine (H2.out _).mono ?_
 rintro e wb ⟨rfl, hbb⟩
 replace hR := hR.after hbb
 replace hBW := bt hBW hbb
 replace hF := hF.after hbb
 clear hba hbb
 go_wp2_with fail
 refine (H3.out _).mono ?_
 rintro e wc ⟨rfl, hbc⟩
 replace hR := (hR.after hbc).alloc (.cells #[.bool (sg r), .string (E r.natAbs)] 39)
 replace hBW := ba (bt hBW hbc) (.cells #[.bool (sg r), .string (E r.natAbs)] 39)
 have hlc : Hid (wa.heap.size < wc.heap.size ∧ w.heap.size < wa.heap.size) := ⟨(hF.after hbc).lt, HLA.out⟩
 replace hF := (hF.after hbc).alloc (.cells #[.bool (sg r), .string (E r.natAbs)] 39)
 have hZ := Blk.new wc #[.bool (sg r), .string (E r.natAbs)] 39
 clear hbc
 have hRc0 := hR.cell 0
 have hRf0 := hR.free 0
 have hRc1 := hR.cell 1
 have hRf1 := hR.free 1
 have hRc2 := hR.cell 2
 have hRf2 := hR.free 2
 have hne1 : wa.heap.size ≠ w.heap.size := by have := HLA.out; omega
 have hne2 : wc.heap.size ≠ w.heap.size := by
  have := hF.lt
  have h8 := hlc.out
  omega
 go_wp2
 clear hRc0 hRf0 hRc1 hRf1 hRc2 hRf2
 have hR0 := ((hR.set 0 (.slice (some ⟨wa.heap.size, 0, none⟩) 1 1)).set 1 (.string (E c))).set 2 (.slice (some ⟨wc.heap.size, 0, none⟩) 1 1)
 have c0 := hR0.cell 0
 have c1 := hR0.cell 1
 have c2 := hR0.cell 2
 refine bodyPost_ret (v := .agg #[.slice (some ⟨wa.heap.size, 0, none⟩) 1 1, .string (E c), .slice (some ⟨wc.heap.size, 0, none⟩) 1 1]) ?_ rfl ⟨_, _, rfl, ?_, ?_, ?_⟩
 ·simp at c0 c1 c2
  simp [results, Tryz.results27, go_sem, c0, c1, c2]
 ·exact row1 (((hF.other _ _ hne1).other _ _ hne1).other _ _ hne1) rfl
 ·exact row1 (((hZ.other _ _ hne2).other _ _ hne2).other _ _ hne2) rfl
 ·exact ((hBW.setCell (Nat.le_refl _) _).setCell (Nat.le_refl _) _).setCell (Nat.le_refl _) _
end Go.Proofs.YtbcgimgkcdpjcaaGreat
end

section
namespace Go.Proofs.YtbcgimgkcdpjcaaGreat
open Go.RowKit Go.Shelf

/-- what example returns -/
def SPost (w : World) (N : NSta) (e : Ending) (w' : World) : Prop :=
 ∃ v1 v2 v3, e = .returned (.agg #[v1, v2, v3]) ∧ NAt w' v1 v2 v3 N ∧ Below w.heap.size w w'

set_option maxHeartbeats 3200000 in
theorem example_c (t : Nat) (zt : Int) (w : World) (ht : zt = (t : Int)) (h1 : t < 256 ^ 8) :
  Calls Tryz.prog 26 #[.int .u64 zt] w (SPost w (exN t)) := by
 have H0 := Lib.hid (fun w => ofV_c t zt w ht h1)
 have H1 := Lib.hid (fun w => ofV_c 4 4 w rfl (by decide))
 have H2 := Lib.hid (fun w => iof_c 1 w (by decide) (by decide))
 have H3 := Lib.hid (fun w => ofV_c 77 77 w rfl (by decide))
 have H4 := Lib.hid (fun w => ofV_c 2 2 w rfl (by decide))
 clear ht h1
 have hR := Blk.new w #[.slice none 0 0, .slice none 0 0, .slice none 0 0] 29
 have hBW := b1 w (.cells #[.slice none 0 0, .slice none 0 0, .slice none 0 0] 29)
 go_enter Tryz.func26, Tryz.ntmps26
 go_wp2_with fail
 refine (H1.out _).mono ?_
 rintro e wa ⟨rfl, hb⟩
 replace hR := hR.after hb
 replace hBW := bt hBW hb
 clear hb
 go_wp2_with fail
 refine (H2.out _).mono ?_
 rintro e wb ⟨rfl, hb⟩
 have HL1 : Hid (w.heap.size < wb.heap.size) := (hR.after hb).lt
 replace hR := (hR.after hb).alloc (.cells #[.string (E 4), .int .i64 0, .bool (sg 1), .string (E (1 : Int).natAbs)] 112)
 replace hBW := ba (bt hBW hb) (.cells #[.string (E 4), .int .i64 0, .bool (sg 1), .string (E (1 : Int).natAbs)] 112)
 clear hb
 have hT := Blk.new wb #[.string (E 4), .int .i64 0, .bool (sg 1), .string (E (1 : Int).natAbs)] 112
 go_wp2_with fail
 refine (H3.out _).mono ?_
 rintro e wc ⟨rfl, hb⟩
 have HL2 : Hid (wb.heap.size < wc.heap.size) := (hT.after hb).lt
 replace hR := (hR.after hb).alloc (.cells #[.string (E 77), .string { data := #[] }] 59)
 replace hBW := ba (bt hBW hb) (.cells #[.string (E 77), .string { data := #[] }] 59)
 replace hT := (hT.after hb).alloc (.cells #[.string (E 77), .string { data := #[] }] 59)
 clear hb
 have hG := Blk.new wc #[.string (E 77), .string { data := #[] }] 59
 go_wp2_with fail
 refine (H4.out _).mono ?_
 rintro e wd ⟨rfl, hb⟩
 have HL3 : Hid (wc.heap.size < wd.heap.size) := (hG.after hb).lt
 replace hR := (hR.after hb).alloc (.cells #[.string (E 2)] 67)
 replace hBW := ba (bt hBW hb) (.cells #[.string (E 2)] 67)
 replace hT := (hT.after hb).alloc (.cells #[.string (E 2)] 67)
 replace hG := (hG.after hb).alloc (.cells #[.string (E 2)] 67)
 clear hb
 have hV := Blk.new wd #[.string (E 2)] 67
 go_wp2_with fail
 refine (H0.out _).mono ?_
 rintro e we ⟨rfl, hb⟩
 have HL4 : Hid (wd.heap.size < we.heap.size) := (hV.after hb).lt
 replace hR := (hR.after hb).alloc (.cells #[.int .i64 0, .string (E t), .slice (some ⟨wb.heap.size, 0, none⟩) 1 1] 55)
 replace hBW := ba (bt hBW hb) (.cells #[.int .i64 0, .string (E t), .slice (some ⟨wb.heap.size, 0, none⟩) 1 1] 55)
 replace hT := (hT.after hb).alloc (.cells #[.int .i64 0, .string (E t), .slice (some ⟨wb.heap.size, 0, none⟩) 1 1] 55)
 replace hG := (hG.after hb).alloc (.cells #[.int .i64 0, .string (E t), .slice (some ⟨wb.heap.size, 0, none⟩) 1 1] 55)
 replace hV := (hV.after hb).alloc (.cells #[.int .i64 0, .string (E t), .slice (some ⟨wb.heap.size, 0, none⟩) 1 1] 55)
 clear hb
 have hQ := Blk.new we #[.int .i64 0, .string (E t), .slice (some ⟨wb.heap.size, 0, none⟩) 1 1] 55
 have hRc0 := hR.cell 0
 have hRf0 := hR.free 0
 have hRc1 := hR.cell 1
 have hRf1 := hR.free 1
 have hRc2 := hR.cell 2
 have hRf2 := hR.free 2
 go_wp2
 clear hRc0 hRf0 hRc1 hRf1 hRc2 hRf2
 have hR0 := ((hR.set 0 (.slice (some ⟨wc.heap.size, 0, none⟩) 1 1)).set 1 (.slice (some ⟨wd.heap.size, 0, none⟩) 1 1)).set 2 (.slice (some ⟨we.heap.size, 0, none⟩) 1 1)
 have c0 := hR0.cell 0
 have c1 := hR0.cell 1
 have c2 := hR0.cell 2
 have n1 : wb.heap.size ≠ w.heap.size := by have := HL1.out; omega
 have n2 : wc.heap.size ≠ w.heap.size := by have := HL1.out; have := HL2.out; omega
 have n3 : wd.heap.size ≠ w.heap.size := by have := HL1.out; have := HL2.out; have := HL3.out; omega
 have n4 : we.heap.size ≠ w.heap.size := by have := HL1.out; have := HL2.out; have := HL3.out; have := HL4.out; omega
 refine bodyPost_ret (v := .agg #[.slice (some ⟨wc.heap.size, 0, none⟩) 1 1, .slice (some ⟨wd.heap.size, 0, none⟩) 1 1, .slice (some ⟨we.heap.size, 0, none⟩) 1 1]) ?_ rfl ⟨_, _, _, rfl, StAt.mk ?_ ?_ ?_, ?_⟩
 ·simp at c0 c1 c2
  simp [results, Tryz.results26, go_sem, c0, c1, c2]
 ·exact row1 (((hG.other _ _ n2).other _ _ n2).other _ _ n2) rfl
 ·exact row1 (((hV.other _ _ n3).other _ _ n3).other _ _ n3) rfl
 ·exact row1 (((hQ.other _ _ n4).other _ _ n4).other _ _ n4) ⟨_, rfl, row1 (((hT.other _ _ n1).other _ _ n1).other _ _ n1) rfl⟩
 ·exact ((hBW.setCell (Nat.le_refl _) _).setCell (Nat.le_refl _) _).setCell (Nat.le_refl _) _
end Go.Proofs.YtbcgimgkcdpjcaaGreat
end
