import Derived.Test.YtehoiholhkfcpaaGreatSm4
section
set_option linter.unusedVariables false
set_option linter.unusedSimpArgs false
set_option maxRecDepth 100000
namespace Go.Proofs.YtehoiholhkfcpaaGreat
open Go.RowKit Go.Shelf

set_option maxHeartbeats 400000 in
theorem fix17_c (b : Bool) (n : Nat) (z : Int) (w : World) (hm : (E n).size ≤ 4611686018427387904) (hz : z = if b then -(n : Int) else (n : Int)) :
  Calls Tryz.prog 91 #[.bool b, .string (E n)] w fun e w' => e = .returned (.agg #[.bool (sg (z)), .string (E (z).natAbs)]) ∧ Below w.heap.size w w' := by
 have H := made_val b n
 rw [← hz] at H
 have HM := Lib.hid H
 clear H hz
 cases b
 all_goals
  go_enter Tryz.func91, Tryz.ntmps91
  go_wp2
  refine bodyPost_ret (v := .agg #[.bool (sg (z)), .string (E (z).natAbs)]) (by rw [← HM.out]; simp [results, Tryz.results91, go_sem]) rfl ⟨rfl, b1 _ _⟩

set_option maxHeartbeats 400000 in
theorem neg17_c (z : Int) (w : World) (hz : z.natAbs < 256 ^ 128) :
  Calls Tryz.prog 43 #[.agg #[.bool (sg (z)), .string (E (z).natAbs)]] w fun e w' => e = .returned (.agg #[.bool (sg (-z)), .string (E (-z).natAbs)]) ∧ Below w.heap.size w w' := by
 have hs := szI z hz
 clear hz
 have hA := blk2a w #[Value.bool (sg z), Value.string (E z.natAbs)] #[Value.bool false, Value.string { data := #[] }] 53 53
 have hB := blk2b w #[Value.bool (sg z), Value.string (E z.natAbs)] #[Value.bool false, Value.string { data := #[] }] 53 53
 have HM := Lib.hid (neg_made z)
 obtain ⟨hAc0, hAf0, hAc1, hAf1⟩ := hA.x2
 go_enter Tryz.func43, Tryz.ntmps43
 go_wp2_with fail
 refine (fix17_c (!sg z) z.natAbs (-z) _ (by omega) HM.out).mono ?_
 rintro e w2 ⟨rfl, hb2⟩
 replace hB := hB.after hb2
 obtain ⟨hBc0, hBf0, hBc1, hBf1⟩ := hB.x2
 go_wp2
 refine bodyPost_ret (v := .agg #[.bool (sg (-z)), .string (E (-z).natAbs)]) ?_ rfl ⟨rfl, ?_⟩
 ·simp [results, Tryz.results43, go_sem, hBc0, hBc1]
 ·exact ((bt (b2 _ _ _) hb2).setCell (by simp) _).setCell (by simp) _

theorem neg17S_c (z : Int) (w : World) (hz : z.natAbs < 256 ^ 128) :
  Calls Tryz.prog 43 #[.agg #[.bool (sg (z)), .string (E (z).natAbs)]] w fun e w' => e = .returned (.agg #[.bool (sg (-z)), .string (E z.natAbs)]) ∧ Below w.heap.size w w' := by
 have := neg17_c z w hz
 rwa [Int.natAbs_neg] at this

set_option maxHeartbeats 800000 in
theorem times17_c (x y : Int) (w : World) (hx : x.natAbs < 256 ^ 128) (hy : y.natAbs < 256 ^ 128) :
  Calls Tryz.prog 44 #[.agg #[.bool (sg (x)), .string (E (x).natAbs)], .agg #[.bool (sg (y)), .string (E (y).natAbs)]] w fun e w' => e = .returned (.agg #[.bool (sg (x * y)), .string (E (x * y).natAbs)]) ∧ Below w.heap.size w w' := by
 have HT : Hid (∀ w, Calls Tryz.prog 60 #[.string (E x.natAbs), .string (E y.natAbs)] w fun e w' => e = .returned (.string (E (x.natAbs * y.natAbs))) ∧ Below w.heap.size w w') := fun w => rtimes_c _ _ w (by have := sz _ hx; omega) (by have := sz _ hy; omega)
 have hxy : (E (x.natAbs * y.natAbs)).size ≤ 256 := (E_size_le _ 256).2 (by have := Nat.mul_lt_mul'' hx hy; rwa [← Nat.pow_add] at this)
 have HF : Hid (∀ w, Calls Tryz.prog 91 #[.bool (sg x != sg y), .string (E (x.natAbs * y.natAbs))] w fun e w' => e = .returned (.agg #[.bool (sg (x * y)), .string (E (x * y).natAbs)]) ∧ Below w.heap.size w w') := fun w => fix17_c (sg x != sg y) (x.natAbs * y.natAbs) (x * y) w (by omega) (mul_made x y)
 generalize x.natAbs * y.natAbs = n at HT HF
 generalize hz : x * y = z at HF ⊢
 clear hx hy hxy hz
 have hA := blk3a w #[Value.bool (sg x), Value.string (E x.natAbs)] #[Value.bool (sg y), Value.string (E y.natAbs)] #[Value.bool false, Value.string { data := #[] }] 53 53 53
 have hB := blk3b w #[Value.bool (sg x), Value.string (E x.natAbs)] #[Value.bool (sg y), Value.string (E y.natAbs)] #[Value.bool false, Value.string { data := #[] }] 53 53 53
 have hC := blk3c w #[Value.bool (sg x), Value.string (E x.natAbs)] #[Value.bool (sg y), Value.string (E y.natAbs)] #[Value.bool false, Value.string { data := #[] }] 53 53 53
 have hBW := b3 w (.cells #[Value.bool (sg x), Value.string (E x.natAbs)] 53) (.cells #[Value.bool (sg y), Value.string (E y.natAbs)] 53) (.cells #[Value.bool false, Value.string { data := #[] }] 53)
 go_enter Tryz.func44, Tryz.ntmps44
 have hAl := hA.lt
 have hBl := hB.lt
 obtain ⟨hAc0, hAf0, hAc1, hAf1⟩ := hA.x2
 obtain ⟨hBc0, hBf0, hBc1, hBf1⟩ := hB.x2
 have hAg0 := hA.gcell 0
 have hAg1 := hA.gcell 1
 have hBg0 := hB.gcell 0
 have hBg1 := hB.gcell 1
 go_wp2_with fail
 refine wp_region_gw_tail 11 (by kernel_rfl) (by kernel_rfl) ?_
 simp only [List.take_succ_cons, List.take_zero, List.drop_succ_cons, List.drop_zero]
 repeat (go_big_quiet_step (first | (go_at_call 60; exact gw_of (HT.out _)) | (go_at_call 91; exact gw_of (HF.out _))))
 refine wpQuiet_nil ?_
 rintro w9 ⟨xw9, rfl⟩
 have hb9 := gw_below xw9
 generalize gw xw9 = w9 at hb9
 clear hAc0 hAf0 hAc1 hAf1
 clear hBc0 hBf0 hBc1 hBf1
 clear hAg0 hAg1
 clear hBg0 hBg1
 have hC9 := hC.after hb9
 obtain ⟨hC9c0, hC9f0, hC9c1, hC9f1⟩ := hC9.x2
 go_wp2
 refine bodyPost_ret (v := .agg #[.bool (sg (z)), .string (E (z).natAbs)]) ?_ rfl ⟨rfl, ?_⟩
 ·simp [results, Tryz.results44, go_sem, hC9c0, hC9c1]
 ·exact ((bt hBW hb9).setCell (by simp; omega) _).setCell (by simp; omega) _

set_option maxHeartbeats 800000 in
theorem plus17_same (x y : Int) (w : World) (hx : x.natAbs < 256 ^ 128) (hy : y.natAbs < 256 ^ 128) (hq : sg x = sg y) :
  Calls Tryz.prog 42 #[.agg #[.bool (sg (x)), .string (E (x).natAbs)], .agg #[.bool (sg (y)), .string (E (y).natAbs)]] w fun e w' => e = .returned (.agg #[.bool (sg (x + y)), .string (E (x + y).natAbs)]) ∧ Below w.heap.size w w' := by
 have HT : Hid (∀ w, Calls Tryz.prog 92 #[.string (E x.natAbs), .string (E y.natAbs)] w fun e w' => e = .returned (.string (E (x.natAbs + y.natAbs))) ∧ Below w.heap.size w w') := fun w => rplus_c _ _ w (by have := sz _ hx; omega) (by have := sz _ hy; omega)
 have hxy : (E (x.natAbs + y.natAbs)).size ≤ 129 := (E_size_le _ 129).2 (by
  have : (256 : Nat) ^ 128 + 256 ^ 128 ≤ 256 ^ 129 := by decide
  omega)
 have HF : Hid (∀ w, Calls Tryz.prog 91 #[.bool (sg x), .string (E (x.natAbs + y.natAbs))] w fun e w' => e = .returned (.agg #[.bool (sg (x + y)), .string (E (x + y).natAbs)]) ∧ Below w.heap.size w w') := fun w => fix17_c (sg x) (x.natAbs + y.natAbs) (x + y) w (by omega) (add_made_same x y hq)
 have hqb : (sg x == sg y) = true := by rw [hq]; simp
 generalize x.natAbs + y.natAbs = n at HT HF
 generalize hz : x + y = z at HF ⊢
 clear hx hy hxy hz hq
 have hA := blk3a w #[Value.bool (sg x), Value.string (E x.natAbs)] #[Value.bool (sg y), Value.string (E y.natAbs)] #[Value.bool false, Value.string { data := #[] }] 53 53 53
 have hB := blk3b w #[Value.bool (sg x), Value.string (E x.natAbs)] #[Value.bool (sg y), Value.string (E y.natAbs)] #[Value.bool false, Value.string { data := #[] }] 53 53 53
 have hC := blk3c w #[Value.bool (sg x), Value.string (E x.natAbs)] #[Value.bool (sg y), Value.string (E y.natAbs)] #[Value.bool false, Value.string { data := #[] }] 53 53 53
 have hBW := b3 w (.cells #[Value.bool (sg x), Value.string (E x.natAbs)] 53) (.cells #[Value.bool (sg y), Value.string (E y.natAbs)] 53) (.cells #[Value.bool false, Value.string { data := #[] }] 53)
 go_enter Tryz.func42, Tryz.ntmps42
 have hAl := hA.lt
 have hBl := hB.lt
 obtain ⟨hAc0, hAf0, hAc1, hAf1⟩ := hA.x2
 obtain ⟨hBc0, hBf0, hBc1, hBf1⟩ := hB.x2
 have hAg0 := hA.gcell 0
 have hAg1 := hA.gcell 1
 have hBg0 := hB.gcell 0
 have hBg1 := hB.gcell 1
 go_upto_region 2 with fail
 go_wp2_with fail
 refine wp_region_gw_tail 8 (by kernel_rfl) (by kernel_rfl) ?_
 simp only [List.take_succ_cons, List.take_zero, List.drop_succ_cons, List.drop_zero]
 repeat (go_big_quiet_step (first | (go_at_call 92; exact gw_of (HT.out _)) | (go_at_call 91; exact gw_of (HF.out _))))
 refine wpQuiet_nil ?_
 rintro w9 ⟨xw9, rfl⟩
 have hb9 := gw_below xw9
 generalize gw xw9 = w9 at hb9
 clear hAc0 hAf0 hAc1 hAf1
 clear hBc0 hBf0 hBc1 hBf1
 clear hAg0 hAg1
 clear hBg0 hBg1
 have hC9 := hC.after hb9
 obtain ⟨hC9c0, hC9f0, hC9c1, hC9f1⟩ := hC9.x2
 go_wp2
 refine bodyPost_ret (v := .agg #[.bool (sg (z)), .string (E (z).natAbs)]) ?_ rfl ⟨rfl, ?_⟩
 ·simp [results, Tryz.results42, go_sem, hC9c0, hC9c1]
 ·exact ((bt hBW hb9).setCell (by simp; omega) _).setCell (by simp; omega) _

set_option maxHeartbeats 800000 in
theorem plus17_ge (x y : Int) (w : World) (hx : x.natAbs < 256 ^ 128) (hy : y.natAbs < 256 ^ 128) (hq : sg x ≠ sg y) (hg : y.natAbs ≤ x.natAbs) :
  Calls Tryz.prog 42 #[.agg #[.bool (sg (x)), .string (E (x).natAbs)], .agg #[.bool (sg (y)), .string (E (y).natAbs)]] w fun e w' => e = .returned (.agg #[.bool (sg (x + y)), .string (E (x + y).natAbs)]) ∧ Below w.heap.size w w' := by
 have HO : Hid (∀ w, Calls Tryz.prog 29 #[.string (E x.natAbs), .string (E y.natAbs)] w fun e w' => e = .returned (.int .i64 (cmpN x.natAbs y.natAbs)) ∧ Below w.heap.size w w') := fun w => rorder_c _ _ w (by have := sz _ hx; omega) (by have := sz _ hy; omega)
 have HT : Hid (∀ w, Calls Tryz.prog 48 #[.string (E x.natAbs), .string (E y.natAbs)] w fun e w' => e = .returned (.string (E (x.natAbs - y.natAbs))) ∧ Below w.heap.size w w') := fun w => rminus_c _ _ w (by have := sz _ hx; omega) (by omega)
 have hxy : (E (x.natAbs - y.natAbs)).size ≤ 128 := sz _ (Nat.lt_of_le_of_lt (Nat.sub_le _ _) hx)
 have HF : Hid (∀ w, Calls Tryz.prog 91 #[.bool (sg x), .string (E (x.natAbs - y.natAbs))] w fun e w' => e = .returned (.agg #[.bool (sg (x + y)), .string (E (x + y).natAbs)]) ∧ Below w.heap.size w w') := fun w => fix17_c (sg x) (x.natAbs - y.natAbs) (x + y) w (by omega) (add_made_ge x y hq hg)
 have hqb : (sg x == sg y) = false := by rw [beq_eq_false_iff_ne]; exact hq
 obtain ⟨q1, hq1⟩ : ∃ q : Int, q = cmpN x.natAbs y.natAbs := ⟨_, rfl⟩
 rw [← hq1] at HO
 have hd1 : decide (0 ≤ q1) = true := by rw [hq1]; exact decide_eq_true (by have := cmp_nneg x.natAbs y.natAbs hg; omega)
 generalize x.natAbs - y.natAbs = n at HT HF
 generalize hz : x + y = z at HF ⊢
 clear hx hy hxy hz hq hg hq1
 have hA := blk3a w #[Value.bool (sg x), Value.string (E x.natAbs)] #[Value.bool (sg y), Value.string (E y.natAbs)] #[Value.bool false, Value.string { data := #[] }] 53 53 53
 have hB := blk3b w #[Value.bool (sg x), Value.string (E x.natAbs)] #[Value.bool (sg y), Value.string (E y.natAbs)] #[Value.bool false, Value.string { data := #[] }] 53 53 53
 have hC := blk3c w #[Value.bool (sg x), Value.string (E x.natAbs)] #[Value.bool (sg y), Value.string (E y.natAbs)] #[Value.bool false, Value.string { data := #[] }] 53 53 53
 have hBW := b3 w (.cells #[Value.bool (sg x), Value.string (E x.natAbs)] 53) (.cells #[Value.bool (sg y), Value.string (E y.natAbs)] 53) (.cells #[Value.bool false, Value.string { data := #[] }] 53)
 obtain ⟨hAc0, hAf0, hAc1, hAf1⟩ := hA.x2
 obtain ⟨hBc0, hBf0, hBc1, hBf1⟩ := hB.x2
 go_enter Tryz.func42, Tryz.ntmps42
 go_wp2_with fail
 refine (HO.out _).mono ?_
 rintro e w2 ⟨rfl, hb2⟩
 clear hAc0 hAf0 hAc1 hAf1
 clear hBc0 hBf0 hBc1 hBf1
 replace hA := hA.after hb2
 replace hB := hB.after hb2
 replace hC := hC.after hb2
 replace hBW := bt hBW hb2
 clear hb2
 have hAl := hA.lt
 have hBl := hB.lt
 obtain ⟨hAc0, hAf0, hAc1, hAf1⟩ := hA.x2
 obtain ⟨hBc0, hBf0, hBc1, hBf1⟩ := hB.x2
 have hAg0 := hA.gcell 0
 have hAg1 := hA.gcell 1
 have hBg0 := hB.gcell 0
 have hBg1 := hB.gcell 1
 go_upto_region 4 with fail
 go_wp2_with fail
 refine wp_region_gw_tail 8 (by kernel_rfl) (by kernel_rfl) ?_
 simp only [List.take_succ_cons, List.take_zero, List.drop_succ_cons, List.drop_zero]
 repeat (go_big_quiet_step (first | (go_at_call 48; exact gw_of (HT.out _)) | (go_at_call 91; exact gw_of (HF.out _))))
 refine wpQuiet_nil ?_
 rintro w9 ⟨xw9, rfl⟩
 have hb9 := gw_below xw9
 generalize gw xw9 = w9 at hb9
 clear hAc0 hAf0 hAc1 hAf1
 clear hBc0 hBf0 hBc1 hBf1
 clear hAg0 hAg1
 clear hBg0 hBg1
 have hC9 := hC.after hb9
 obtain ⟨hC9c0, hC9f0, hC9c1, hC9f1⟩ := hC9.x2
 go_wp2
 refine bodyPost_ret (v := .agg #[.bool (sg (z)), .string (E (z).natAbs)]) ?_ rfl ⟨rfl, ?_⟩
 ·simp [results, Tryz.results42, go_sem, hC9c0, hC9c1]
 ·exact ((bt hBW hb9).setCell (by simp; omega) _).setCell (by simp; omega) _

set_option maxHeartbeats 800000 in
theorem plus17_lt (x y : Int) (w : World) (hx : x.natAbs < 256 ^ 128) (hy : y.natAbs < 256 ^ 128) (hq : sg x ≠ sg y) (hg : x.natAbs < y.natAbs) :
  Calls Tryz.prog 42 #[.agg #[.bool (sg (x)), .string (E (x).natAbs)], .agg #[.bool (sg (y)), .string (E (y).natAbs)]] w fun e w' => e = .returned (.agg #[.bool (sg (x + y)), .string (E (x + y).natAbs)]) ∧ Below w.heap.size w w' := by
 have HO : Hid (∀ w, Calls Tryz.prog 29 #[.string (E x.natAbs), .string (E y.natAbs)] w fun e w' => e = .returned (.int .i64 (cmpN x.natAbs y.natAbs)) ∧ Below w.heap.size w w') := fun w => rorder_c _ _ w (by have := sz _ hx; omega) (by have := sz _ hy; omega)
 have HT : Hid (∀ w, Calls Tryz.prog 48 #[.string (E y.natAbs), .string (E x.natAbs)] w fun e w' => e = .returned (.string (E (y.natAbs - x.natAbs))) ∧ Below w.heap.size w w') := fun w => rminus_c _ _ w (by have := sz _ hy; omega) (by omega)
 have hxy : (E (y.natAbs - x.natAbs)).size ≤ 128 := sz _ (Nat.lt_of_le_of_lt (Nat.sub_le _ _) hy)
 have HF : Hid (∀ w, Calls Tryz.prog 91 #[.bool (sg y), .string (E (y.natAbs - x.natAbs))] w fun e w' => e = .returned (.agg #[.bool (sg (x + y)), .string (E (x + y).natAbs)]) ∧ Below w.heap.size w w') := fun w => fix17_c (sg y) (y.natAbs - x.natAbs) (x + y) w (by omega) (add_made_lt x y hq hg)
 have hqb : (sg x == sg y) = false := by rw [beq_eq_false_iff_ne]; exact hq
 obtain ⟨q1, hq1⟩ : ∃ q : Int, q = cmpN x.natAbs y.natAbs := ⟨_, rfl⟩
 rw [← hq1] at HO
 have hd1 : decide (0 ≤ q1) = false := by rw [hq1]; exact decide_eq_false (by have := cmp_neg x.natAbs y.natAbs hg; omega)
 generalize y.natAbs - x.natAbs = n at HT HF
 generalize hz : x + y = z at HF ⊢
 clear hx hy hxy hz hq hg hq1
 have hA := blk3a w #[Value.bool (sg x), Value.string (E x.natAbs)] #[Value.bool (sg y), Value.string (E y.natAbs)] #[Value.bool false, Value.string { data := #[] }] 53 53 53
 have hB := blk3b w #[Value.bool (sg x), Value.string (E x.natAbs)] #[Value.bool (sg y), Value.string (E y.natAbs)] #[Value.bool false, Value.string { data := #[] }] 53 53 53
 have hC := blk3c w #[Value.bool (sg x), Value.string (E x.natAbs)] #[Value.bool (sg y), Value.string (E y.natAbs)] #[Value.bool false, Value.string { data := #[] }] 53 53 53
 have hBW := b3 w (.cells #[Value.bool (sg x), Value.string (E x.natAbs)] 53) (.cells #[Value.bool (sg y), Value.string (E y.natAbs)] 53) (.cells #[Value.bool false, Value.string { data := #[] }] 53)
 obtain ⟨hAc0, hAf0, hAc1, hAf1⟩ := hA.x2
 obtain ⟨hBc0, hBf0, hBc1, hBf1⟩ := hB.x2
 go_enter Tryz.func42, Tryz.ntmps42
 go_wp2_with fail
 refine (HO.out _).mono ?_
 rintro e w2 ⟨rfl, hb2⟩
 clear hAc0 hAf0 hAc1 hAf1
 clear hBc0 hBf0 hBc1 hBf1
 replace hA := hA.after hb2
 replace hB := hB.after hb2
 replace hC := hC.after hb2
 replace hBW := bt hBW hb2
 clear hb2
 have hAl := hA.lt
 have hBl := hB.lt
 obtain ⟨hAc0, hAf0, hAc1, hAf1⟩ := hA.x2
 obtain ⟨hBc0, hBf0, hBc1, hBf1⟩ := hB.x2
 have hAg0 := hA.gcell 0
 have hAg1 := hA.gcell 1
 have hBg0 := hB.gcell 0
 have hBg1 := hB.gcell 1
 go_upto_region 5 with fail
 go_wp2_with fail
 refine wp_region_gw_tail 8 (by kernel_rfl) (by kernel_rfl) ?_
 simp only [List.take_succ_cons, List.take_zero, List.drop_succ_cons, List.drop_zero]
 repeat (go_big_quiet_step (first | (go_at_call 48; exact gw_of (HT.out _)) | (go_at_call 91; exact gw_of (HF.out _))))
 refine wpQuiet_nil ?_
 rintro w9 ⟨xw9, rfl⟩
 have hb9 := gw_below xw9
 generalize gw xw9 = w9 at hb9
 clear hAc0 hAf0 hAc1 hAf1
 clear hBc0 hBf0 hBc1 hBf1
 clear hAg0 hAg1
 clear hBg0 hBg1
 have hC9 := hC.after hb9
 obtain ⟨hC9c0, hC9f0, hC9c1, hC9f1⟩ := hC9.x2
 go_wp2
 refine bodyPost_ret (v := .agg #[.bool (sg (z)), .string (E (z).natAbs)]) ?_ rfl ⟨rfl, ?_⟩
 ·simp [results, Tryz.results42, go_sem, hC9c0, hC9c1]
 ·exact ((bt hBW hb9).setCell (by simp; omega) _).setCell (by simp; omega) _

theorem plus17_c (x y : Int) (w : World) (hx : x.natAbs < 256 ^ 128) (hy : y.natAbs < 256 ^ 128) :
  Calls Tryz.prog 42 #[.agg #[.bool (sg (x)), .string (E (x).natAbs)], .agg #[.bool (sg (y)), .string (E (y).natAbs)]] w fun e w' => e = .returned (.agg #[.bool (sg (x + y)), .string (E (x + y).natAbs)]) ∧ Below w.heap.size w w' := by
 by_cases hq : sg x = sg y
 ·exact plus17_same x y w hx hy hq
 ·by_cases hg : y.natAbs ≤ x.natAbs
  ·exact plus17_ge x y w hx hy hq hg
  ·exact plus17_lt x y w hx hy hq (by omega)

theorem emod_ng17 {z : Int} {m : Nat} (h0 : 0 < m) (hz : z < 0) : (z % (m : Int)).toNat = if z.natAbs % m = 0 then 0 else m - z.natAbs % m := by
 have e : z = -((z.natAbs : Nat) : Int) := by omega
 have h1 := Nat.mod_lt z.natAbs h0
 have h2 := Nat.div_add_mod z.natAbs m
 generalize z.natAbs = n at e h1 h2
 subst e
 by_cases hr : n % m = 0
 ·rw [if_pos hr]
  have : (-(n : Int)) % (m : Int) = 0 := by
   rw [Int.neg_emod]
   split
   ·rfl
   ·rename_i h
    exfalso
    apply h
    exact Int.ofNat_dvd.2 (Nat.dvd_of_mod_eq_zero hr)
  rw [this]; rfl
 ·rw [if_neg hr]
  have : (-(n : Int)) % (m : Int) = (m : Int) - ((n % m : Nat) : Int) := by
   rw [Int.neg_emod]
   split
   ·rename_i h
    exact absurd (Nat.mod_eq_zero_of_dvd (Int.ofNat_dvd.1 h)) hr
   ·simp
  rw [this]; omega

set_option maxHeartbeats 800000 in
theorem modulo17_c (z : Int) (m : Nat) (w : World) (hz : z.natAbs < 256 ^ 128) (hm : m < 256 ^ 128) (h0 : 0 < m) :
  Calls Tryz.prog 45 #[.agg #[.bool (sg (z)), .string (E (z).natAbs)], .string (E m)] w fun e w' => e = .returned (.string (E (z % (m : Int)).toNat)) ∧ Below w.heap.size w w' := by
 have HO : Hid (∀ w, Calls Tryz.prog 93 #[.string (E z.natAbs), .string (E m)] w fun e w' => e = .returned (.tuple #[.string (E (z.natAbs / m)), .string (E (z.natAbs % m))]) ∧ Below w.heap.size w w') := fun w => rover_c _ _ w h0 (by have := sz _ hz; omega) (by have := sz _ hm; omega)
 have HMI : Hid (∀ w, Calls Tryz.prog 48 #[.string (E m), .string (E (z.natAbs % m))] w fun e w' => e = .returned (.string (E (m - z.natAbs % m))) ∧ Below w.heap.size w w') := fun w => rminus_c _ _ w (by have := sz _ hm; omega) (Nat.le_of_lt (Nat.mod_lt _ h0))
 have hA := Blk.new w #[Value.bool (sg z), Value.string (E z.natAbs)] 53
 have hBW := b1 w (.cells #[Value.bool (sg z), Value.string (E z.natAbs)] 53)
 obtain ⟨r, hr⟩ : ∃ r, r = z.natAbs % m := ⟨_, rfl⟩
 rw [← hr] at HO HMI
 by_cases hneg : z < 0
 ·have HV := Lib.hid (emod_ng17 h0 hneg)
  have hsg := sg_of_neg hneg
  rw [hsg] at hA hBW
  by_cases hr0 : r = 0
  ·have HW : Hid ((z % (m : Int)).toNat = 0) := by rw [Hid, HV.out, if_pos (by rw [← hr]; exact hr0)]
   have hzr := zE hr0
   rw [HW.out]
   subst hr0
   clear hz hm h0 hr hneg HV HW
   obtain ⟨hAc0, hAf0, hAc1, hAf1⟩ := hA.x2
   go_enter Tryz.func45, Tryz.ntmps45
   go_wp2_with fail
   refine (HO.out _).mono ?_
   rintro e w2 ⟨rfl, hb2⟩
   clear hAc0 hAf0 hAc1 hAf1
   have hA2 := hA.after hb2
   obtain ⟨hA2c0, hA2f0, hA2c1, hA2f1⟩ := hA2.x2
   go_wp2
   go_ret
   exact ⟨rfl, bt hBW hb2⟩
  ·have HW : Hid ((z % (m : Int)).toNat = m - r) := by rw [Hid, HV.out, if_neg (by rw [← hr]; exact hr0), hr]
   have hzr := nzE (Nat.pos_of_ne_zero hr0)
   rw [HW.out]
   clear hz hm h0 hr hneg HV HW hr0
   generalize m - r = mr at HMI
   obtain ⟨hAc0, hAf0, hAc1, hAf1⟩ := hA.x2
   go_enter Tryz.func45, Tryz.ntmps45
   go_wp2_with fail
   refine (HO.out _).mono ?_
   rintro e w2 ⟨rfl, hb2⟩
   clear hAc0 hAf0 hAc1 hAf1
   have hA2 := hA.after hb2
   obtain ⟨hA2c0, hA2f0, hA2c1, hA2f1⟩ := hA2.x2
   go_wp2_with fail
   refine (HMI.out _).mono ?_
   rintro e w3 ⟨rfl, hb3⟩
   go_wp2
   go_ret
   exact ⟨rfl, bt (bt hBW hb2) hb3⟩
 ·have HW : Hid ((z % (m : Int)).toNat = r) := by
   rw [Hid, hr]
   have e : z = ((z.natAbs : Nat) : Int) := by omega
   conv => lhs; rw [e]
   rw [← Int.natCast_emod, Int.toNat_natCast]
  have hsg : sg z = false := sg_of_nonneg (by omega)
  rw [hsg] at hA hBW
  rw [HW.out]
  clear hz hm h0 hr hneg HW
  obtain ⟨hAc0, hAf0, hAc1, hAf1⟩ := hA.x2
  go_enter Tryz.func45, Tryz.ntmps45
  go_wp2_with fail
  refine (HO.out _).mono ?_
  rintro e w2 ⟨rfl, hb2⟩
  clear hAc0 hAf0 hAc1 hAf1
  have hA2 := hA.after hb2
  obtain ⟨hA2c0, hA2f0, hA2c1, hA2f1⟩ := hA2.x2
  go_wp2
  go_ret
  exact ⟨rfl, bt hBW hb2⟩

set_option maxHeartbeats 1600000 in
theorem forms_c (l : List (Bool × ByteArray)) (v : Value) (w : World) (hn : l.length ≤ 1000) (hs : ∀ x ∈ l, x.2.size ≤ 1000) (hR : IsAt w v l) :
  Calls Tryz.prog 28 #[v] w fun e w' => e = .returned (.bool (ivsB l)) ∧ Below w.heap.size w w' := by
 have HVA : Hid (∀ k (h : k < l.length) (w : World), Calls Tryz.prog 61 #[.agg #[.bool (l[k]'h).1, .string (l[k]'h).2]] w fun e w' => e = .returned (.bool (ivB (l[k]'h).1 (l[k]'h).2)) ∧ Below w.heap.size w w') := fun k h w => rivalid_c _ _ w (by have := hs _ (List.getElem_mem h); omega)
 obtain ⟨r, hr⟩ : ∃ r : Bool, r = ivsB l := ⟨_, rfl⟩
 have HRES := Lib.hid hr
 rw [← hr]
 obtain ⟨ao, c, rfl⟩ := RAt.form hR
 obtain ⟨n, hn'⟩ : ∃ n, n = l.length := ⟨_, rfl⟩
 have HN := Lib.hid hn'
 rw [← hn'] at hR hn ⊢
 clear hn' hr hs
 go_enter Tryz.func28, Tryz.ntmps28
 go_wp2
 go_loopw [3] (fun i wr => ∃ k : Nat, k ≤ n ∧ i = .int .i64 k ∧ Hid (∀ j (h : j < l.length), j < k → ivB (l[j]'h).1 (l[j]'h).2 = true) ∧ Below w.heap.size w wr) (fun i _ => n - (intOf i).toNat)
 case atStart => exact ⟨0, by omega, rfl, fun j _ h => absurd h (Nat.not_lt_zero _), Below.refl _ _⟩
 case round =>
  obtain ⟨k, hk, rfl, HA, hbr⟩ := hrel
  obtain ⟨wp, hwp⟩ : ∃ wp, wp = wr := ⟨_, rfl⟩
  subst hwp
  have hR1 := IsAt.after hR hbr
  by_cases hlt : k < n
  ·have hkl : k < l.length := by rw [← HN.out]; exact hlt
   obtain ⟨b, o, rfl, hbl, x1, x2⟩ := IsAt.at_ hR1 hkl
   have HV := Lib.hid (HVA.out k hkl)
   have HX : Hid (ivB (l[k]'hkl).1 (l[k]'hkl).2 = true → ∀ j (h : j < l.length), j < k + 1 → ivB (l[j]'h).1 (l[j]'h).2 = true) := fun hv j h hj => by
    by_cases e : j = k
    ·subst e; exact hv
    ·exact HA.out j h (by omega)
   have HF : Hid (ivB (l[k]'hkl).1 (l[k]'hkl).2 = false → ivsB l = false) := fun hv => by
    cases h : ivsB l
    ·rfl
    ·unfold ivsB at h
     rw [List.all_eq_true] at h
     rw [h _ (List.getElem_mem hkl)] at hv
     cases hv
   generalize ivB (l[k]'hkl).1 (l[k]'hkl).2 = bl at HV HX HF
   generalize (l[k]'hkl) = x at x1 x2 HV
   obtain ⟨y1, y2⟩ := x
   simp only [] at x1 x2 HV
   have h0k : (0 : Int) ≤ (k : Int) := by omega
   have h1k : (k : Int) < (n : Int) := by omega
   cases bl
   ·have HFF : Hid (r = false) := by rw [Hid, HRES.out]; exact HF.out rfl
    go_wp2_with fail
    refine (HV.out _).mono ?_
    rintro e w2 ⟨rfl, hb2⟩
    go_wp2
    go_ret
    rw [HFF.out]
    exact ⟨rfl, bt hbr hb2⟩
   ·have HX2 := Lib.hid (HX.out rfl)
    clear HX
    go_wp2_with fail
    refine (HV.out _).mono ?_
    rintro e w2 ⟨rfl, hb2⟩
    go_wp2
    go_roundw
    case rel => exact ⟨k + 1, by omega, by go_num, HX2, bt hbr hb2⟩
    case measure => simp [intOf]; omega
  ·have HT : Hid (r = true) := by
    rw [Hid, HRES.out]
    unfold ivsB
    rw [List.all_eq_true]
    intro x hx
    obtain ⟨j, hj, rfl⟩ := List.mem_iff_getElem.1 hx
    exact HA.out j hj (by rw [← HN.out] at hj; omega)
   go_wp2
   go_ret
   rw [HT.out]
   exact ⟨rfl, hbr⟩

set_option maxHeartbeats 1600000 in
theorem within_c (N : NSta) (k bd : Nat) (z : Int) (v1 v2 v3 : Value) (w : World) (hm : NOk N) (hS : NAt w v1 v2 v3 N) (hk : k < N.vars.length) (hb : bd < 256 ^ 128) (hz : z.natAbs < 256 ^ 128) :
  Calls Tryz.prog 30 #[.agg #[v1, v2, v3], .int .i64 (k : Int), .agg #[.bool (sg (z)), .string (E (z).natAbs)], .string (E bd)] w fun e w' => e = .returned (.bool (blw N.vars[k] z bd)) ∧ Below w.heap.size w w' := by
 have HC : Hid (∀ w, Calls Tryz.prog 29 #[.string (E z.natAbs), .string (E bd)] w fun e w' => e = .returned (.int .i64 (cmpN z.natAbs bd)) ∧ Below w.heap.size w w') := fun w => rorder_c _ _ w (by have := sz _ hz; omega) (by have := sz _ hb; omega)
 obtain ⟨a1, c1, a2, c2, a3, c3, rfl, rfl, rfl⟩ := hS.forms
 obtain ⟨n1, hn1⟩ : ∃ n, n = N.grps.length := ⟨_, rfl⟩
 obtain ⟨n2, hn2⟩ : ∃ n, n = N.vars.length := ⟨_, rfl⟩
 obtain ⟨n3, hn3⟩ : ∃ n, n = N.eqs.length := ⟨_, rfl⟩
 have l2 : n2 ≤ 12 := by rw [hn2]; exact hm.nv
 have hkn : k < n2 := by rw [hn2]; exact hk
 rw [← hn1, ← hn2, ← hn3] at hS ⊢
 obtain ⟨bv, ov, rfl, hbv, x1⟩ := hS.vat hk
 have hA := blk2a w #[.slice a1 n1 c1, .slice (some ⟨bv, ov, none⟩) n2 c2, .slice a3 n3 c3] #[.bool (sg z), .string (E z.natAbs)] 29 53
 have hB := blk2b w #[.slice a1 n1 c1, .slice (some ⟨bv, ov, none⟩) n2 c2, .slice a3 n3 c3] #[.bool (sg z), .string (E z.natAbs)] 29 53
 have hBW := b2 w (.cells #[.slice a1 n1 c1, .slice (some ⟨bv, ov, none⟩) n2 c2, .slice a3 n3 c3] 29) (.cells #[.bool (sg z), .string (E z.natAbs)] 53)
 have y1 := (hBW.cell (p := ⟨bv, ov + k, none⟩) hbv).trans x1
 have hbv2 := Nat.lt_of_lt_of_le hbv hBW.size
 obtain ⟨q1, hq1⟩ : ∃ q : Int, q = cmpN z.natAbs bd := ⟨_, rfl⟩
 rw [← hq1] at HC
 generalize (N.vars[k]'hk) = vb at y1 x1 ⊢
 have h0k : (0 : Int) ≤ (k : Int) := by omega
 have h1k : (k : Int) < (n2 : Int) := by omega
 clear hS hm hn1 hn2 hn3 x1 hbv hk hkn
 by_cases hl : z.natAbs < bd
 ·have hd1 : decide (q1 < 0) = true := decide_eq_true (by rw [hq1]; exact cmp_neg _ _ hl)
  clear hq1
  by_cases hv : vb = 0
  ·have HR : Hid (blw vb z bd = !(sg z)) := by rw [Hid, hv]; exact blw_zero hl
   have hzv := zE hv
   rw [HR.out]
   obtain ⟨s, hs⟩ : ∃ s, s = sg z := ⟨_, rfl⟩
   rw [← hs] at hA hB hBW y1 hbv2 ⊢
   clear hl hb hz hv HR hs
   obtain ⟨hAc0, hAf0, hAc1, hAf1, hAc2, hAf2⟩ := hA.x3
   obtain ⟨hBc0, hBf0, hBc1, hBf1⟩ := hB.x2
   go_enter Tryz.func30, Tryz.ntmps30
   go_wp2_with fail
   refine (HC.out _).mono ?_
   rintro e w2 ⟨rfl, hb2⟩
   clear hAc0 hAf0 hAc1 hAf1 hAc2 hAf2
   clear hBc0 hBf0 hBc1 hBf1
   have hA2 := hA.after hb2
   have hB2 := hB.after hb2
   have y2 := (hb2.cell (p := ⟨bv, ov + k, none⟩) hbv2).trans y1
   clear y1
   cases s
   all_goals
    obtain ⟨hA2c0, hA2f0, hA2c1, hA2f1, hA2c2, hA2f2⟩ := hA2.x3
    obtain ⟨hB2c0, hB2f0, hB2c1, hB2f1⟩ := hB2.x2
    go_wp2
    go_ret
    exact ⟨rfl, bt hBW hb2⟩
  ·have HR : Hid (blw vb z bd = true) := blw_pos hl (Nat.pos_of_ne_zero hv)
   have hzv := nzE (Nat.pos_of_ne_zero hv)
   rw [HR.out]
   clear hl hb hz hv HR
   obtain ⟨hAc0, hAf0, hAc1, hAf1, hAc2, hAf2⟩ := hA.x3
   obtain ⟨hBc0, hBf0, hBc1, hBf1⟩ := hB.x2
   go_enter Tryz.func30, Tryz.ntmps30
   go_wp2_with fail
   refine (HC.out _).mono ?_
   rintro e w2 ⟨rfl, hb2⟩
   clear hAc0 hAf0 hAc1 hAf1 hAc2 hAf2
   clear hBc0 hBf0 hBc1 hBf1
   have hA2 := hA.after hb2
   have hB2 := hB.after hb2
   have y2 := (hb2.cell (p := ⟨bv, ov + k, none⟩) hbv2).trans y1
   clear y1
   obtain ⟨hA2c0, hA2f0, hA2c1, hA2f1, hA2c2, hA2f2⟩ := hA2.x3
   obtain ⟨hB2c0, hB2f0, hB2c1, hB2f1⟩ := hB2.x2
   go_wp2
   go_ret
   exact ⟨rfl, bt hBW hb2⟩
 ·have hd1 : decide (q1 < 0) = false := decide_eq_false (by rw [hq1]; exact cmp_nneg _ _ (by omega))
  have HR : Hid (blw vb z bd = false) := blw_ge (by omega)
  rw [HR.out]
  clear hq1 hl hb hz HR
  obtain ⟨hAc0, hAf0, hAc1, hAf1, hAc2, hAf2⟩ := hA.x3
  obtain ⟨hBc0, hBf0, hBc1, hBf1⟩ := hB.x2
  go_enter Tryz.func30, Tryz.ntmps30
  go_wp2_with fail
  refine (HC.out _).mono ?_
  rintro e w2 ⟨rfl, hb2⟩
  go_wp2
  go_ret
  exact ⟨rfl, bt hBW hb2⟩

end Go.Proofs.YtehoiholhkfcpaaGreat
end

section
set_option linter.unusedVariables false
set_option linter.unusedSimpArgs false
set_option maxRecDepth 100000
namespace Go.Proofs.YtehoiholhkfcpaaGreat
open Go.RowKit Go.Shelf

structure FRel (w1 : World) (k : Nat) (L : List Nat) (Z : List Int) (v6 v7 : Value) (wr : World) : Prop where
 a : NOwn wr w1.heap.size v6 L
 z : ZOwn wr w1.heap.size v7 Z
 la : L.length = k
 lz : Z.length = k
 b : Below w1.heap.size w1 wr

theorem FRel.after {w1 : World} {k : Nat} {L : List Nat} {Z : List Int} {v6 v7 : Value} {wr wx : World} (h : FRel w1 k L Z v6 v7 wr) (hb : Below wr.heap.size wr wx) : FRel w1 k L Z v6 v7 wx :=
 ⟨own_after h.a hb, own_after h.z hb, h.la, h.lz, bt h.b hb⟩
theorem msgB_step (q : NEqn) (k : Nat) (h : k < q.trms.length) : (msgB q).take (k + 1 + 1) = (msgB q).take (k + 1) ++ [(q.trms[k]).base] := by
 unfold msgB
 rw [List.take_succ_cons, List.take_succ_cons, imgB_step q k h]; rfl
theorem msgX_step (c : Nat) (Z : List Int) (q : NEqn) (k : Nat) (h : k < q.trms.length) : (msgX c Z q).take (k + 1 + 1) = (msgX c Z q).take (k + 1) ++ [(q.trms[k]).coef * Z.getD (q.trms[k]).var 0] := by
 unfold msgX
 rw [List.take_succ_cons, List.take_succ_cons, imgX_step Z q k h]; rfl

set_option maxHeartbeats 8000000 in
theorem rfirst17_c (N : NSta) (c : Nat) (Z : List Int) (v1 v2 v3 v4 : Value) (w : World) (hm : NOk N) (hS : NAt w v1 v2 v3 N) (hZ : ZsAt w v4 Z) (hz : ∀ z ∈ Z, z.natAbs < 256 ^ 64) (hl : Z.length = N.vars.length) (hc : N.chk = 0) (hcc : c < 256 ^ 128) :
  Calls Tryz.prog 31 #[.agg #[v1, v2, v3], .string (E c), v4] w fun e w' => ∃ v, e = .returned v ∧ NOwn w' w.heap.size v (N.msgs c Z) ∧ Below w.heap.size w w' := by
 obtain ⟨i0, hi0, hz00, hz01, hz02⟩ := info_parts info_nat
 obtain ⟨i1, hi1, hz10, hz11, hz12⟩ := info_parts info_Int
 have HI0 := Lib.hid hi0
 have HA0 := Lib.hid hz00
 have HB0 := Lib.hid hz01
 have HC0 := Lib.hid hz02
 have HI1 := Lib.hid hi1
 have HA1 := Lib.hid hz10
 have HB1 := Lib.hid hz11
 have HC1 := Lib.hid hz12
 clear hi0 hz00 hz01 hz02 hi1 hz10 hz11 hz12
 obtain ⟨a4, c4, rfl⟩ := hZ.form
 have HZZ := Lib.hid hz
 have HL := Lib.hid hl
 have HCK := Lib.hid hc
 have HCC := Lib.hid hcc
 obtain ⟨sn, hsn⟩ : ∃ s, s = sg (-(c : Int)) := ⟨_, rfl⟩
 have HNE : Hid (∀ w, Calls Tryz.prog 43 #[.agg #[.bool false, .string (E c)]] w fun e w' => e = .returned (.agg #[.bool sn, .string (E c)]) ∧ Below w.heap.size w w') := fun w => by
  have h := neg17S_c (c : Int) w (by rw [Int.natAbs_natCast]; exact hcc)
  rw [Int.natAbs_natCast, sg_nat] at h
  rw [hsn]; exact h
 have HSN := Lib.hid hsn
 rw [hl] at hZ ⊢
 clear hz hl hc hcc hsn
 obtain ⟨a1, c1, a2, c2, a3, c3, rfl, rfl, rfl⟩ := hS.forms
 obtain ⟨n1, hn1⟩ : ∃ n, n = N.grps.length := ⟨_, rfl⟩
 obtain ⟨n2, hn2⟩ : ∃ n, n = N.vars.length := ⟨_, rfl⟩
 obtain ⟨n3, hn3⟩ : ∃ n, n = N.eqs.length := ⟨_, rfl⟩
 have HN1 := Lib.hid hn1
 have HN2 := Lib.hid hn2
 have HN3 := Lib.hid hn3
 have l1 : n1 ≤ 10 := by rw [hn1]; exact hm.ng
 have l2 : n2 ≤ 12 := by rw [hn2]; exact hm.nv
 have l3 : n3 ≤ 12 := by rw [hn3]; exact hm.ne
 have HM := Lib.hid hm
 rw [← hn1, ← hn2, ← hn3] at hS ⊢
 clear hm hn1 hn2 hn3
 rw [← HN2.out] at hZ
 have hP := Blk.new w #[.slice a1 n1 c1, .slice a2 n2 c2, .slice a3 n3 c3] 29
 have hBW := b1 w (.cells #[.slice a1 n1 c1, .slice a2 n2 c2, .slice a3 n3 c3] 29)
 replace hS := hS.after hBW
 replace hZ := hZ.after (b1 w (.cells #[.slice a1 n1 c1, .slice a2 n2 c2, .slice a3 n3 c3] 29))
 obtain ⟨hPc0, hPf0, hPc1, hPf1, hPc2, hPf2⟩ := hP.x3
 go_enter Tryz.func31, Tryz.ntmps31
 go_wp2
 clear hPc0 hPf0 hPc1 hPf1 hPc2 hPf2
 generalize w.alloc (.cells #[.slice a1 n1 c1, .slice a2 n2 c2, .slice a3 n3 c3] 29) = w1 at hP hBW hS hZ
 replace hP : Blk w1 w.heap.size 29 [.slice a1 n1 c1, .slice a2 n2 c2, .slice a3 n3 c3] := hP
 go_loopw [7, 8] (fun v7 i wr => ∃ k : Nat, k ≤ n3 ∧ i = .int .i64 k ∧ NOwn wr w1.heap.size v7 ((N.msgs c Z).take k) ∧ Below w1.heap.size w1 wr) (fun _ i _ => n3 - (intOf i).toNat)
 case atStart => exact ⟨0, by omega, rfl, World.ownsRow_nil _ _ _ _, Below.refl _ _⟩
 case round =>
  obtain ⟨k, hk, rfl, hO, hbr⟩ := hrel
  obtain ⟨wp, hwp⟩ : ∃ wp, wp = wr := ⟨_, rfl⟩
  subst hwp
  have hS1 := hS.after hbr
  have hP1 := hP.after hbr
  have hZ1 := hZ.after hbr
  have hBW1 := bt hBW hbr
  have hPl := hP1.lt
  by_cases hlt : k < n3
  ·have hkl : k < N.eqs.length := by rw [← HN3.out]; exact hlt
   have HSZ := Lib.hid (HM.out.e _ (List.getElem_mem hkl))
   have HCE := Lib.hid (chk_elem HCK.out k hkl HSZ.out.1)
   have HXL := Lib.hid (msgX_lt HM.out c Z HCC.out HZZ.out _ (List.getElem_mem hkl))
   have HST := Lib.hid (msgs_step N c Z k hkl)
   obtain ⟨b, o, tv, rfl, hbl, x1, x2, x3, hTs⟩ := hS1.eat hkl
   generalize (N.eqs[k]'hkl) = q at x1 x2 x3 hTs HSZ HCE HXL HST
   have hgl := HSZ.out.1
   have hgn : q.grp < n1 := by rw [HN1.out]; exact hgl
   have HGP := Lib.hid (gp_at N q hgl)
   have HGZ := Lib.hid (HM.out.g _ (List.getElem_mem hgl))
   have HIV : Hid (msgQ N c Z q = pw (prs (N.grps[q.grp]'hgl).1 (msgB q) (msgX c Z q)) 0 % (N.grps[q.grp]'hgl).1) := by rw [Hid, msgQ, HGP.out]
   obtain ⟨bg, og_, rfl, hbg, y1, y2⟩ := hS1.gat hgl
   generalize (N.grps[q.grp]'hgl) = gg at y1 y2 HGZ HCE HIV
   clear hgl HGP
   obtain ⟨p, qq⟩ := gg
   simp only [] at y1 y2
   obtain ⟨to_, tc, rfl⟩ := hTs.form
   obtain ⟨n4, hn4⟩ : ∃ n, n = q.trms.length := ⟨_, rfl⟩
   have HN4 := Lib.hid hn4
   rw [← hn4] at x3 hTs
   clear hn4
   obtain ⟨qg, hqg⟩ : ∃ g, g = q.grp := ⟨_, rfl⟩
   obtain ⟨qt, hqt⟩ : ∃ g, g = q.tgt := ⟨_, rfl⟩
   rw [← hqg] at x1 y1 y2 hgn
   have HQT := Lib.hid hqt
   rw [← hqt] at x2
   clear hqg hqt
   have l4 : n4 ≤ 12 := by rw [HN4.out]; exact HSZ.out.2.2.1
   have h0k : (0 : Int) ≤ (k : Int) := by omega
   have h1k : (k : Int) < (n3 : Int) := by omega
   have h0g : (0 : Int) ≤ (qg : Int) := by omega
   have h1g : (qg : Int) < (n1 : Int) := by omega
   have hQ := Blk.new wp #[.int .i64 (qg : Int), .string (E qt), .slice to_ n4 tc] 95
   have hb8 := b1 wp (.cells #[.int .i64 (qg : Int), .string (E qt), .slice to_ n4 tc] 95)
   obtain ⟨hP1c0, hP1f0, hP1c1, hP1f1, hP1c2, hP1f2⟩ := hP1.x3
   go_upto_region 6 with fail
   clear hP1c0 hP1f0 hP1c1 hP1f1 hP1c2 hP1f2
   have hP2 := hP1.after hb8
   have hT2 := hTs.after hb8
   have hZ2 := hZ1.after hb8
   have hO2 := own_after hO hb8
   have hbr2 := bt hbr hb8
   have z1 := (hb8.cell (p := ⟨bg, og_ + qg * 2, none⟩) hbg).trans y1
   have z2 := (hb8.cell (p := ⟨bg, og_ + qg * 2 + 1, none⟩) hbg).trans y2
   have hbg2 := Nat.lt_of_lt_of_le hbg hb8.size
   clear hS1 hP1 hZ1 hO hbr hTs y1 y2 x1 x2 x3 hbl hbg hPl
   generalize wp.alloc (.cells #[.int .i64 (qg : Int), .string (E qt), .slice to_ n4 tc] 95) = wi at hQ hb8 hP2 hT2 hZ2 hO2 hbr2 z1 z2 hbg2 ⊢
   obtain ⟨g8, hg8⟩ : ∃ g, wp.heap.size = g := ⟨_, rfl⟩
   rw [hg8] at hQ ⊢
   replace hQ : Blk wi g8 95 [.int .i64 (qg : Int), .string (E qt), .slice to_ n4 tc] := hQ
   clear hg8 hb8
   have hR1 := World.ownsRow_lit (base := wi.heap.size) (e := 22) (size := 1) wi #[.string (E qt)] 1 (Nat.le_refl _) (by decide) rfl
   have hbL := b1 wi (.cells #[.string (E qt)] 22)
   have hQl0 := hQ.lt
   obtain ⟨hQc0, hQf0, hQc1, hQf1, hQc2, hQf2⟩ := hQ.x3
   go_wp2_with fail
   refine (HNE.out _).mono ?_
   rintro e wn ⟨rfl, hbn⟩
   clear hQc0 hQf0 hQc1 hQf1 hQc2 hQf2
   have hbN := bt hbL hbn
   have hR2 := own_after hR1 hbn
   have hR3 := own_after hR2 (b1 wn (.cells #[.bool sn, .string (E c)] 53))
   have hR4 := World.ownsRow_lit (base := wi.heap.size) (e := 53) (size := 2) wn #[.bool sn, .string (E c)] 1 hbN.size (by decide) rfl
   have hbM := ba hbN (.cells #[.bool sn, .string (E c)] 53)
   have HR4L : Hid ((#[.bool sn, .string (E c)] : Array Value).toList = ics ((((msgX c Z q).take 1)).map zI)) := by
    rw [Hid, HSN.out]; simp [msgX, ics, zI]
   have HR3L : Hid ([Value.string (E qt)] = strs ((msgB q).take 1)) := by
    rw [Hid, HQT.out]; simp [msgB, strs]
   rw [HR4L.out] at hR4
   rw [HR3L.out] at hR3
   have hFR : FRel wi 1 ((msgB q).take 1) ((msgX c Z q).take 1) (.slice (some ⟨wi.heap.size, 0, none⟩) 1 1) (.slice (some ⟨wn.heap.size, 0, none⟩) 1 1) (wn.alloc (.cells #[.bool sn, .string (E c)] 53)) :=
    ⟨by rw [NOwn, show ((msgB q).take 1).length = 1 by simp [msgB]]; exact hR3, by rw [ZOwn, show ((msgX c Z q).take 1).length = 1 by simp [msgX]]; exact hR4, by simp [msgB], by simp [msgX], hbM⟩
   clear hR1 hR2 hR3 hR4 hbL hbn hbN hbM HR3L HR4L hQl0
   go_wp2
   go_loopw [10, 11, 12] (fun v10 v11 i wr => ∃ k : Nat, k ≤ n4 ∧ i = .int .i64 k ∧ FRel wi (k + 1) ((msgB q).take (k + 1)) ((msgX c Z q).take (k + 1)) v10 v11 wr) (fun _ _ i _ => n4 - (intOf i).toNat)
   case atStart => exact ⟨0, by omega, rfl, hFR⟩
   case round =>
    clear hFR
    obtain ⟨j, hj, rfl, hI⟩ := hrel
    obtain ⟨wq, hwq⟩ : ∃ wq, wq = wr := ⟨_, rfl⟩
    subst hwq
    have hQ3 := hQ.after hI.b
    have hQl := hQ3.lt
    by_cases hltj : j < n4
    ·have hjl : j < q.trms.length := by rw [← HN4.out]; exact hltj
     have HTK := Lib.hid (HSZ.out.2.2.2 _ (List.getElem_mem hjl))
     have HSB := Lib.hid (msgB_step q j hjl)
     have HSX := Lib.hid (msgX_step c Z q j hjl)
     obtain ⟨b, o, rfl, hblI, x1, x2, x3, x4⟩ := hT2.at_ hjl
     replace x1 := (hI.b.cell (p := ⟨b, o + j * 4, none⟩) hblI).trans x1
     replace x2 := (hI.b.cell (p := ⟨b, o + j * 4 + 1, none⟩) hblI).trans x2
     replace x3 := (hI.b.cell (p := ⟨b, o + j * 4 + 2, none⟩) hblI).trans x3
     replace x4 := (hI.b.cell (p := ⟨b, o + j * 4 + 3, none⟩) hblI).trans x4
     have hbl := Nat.lt_of_lt_of_le hblI hI.b.size
     generalize (q.trms[j]'hjl) = t at x1 x2 x3 x4 HTK HSB HSX
     obtain ⟨tb, tvv, tz⟩ := t
     simp only [] at x1 x2 x3 x4
     have hvl : tvv < Z.length := by rw [HL.out]; exact HTK.out.2.1
     have hvn : tvv < n2 := by rw [HN2.out]; exact HTK.out.2.1
     obtain ⟨b', o', rfl, hblZ, y1, y2⟩ := hZ2.at_ hvl
     replace y1 := (hI.b.cell (p := ⟨b', o' + tvv * 2, none⟩) hblZ).trans y1
     replace y2 := (hI.b.cell (p := ⟨b', o' + tvv * 2 + 1, none⟩) hblZ).trans y2
     have hbl' := Nat.lt_of_lt_of_le hblZ hI.b.size
     have HZB := Lib.hid (HZZ.out _ (List.getElem_mem hvl))
     have HGD : Hid (Z.getD tvv 0 = Z[tvv]'hvl) := by rw [Hid, List.getD_eq_getElem?_getD, List.getElem?_eq_getElem hvl]; rfl
     generalize (Z[tvv]'hvl) = zz at y1 y2 HZB HGD
     clear hvl
     have HCO := Lib.hid HTK.out.2.2
     have HTB := Lib.hid HTK.out.1
     simp only [] at HCO HTB
     have HMUL : Hid (∀ w : World, Calls Tryz.prog 44 #[.agg #[.bool (sg (tz)), .string (E (tz).natAbs)], .agg #[.bool (sg (zz)), .string (E (zz).natAbs)]] w fun e w' => e = .returned (.agg #[.bool (sg (tz * zz)), .string (E (tz * zz).natAbs)]) ∧ Below w.heap.size w w') := fun w =>
      times17_c tz zz w (Nat.lt_of_lt_of_le HCO.out (Nat.pow_le_pow_right (show 0 < 256 by decide) (by decide))) (lt64 HZB.out)
     obtain ⟨pz, hpz⟩ : ∃ p, p = tz * zz := ⟨_, rfl⟩
     have HPZ := Lib.hid hpz
     rw [← hpz] at HMUL
     clear hpz
     have h0j : (0 : Int) ≤ (j : Int) := by omega
     have h1j : (j : Int) < (n4 : Int) := by omega
     have h0v : (0 : Int) ≤ (tvv : Int) := by omega
     have h1v : (tvv : Int) < (n2 : Int) := by omega
     have hRA : wq.ownsRow wi.heap.size 22 1 u10 (j + 1) (strs ((msgB q).take (j + 1))) := by have h : wq.ownsRow _ _ _ _ _ _ := hI.a; rw [hI.la] at h; exact h
     have hRZ : wq.ownsRow wi.heap.size 53 2 u11 (j + 1) (ics (((msgX c Z q).take (j + 1)).map zI)) := by have h : wq.ownsRow _ _ _ _ _ _ := hI.z; rw [hI.lz] at h; exact h
     have hBx := hI.b
     have hsx := hBx.size
     have HLA := Lib.hid hI.la
     have HLZ := Lib.hid hI.lz
     clear hI
     generalize (msgB q).take (j + 1) = LB at hRA HSB HLA
     generalize (msgX c Z q).take (j + 1) = LX at hRZ HSX HLZ
     obtain ⟨hQ3c0, hQ3f0, hQ3c1, hQ3f1, hQ3c2, hQ3f2⟩ := hQ3.x3
     go_wp2_with (at_builtin; refine wpList_append_lies _ rfl (.tmp 41) (.tmp 48) _ rfl wi.heap.size 22 i0 _ 1 16 Tryz.underlying31 HI0.out HA0.out HB0.out HC0.out rfl (by omega) u10 (j + 1) (strs LB) rfl (own_after hRA (b1 _ (.cells #[.string (E tb)] 22))) ⟨wq.heap.size, 0, none⟩ 1 1 [.string (E tb)] rfl rfl (Blk.new wq #[.string (E tb)] 22).cells (by simp [Value.oneCell']) (by omega) (by simp only [maxLen]; omega) (by omega) (by rw [World.size_alloc]; omega) (wq.heap.size + 1) (by simp) ?_; intro ga ca wa hownA hgrowA hatA hltA; clear hatA hltA)
     clear hQ3c0 hQ3f0 hQ3c1 hQ3f1 hQ3c2 hQ3f2
     have hbA := b1 wq (.cells #[.string (E tb)] 22)
     have hRAx := own_after hRA hbA
     have hRZa : wa.ownsRow wi.heap.size 53 2 u11 (j + 1) (ics (LX.map zI)) := own_grown (own_after hRZ hbA) hRAx (by decide) hgrowA
     have hQa := (hQ3.after hbA).grown hgrowA (own_ne hRA hQ3 (by decide))
     have hBa : Below wi.heap.size wi wa := Below.grown (Below.alloc hBx (by omega) _) hgrowA (by simp; omega) (fun g hg => (own_lt hRA hg).2)
     have hQw := hQ.lt
     have HNR2 : ∀ x ∈ ([(⟨g8, 2, none⟩, .slice (some ⟨b, o, none⟩) n4 tc), (⟨b, o + j * 4 + 1, none⟩, .int .i64 (tvv : Int)), (⟨b, o + j * 4 + 2, none⟩, .bool (sg tz)), (⟨b, o + j * 4 + 3, none⟩, .string (E tz.natAbs)), (⟨b', o' + tvv * 2, none⟩, .bool (sg zz)), (⟨b', o' + tvv * 2 + 1, none⟩, .string (E zz.natAbs))] : List (Addr × Value)), u11.ownBlock ≠ some x.1.block := by
      intro x hx e
      have h9 := (own_lt hRZ e).2
      simp only [List.mem_cons, List.not_mem_nil, or_false] at hx
      rcases hx with rfl | rfl | rfl | rfl | rfl | rfl
      all_goals first | (simp only [] at h9; omega)
     clear hQw
     have HNR : ∀ x ∈ ([(⟨b, o + j * 4 + 1, none⟩, .int .i64 (tvv : Int)), (⟨b, o + j * 4 + 2, none⟩, .bool (sg tz)), (⟨b, o + j * 4 + 3, none⟩, .string (E tz.natAbs)), (⟨b', o' + tvv * 2, none⟩, .bool (sg zz)), (⟨b', o' + tvv * 2 + 1, none⟩, .string (E zz.natAbs))] : List (Addr × Value)), u10.ownBlock ≠ some x.1.block := by
      intro x hx e
      have h9 := (own_lt hRA e).2
      simp only [List.mem_cons, List.not_mem_nil, or_false] at hx
      rcases hx with rfl | rfl | rfl | rfl | rfl
      all_goals first | (simp only [] at h9; omega)
     have hC : CA wa [(⟨g8, 2, none⟩, .slice (some ⟨b, o, none⟩) n4 tc), (⟨b, o + j * 4 + 1, none⟩, .int .i64 (tvv : Int)), (⟨b, o + j * 4 + 2, none⟩, .bool (sg tz)), (⟨b, o + j * 4 + 3, none⟩, .string (E tz.natAbs)), (⟨b', o' + tvv * 2, none⟩, .bool (sg zz)), (⟨b', o' + tvv * 2 + 1, none⟩, .string (E zz.natAbs))] :=
      CA.cons hQa.lt (hQa.cell 2) (CA.grown (CA.alloc (CA.cons hbl x2 (CA.cons hbl x3 (CA.cons hbl x4 (CA.cons hbl' y1 (CA.cons hbl' y2 (CA.nil _)))))) _) hgrowA HNR)
     clear x1 x2 x3 x4 y1 y2 hRA hRZ hRAx hbA hgrowA hbl hbl' hQ3
     have hQal := hQa.lt
     have hsa := hBa.size
     go_upto_region 12 with fail
     go_region_held3 (fun w' => w'.cell? ⟨g8, 2, none⟩ = some (.slice (some ⟨b, o, none⟩) n4 tc) ∧ w'.cell? ⟨b, o + j * 4 + 1, none⟩ = some (.int .i64 (tvv : Int)) ∧ w'.cell? ⟨b, o + j * 4 + 2, none⟩ = some (.bool (sg tz)) ∧ w'.cell? ⟨b, o + j * 4 + 3, none⟩ = some (.string (E tz.natAbs)) ∧ w'.cell? ⟨b', o' + tvv * 2, none⟩ = some (.bool (sg zz)) ∧ w'.cell? ⟨b', o' + tvv * 2 + 1, none⟩ = some (.string (E zz.natAbs))) ((refine CA.k6 ?_; repeat (first | (with_reducible exact hCb) | (with_reducible exact hCf) | (with_reducible exact hC) | (with_reducible refine CA.drew ?_) | (with_reducible refine CA.alloc ?_ _))))
      (first | (go_at_call 44; (with_reducible refine (HMUL.out _).mono ?_); rintro e wf ⟨rfl, hbf⟩; have hbF : Below wa.heap.size wa wf := (by first | exact hbf | exact (Below.drew (Below.refl _ _)).trans hbf); have hCf := hC.after hbF; have hRZf := own_after hRZa hbF; have hAf := own_after hownA hbF; have hBf := bt hBa hbF; have hsf := hBf.size) | (refine step_append_lies _ (by rfl) (.tmp 50) (.tmp 67) _ (by rfl) wi.heap.size 53 i1 _ 2 24 Tryz.underlying30 HI1.out HA1.out HB1.out HC1.out rfl (by omega) u11 (j + 1) (ics (LX.map zI)) (by rfl) (own_after hRZf (b1 _ (.cells #[.bool (sg pz), .string (E pz.natAbs)] 53))) ⟨wf.heap.size, 0, none⟩ 1 1 [.bool (sg pz), .string (E pz.natAbs)] (by rfl) rfl (Blk.new wf #[.bool (sg pz), .string (E pz.natAbs)] 53).cells (by simp [Value.oneCell']) (by omega) (by simp only [maxLen]; omega) (by omega) (by rw [World.size_alloc]; omega) (wf.heap.size + 1) (by simp) ?_; intro gb cb wb hownB hgrowB hatB hltB; clear hatB hltB; have hCb := CA.grown (CA.alloc hCf (.cells #[.bool (sg pz), .string (E pz.natAbs)] 53)) hgrowB HNR2; have hAb : wb.ownsRow wi.heap.size 22 1 (.slice (some ⟨ga, 0, none⟩) (j + 1 + 1) ca) (j + 1 + 1) (strs LB ++ [.string (E tb)]) := own_grown (own_after hAf (b1 _ (.cells #[.bool (sg pz), .string (E pz.natAbs)] 53))) (own_after hRZf (b1 _ (.cells #[.bool (sg pz), .string (E pz.natAbs)] 53))) (by decide) hgrowB; have hBb : Below wi.heap.size wi wb := Below.grown (Below.alloc hBf (by omega) _) hgrowB (by simp; omega) (fun g hg => (own_lt hRZf hg).2)))
     all_goals
      have hFR : FRel wi (j + 1 + 1) (LB ++ [tb]) (LX ++ [pz]) (.slice (some ⟨ga, 0, none⟩) (j + 1 + 1) ca) (.slice (some ⟨gb, 0, none⟩) (j + 1 + 1) cb) wb := by
       refine ⟨?_, ?_, by simp [HLA.out], by simp [HLZ.out], hBb⟩
       ·rw [NOwn, List.length_append, HLA.out, ← strs_app]; exact hAb
       ·rw [ZOwn, List.length_append, HLZ.out, ← ics_app]; exact hownB
      rw [← HSB.out, HPZ.out, ← HGD.out, ← HSX.out] at hFR
      go_wp2
      go_roundw
      case rel => exact ⟨j + 1, by omega, by go_num, hFR⟩
      case measure => simp [intOf]; omega
    ·have HTB : Hid ((msgB q).take (j + 1) = msgB q) := List.take_of_length_le (by have := HN4.out; simp [msgB, imgB]; omega)
     have HTX : Hid ((msgX c Z q).take (j + 1) = msgX c Z q) := List.take_of_length_le (by have := HN4.out; simp [msgX, imgX]; omega)
     rw [HTB.out, HTX.out] at hI
     have hP4 := hP2.after hI.b
     have hO4 := own_after hO2 hI.b
     have hbr4 := bt hbr2 hI.b
     have t1 := (hI.b.cell (p := ⟨bg, og_ + qg * 2, none⟩) hbg2).trans z1
     have t2 := (hI.b.cell (p := ⟨bg, og_ + qg * 2 + 1, none⟩) hbg2).trans z2
     have hbg4 := Nat.lt_of_lt_of_le hbg2 hI.b.size
     have hPl4 := hP4.lt
     have HPR : Hid (Calls Tryz.prog 62 #[.agg #[.string (E p), .string (E qq)], u10, u11] wq fun e w' => e = .returned (.tuple #[.string (E (msgQ N c Z q)), .int .i64 0]) ∧ Below wq.heap.size wq w') := by
      rw [HIV.out]
      exact rproduct_c p qq (msgB q) (msgX c Z q) u10 u11 wq HGZ.out.1 (lt128 HGZ.out.2) HCE.out.1 (msg_len c Z q).symm (by have := HSZ.out.2.2.1; simp [msgB, imgB]; omega) (fun x hx => (List.mem_cons.1 hx).elim (fun h => h ▸ HCE.out.2.1) (fun h => HCE.out.2.2 x h)) HXL.out hI.a.ss hI.z.zs
     clear hI hP2 hO2 hbr2 z1 z2 hbg2 hT2 hZ2
     obtain ⟨hP4c0, hP4f0, hP4c1, hP4f1, hP4c2, hP4f2⟩ := hP4.x3
     obtain ⟨hQ3c0, hQ3f0, hQ3c1, hQ3f1, hQ3c2, hQ3f2⟩ := hQ3.x3
     go_wp2_with fail
     refine HPR.out.mono ?_
     rintro e w3 ⟨rfl, hb3⟩
     clear hP4c0 hP4f0 hP4c1 hP4f1 hP4c2 hP4f2
     clear hQ3c0 hQ3f0 hQ3c1 hQ3f1 hQ3c2 hQ3f2
     have hO3 := own_after hO4 hb3
     have hbr3 := bt hbr4 hb3
     have hLE : Hid (((N.msgs c Z).take k).length = k) := by rw [Hid, List.length_take, NSta.msgs, List.length_map]; omega
     rw [hLE.out] at hO3
     clear HPR hb3 hO4 hbr4 hP4 hQ3 hQ
     have hsz3 := hbr3.size
     have HIM := Lib.hid HST.out
     generalize msgQ N c Z q = iv at HIM ⊢
     generalize (N.msgs c Z).take k = LI at hO3 HIM hLE
     go_wp2_with (at_builtin; refine wpList_append_lies _ rfl (.tmp 81) (.tmp 83) _ rfl w1.heap.size 22 i0 _ 1 16 Tryz.underlying31 HI0.out HA0.out HB0.out HC0.out rfl (by omega) u7 k (strs LI) rfl (own_after hO3 (b1 _ (.cells #[.string (E iv)] 22))) ⟨w3.heap.size, 0, none⟩ 1 1 [.string (E iv)] rfl rfl (Blk.new w3 #[.string (E iv)] 22).cells (by simp [Value.oneCell']) (by omega) (by simp only [maxLen]; omega) (by omega) (by rw [World.size_alloc]; omega) (w3.heap.size + 1) (by simp) ?_; intro ga ca wa hown hgrow hat hlt2)
     have hOA : NOwn wa w1.heap.size (.slice (some ⟨ga, 0, none⟩) (k + 1) ca) (LI ++ [iv]) := by rw [NOwn, List.length_append, hLE.out, ← strs_app]; exact hown
     rw [← HIM.out] at hOA
     have hbA := (ba hbr3 (.cells #[.string (E iv)] 22)).grown hgrow (by rw [World.size_alloc]; omega) (fun x hx => (own_lt hO3 hx).2)
     clear hown hgrow hat hlt2 hO3 hbr3
     go_wp2
     go_roundw
     case rel => exact ⟨k + 1, by omega, by go_num, hOA, hbA⟩
     case measure => simp [intOf]; omega
  ·have HTK : Hid ((N.msgs c Z).take k = N.msgs c Z) := List.take_of_length_le (by rw [NSta.msgs, List.length_map, ← HN3.out]; omega)
   rw [HTK.out] at hO
   have hs1 := hBW.size
   obtain ⟨hP1c0, hP1f0, hP1c1, hP1f1, hP1c2, hP1f2⟩ := hP1.x3
   go_wp2
   go_ret
   exact ⟨_, rfl, own_mono hO hs1, hBW1⟩

end Go.Proofs.YtehoiholhkfcpaaGreat
end

section
set_option linter.unusedVariables false
set_option linter.unusedSimpArgs false
set_option maxRecDepth 100000
namespace Go.Proofs.YtehoiholhkfcpaaGreat
open Go.RowKit Go.Shelf

set_option maxHeartbeats 1600000 in
theorem rfirst_err (C K c : ByteArray) (v1 v2 v3 v4 : Value) (k : Nat) (w : World) (hk : k ≠ 0)
  (hch : ∀ w', Below w.heap.size w w' → Calls Tryz.prog 26 #[.agg #[.string C, .string K], .agg #[v1, v2, v3]] w' fun e w'' => e = .returned (.tuple #[.slice none 0 0, .slice none 0 0, .int .i64 k]) ∧ Below w'.heap.size w' w'') :
  Calls Tryz.prog 9 #[.agg #[.string C, .string K], .agg #[v1, v2, v3], .string c, v4] w (FPost w k []) := by
 have HCH := Lib.hid hch
 have hkb : ((k : Int) != 0) = true := by rw [bne_iff_ne]; omega
 have hR := blk2a w #[.string C, .string K] #[v1, v2, v3] 24 29
 have hP := blk2b w #[.string C, .string K] #[v1, v2, v3] 24 29
 have hBW := b2 w (.cells #[.string C, .string K] 24) (.cells #[v1, v2, v3] 29)
 clear hch hk
 obtain ⟨hRc0, hRf0, hRc1, hRf1⟩ := hR.x2
 obtain ⟨hPc0, hPf0, hPc1, hPf1, hPc2, hPf2⟩ := hP.x3
 go_enter Tryz.func9, Tryz.ntmps9
 go_wp2_with fail
 refine (HCH.out _ hBW).mono ?_
 rintro e w2 ⟨rfl, hb2⟩
 go_wp2
 go_ret2
 exact fpost_err rfl (bt hBW hb2)

set_option maxHeartbeats 1600000 in
theorem rfirst_form (C K c : ByteArray) (l : List (Bool × ByteArray)) (L : List (Nat × Nat)) (v1 v2 v3 v4 : Value) (w : World) (hn : l.length ≤ 1000) (hs : ∀ x ∈ l, x.2.size ≤ 1000) (hc : c.size ≤ 1000) (hR : IsAt w v4 l) (hf : (vldB c && ivsB l) = false)
  (hch : ∀ w', Below w.heap.size w w' → Calls Tryz.prog 26 #[.agg #[.string C, .string K], .agg #[v1, v2, v3]] w' (B2Post w' L)) :
  Calls Tryz.prog 9 #[.agg #[.string C, .string K], .agg #[v1, v2, v3], .string c, v4] w (FPost w 3 []) := by
 have HCH := Lib.hid hch
 have HV : Hid (∀ w, Calls Tryz.prog 27 #[.string c] w fun e w' => e = .returned (.bool (vldB c)) ∧ w = w') := fun w => rvalid_c c w (by omega)
 have HI : Hid (∀ w', Below w.heap.size w w' → Calls Tryz.prog 28 #[v4] w' fun e w'' => e = .returned (.bool (ivsB l)) ∧ Below w'.heap.size w' w'') := fun w' hb => forms_c l v4 w' hn hs (IsAt.after hR hb)
 generalize ivsB l = ri at hf HI
 generalize vldB c = rv at hf HV
 have HFF := Lib.hid hf
 clear hn hs hc hR hch hf
 have hR := blk2a w #[.string C, .string K] #[v1, v2, v3] 24 29
 have hP := blk2b w #[.string C, .string K] #[v1, v2, v3] 24 29
 have hBW := b2 w (.cells #[.string C, .string K] 24) (.cells #[v1, v2, v3] 29)
 obtain ⟨hRc0, hRf0, hRc1, hRf1⟩ := hR.x2
 obtain ⟨hPc0, hPf0, hPc1, hPf1, hPc2, hPf2⟩ := hP.x3
 go_enter Tryz.func9, Tryz.ntmps9
 go_wp2_with fail
 refine (HCH.out _ hBW).mono ?_
 rintro e w2 ⟨mv, uv, rfl, hMO, hUO, hb2⟩
 clear hRc0 hRf0 hRc1 hRf1
 clear hPc0 hPf0 hPc1 hPf1 hPc2 hPf2
 clear hMO hUO
 replace hBW := bt hBW hb2
 clear hb2
 go_wp2_with fail
 refine (HV.out _).mono ?_
 rintro e w' ⟨rfl, rfl⟩
 cases rv
 ·go_wp2
  go_ret2
  exact fpost_err rfl hBW
 ·obtain rfl : ri = false := by simpa using HFF.out
  go_wp2_with fail
  refine (HI.out _ hBW).mono ?_
  rintro e w3 ⟨rfl, hb3⟩
  go_wp2
  go_ret2
  exact fpost_err rfl (bt hBW hb3)

set_option maxHeartbeats 8000000 in
theorem rfirst_num (N : NSta) (C K c : Nat) (Z : List Int) (v1 v2 v3 v4 : Value) (w : World) (hC : C < 256 ^ 8) (hK : K < 256 ^ 8) (hcc : c < 256 ^ 128) (hm : NOk N) (hS : NAt w v1 v2 v3 N) (h0 : N.chk = 0) (hZ : ZsAt w v4 Z) (hz : ∀ z ∈ Z, z.natAbs < 256 ^ 64) (hzl : Z.length ≤ 1000)
  (hch : ∀ w', Below w.heap.size w w' → Calls Tryz.prog 26 #[.agg #[.string (E C), .string (E K)], .agg #[v1, v2, v3]] w' (B2Post w' (N.lims C K))) :
  Calls Tryz.prog 9 #[.agg #[.string (E C), .string (E K)], .agg #[v1, v2, v3], .string (E c), v4] w (FPost w (N.fir C K c Z) (N.firL C K c Z)) := by
 obtain ⟨r, hr⟩ : ∃ r : Nat, r = N.fir C K c Z := ⟨_, rfl⟩
 obtain ⟨rl, hrl⟩ : ∃ r, r = N.firL C K c Z := ⟨_, rfl⟩
 have HRES := Lib.hid hr
 have HRL := Lib.hid hrl
 rw [← hr, ← hrl]
 clear hr hrl
 have HCH := Lib.hid hch
 have HIN : Hid (∀ w', Below w.heap.size w w' → Calls Tryz.prog 28 #[v4] w' fun e w'' => e = .returned (.bool true) ∧ Below w'.heap.size w' w'') := fun w' hb => by
  have h := forms_c (Z.map zI) v4 w' (by simpa using hzl) (by
   intro x hx
   obtain ⟨z, hz1, rfl⟩ := List.mem_map.1 hx
   have := sz z.natAbs (lt64 (hz z hz1))
   simp only [zI]; omega) (hZ.after hb)
  rwa [sints_num Z (fun z hz1 => lt64 (hz z hz1))] at h
 have HME : Hid (Z.length = N.vars.length → ∀ w', Below w.heap.size w w' → Calls Tryz.prog 31 #[.agg #[v1, v2, v3], .string (E c), v4] w' fun e w'' => ∃ v, e = .returned v ∧ NOwn w'' w'.heap.size v (N.msgs c Z) ∧ Below w'.heap.size w' w'') := fun hl w' hb => rfirst17_c N c Z v1 v2 v3 v4 w' hm (hS.after hb) (hZ.after hb) hz hl h0 hcc
 have HVL : Hid (∀ w, Calls Tryz.prog 27 #[.string (E c)] w fun e w' => e = .returned (.bool true) ∧ w = w') := fun w => rvalidE_c c w hcc
 have HCM : Hid (∀ w, Calls Tryz.prog 29 #[.string (E c), .string (E C)] w fun e w' => e = .returned (.int .i64 (cmpN c C)) ∧ Below w.heap.size w w') := fun w => rorder_c c C w (by have := sz _ hcc; omega) (by have := sz _ (lt128 hC); omega)
 obtain ⟨q1, hq1⟩ : ∃ q : Int, q = cmpN c C := ⟨_, rfl⟩
 rw [← hq1] at HCM
 have HQ1 := Lib.hid hq1
 have HLM := Lib.hid (lims_lt hm hC hK)
 have HM9 := Lib.hid hm
 have HZZ := Lib.hid hz
 obtain ⟨a4, c4, rfl⟩ := hZ.form
 obtain ⟨nz, hnz⟩ : ∃ n, n = Z.length := ⟨_, rfl⟩
 have HNZ := Lib.hid hnz
 rw [← hnz] at hZ hzl HIN HME ⊢
 obtain ⟨a1, c1, a2, c2, a3, c3, rfl, rfl, rfl⟩ := hS.forms
 obtain ⟨n1, hn1⟩ : ∃ n, n = N.grps.length := ⟨_, rfl⟩
 obtain ⟨n2, hn2⟩ : ∃ n, n = N.vars.length := ⟨_, rfl⟩
 obtain ⟨n3, hn3⟩ : ∃ n, n = N.eqs.length := ⟨_, rfl⟩
 have HN2 := Lib.hid hn2
 have l2 : n2 ≤ 12 := by rw [hn2]; exact hm.nv
 rw [← hn1, ← hn2, ← hn3] at hS HCH HME ⊢
 clear hm hn1 hn2 hn3 hC hK hcc h0 hz hch hnz hq1
 have hR := blk2a w #[.string (E C), .string (E K)] #[.slice a1 n1 c1, .slice a2 n2 c2, .slice a3 n3 c3] 24 29
 have hP := blk2b w #[.string (E C), .string (E K)] #[.slice a1 n1 c1, .slice a2 n2 c2, .slice a3 n3 c3] 24 29
 have hBW := b2 w (.cells #[.string (E C), .string (E K)] 24) (.cells #[.slice a1 n1 c1, .slice a2 n2 c2, .slice a3 n3 c3] 29)
 replace hS := hS.after hBW
 replace hZ := hZ.after hBW
 obtain ⟨hRc0, hRf0, hRc1, hRf1⟩ := hR.x2
 obtain ⟨hPc0, hPf0, hPc1, hPf1, hPc2, hPf2⟩ := hP.x3
 go_enter Tryz.func9, Tryz.ntmps9
 go_wp2_with fail
 refine (HCH.out _ hBW).mono ?_
 rintro e w2 ⟨mv, uv, rfl, hMO, hUO, hb2⟩
 clear hRc0 hRf0 hRc1 hRf1
 clear hPc0 hPf0 hPc1 hPf1 hPc2 hPf2
 have hUs := hUO.ss
 clear hMO hUO
 obtain ⟨a6, c6, rfl⟩ := RAt.form hUs
 have HUL : Hid ((((N.lims C K).map (·.2)).map E).length = n2) := by rw [Hid, List.length_map, List.length_map, NSta.lims, List.length_map, HN2.out]
 rw [HUL.out] at hUs ⊢
 replace hR := hR.after hb2
 replace hP := hP.after hb2
 replace hS := hS.after hb2
 replace hZ := hZ.after hb2
 replace hBW := bt hBW hb2
 clear hb2
 go_wp2_with fail
 refine (HVL.out _).mono ?_
 rintro e w' ⟨rfl, rfl⟩
 go_wp2_with fail
 refine (HIN.out _ hBW).mono ?_
 rintro e w3 ⟨rfl, hb3⟩
 replace hR := hR.after hb3
 replace hP := hP.after hb3
 replace hS := hS.after hb3
 replace hZ := hZ.after hb3
 replace hUs := SsAt.after hUs hb3
 replace hBW := bt hBW hb3
 clear hb3 HIN HVL
 obtain ⟨hRc0, hRf0, hRc1, hRf1⟩ := hR.x2
 go_wp2_with fail
 refine (HCM.out _).mono ?_
 rintro e wo ⟨rfl, hbo⟩
 clear hRc0 hRf0 hRc1 hRf1
 replace hP := hP.after hbo
 replace hS := hS.after hbo
 replace hZ := hZ.after hbo
 replace hUs := SsAt.after hUs hbo
 replace hBW := bt hBW hbo
 clear hbo HCM hR
 by_cases hcl : C ≤ c
 ·have hd1 : decide (0 ≤ q1) = true := decide_eq_true (by rw [HQ1.out]; have := cmp_nneg c C hcl; omega)
  have HX := Lib.hid (fir_a (N := N) (K := K) (Z := Z) hcl)
  clear hcl
  go_wp2
  go_ret2
  rw [HRES.out, HRL.out, HX.out.1, HX.out.2]
  exact fpost_err rfl hBW
 ·have hd1 : decide (0 ≤ q1) = false := decide_eq_false (by rw [HQ1.out]; have := cmp_neg c C (by omega); omega)
  have HCL : Hid (c < C) := by rw [Hid]; omega
  clear hcl
  by_cases hln : nz = n2
  ·have HLN : Hid (Z.length = N.vars.length) := by rw [Hid, ← HNZ.out, ← HN2.out]; exact hln
   subst hln
   have hM := HME.out rfl
   have HMM := Lib.hid hM
   clear hM HME
   obtain ⟨hPc0, hPf0, hPc1, hPf1, hPc2, hPf2⟩ := hP.x3
   go_wp2
   clear hPc0 hPf0 hPc1 hPf1 hPc2 hPf2
   go_loopw [13] (fun i wr => ∃ k : Nat, k ≤ nz ∧ i = .int .i64 k ∧ Hid (ra k (blJ N C K Z) = true) ∧ Below wo.heap.size wo wr) (fun i _ => nz - (intOf i).toNat)
   case atStart => exact ⟨0, by omega, rfl, rfl, Below.refl _ _⟩
   case round =>
    obtain ⟨k, hk, rfl, HAL, hbr⟩ := hrel
    obtain ⟨wp, hwp⟩ : ∃ wp, wp = wr := ⟨_, rfl⟩
    subst hwp
    have hBW1 := bt hBW hbr
    have hP1 := hP.after hbr
    by_cases hlt : k < nz
    ·have hkl : k < N.vars.length := by rw [← HN2.out]; exact hlt
     have hkZ : k < Z.length := by rw [← HNZ.out]; exact hlt
     have hkU : k < (((N.lims C K).map (·.2)).map E).length := by rw [HUL.out]; exact hlt
     obtain ⟨bv, ov, rfl, hbv, x1⟩ := (hS.after hbr).vat hkl
     obtain ⟨bz, oz, rfl, hbz, z1, z2⟩ := (hZ.after hbr).at_ hkZ
     obtain ⟨bu, ou, rfl, hbu, y1⟩ := SsAt.at_ (SsAt.after hUs hbr) hkU
     rw [show (((N.lims C K).map (·.2)).map E)[k] = E (lim N.ord C K (N.vars[k]'hkl)).2 by simp [NSta.lims]] at y1
     have HAD : Hid (∀ w', Below wp.heap.size wp w' → Calls Tryz.prog 30 #[.agg #[.slice a1 n1 c1, .slice (some ⟨bv, ov, none⟩) nz c2, .slice a3 n3 c3], .int .i64 (k : Int), .agg #[.bool (sg (Z[k]'hkZ)), .string (E (Z[k]'hkZ).natAbs)], .string (E (lim N.ord C K (N.vars[k]'hkl)).2)] w' fun e w'' => e = .returned (.bool (blJ N C K Z k)) ∧ Below w'.heap.size w' w'') := fun w' hb' => by
      rw [blJ_at N C K Z k hkl hkZ]; exact within_c N k _ _ _ _ _ w' HM9.out ((hS.after hbr).after hb') hkl (lt64 (HLM.out k hkl).2) (lt64 (HZZ.out _ (List.getElem_mem hkZ)))
     have HRS : Hid (ra (k + 1) (blJ N C K Z) = blJ N C K Z k) := by rw [Hid, ra_succ, HAL.out]; rfl
     have HRB : Hid (blJ N C K Z k = false → ra N.vars.length (blJ N C K Z) = false) := fun h => ra_false hkl h
     generalize (lim N.ord C K (N.vars[k]'hkl)).2 = mk at y1 HAD
     generalize (N.vars[k]'hkl) = vb at x1 HAD
     generalize (Z[k]'hkZ) = lz at z1 z2 HAD
     generalize blJ N C K Z k = bl at HAD HRS HRB
     have h0k : (0 : Int) ≤ (k : Int) := by omega
     have h1k : (k : Int) < (nz : Int) := by omega
     have g1 := gcl (a := ⟨bz, oz + k * 2, none⟩) hbz z1
     have g2 := gcl (a := ⟨bz, oz + k * 2 + 1, none⟩) hbz z2
     have g3 := gcl (a := ⟨bu, ou + k, none⟩) hbu y1
     have hP1l := hP1.lt
     obtain ⟨hP1c0, hP1f0, hP1c1, hP1f1, hP1c2, hP1f2⟩ := hP1.x3
     have hP1g0 := hP1.gcell 0
     have hP1g1 := hP1.gcell 1
     have hP1g2 := hP1.gcell 2
     go_upto_region 13 with fail
     clear x1 hbv
     go_wp2_with fail
     refine wp_region_gw (by kernel_rfl) (by kernel_rfl) ?_
     repeat (go_big_quiet_step (first | (go_at_call 30; exact gw_of (HAD.out _ (gw_below _)))))
     refine wpQuiet_nil ?_
     rintro w9 ⟨xw9, rfl⟩
     have hb9 := gw_below xw9
     generalize gw xw9 = w9 at hb9
     clear hP1c0 hP1f0 hP1c1 hP1f1 hP1c2 hP1f2
     clear hP1g0 hP1g1 hP1g2
     clear g1 g2 g3 z1 z2 y1 hbz hbu hP1l HAD
     have hbe := bt hbr hb9
     cases bl
     ·have HX := Lib.hid (fir_c HCL.out HLN.out (HRB.out rfl))
      go_wp2
      go_ret2
      rw [HRES.out, HRL.out, HX.out.1, HX.out.2]
      exact fpost_err rfl (bt hBW hbe)
     ·go_wp2
      go_roundw
      case rel => exact ⟨k + 1, by omega, by go_num, HRS, hbe⟩
      case measure => simp [intOf]; omega
    ·obtain rfl : nz = k := by omega
     have HX := Lib.hid (fir_d HCL.out HLN.out (by rw [← HN2.out]; exact HAL.out))
     obtain ⟨hP1c0, hP1f0, hP1c1, hP1f1, hP1c2, hP1f2⟩ := hP1.x3
     go_wp2_with fail
     refine (HMM.out _ hBW1).mono ?_
     rintro e w4 ⟨mo, rfl, hMO, hb4⟩
     clear hP1c0 hP1f0 hP1c1 hP1f1 hP1c2 hP1f2
     have hs4 := hBW1.size
     go_wp2
     go_ret2
     rw [HRES.out, HRL.out, HX.out.1, HX.out.2]
     exact ⟨_, rfl, own_mono hMO hs4, bt hBW1 hb4⟩
  ·have hln2 : ¬ (nz : Int) = (n2 : Int) := by omega
   have HX := Lib.hid (fir_b (K := K) HCL.out (show Z.length ≠ N.vars.length by rw [← HNZ.out, ← HN2.out]; exact hln))
   clear HME
   obtain ⟨hPc0, hPf0, hPc1, hPf1, hPc2, hPf2⟩ := hP.x3
   go_wp2
   go_ret2
   rw [HRES.out, HRL.out, HX.out.1, HX.out.2]
   exact fpost_err rfl hBW
end Go.Proofs.YtehoiholhkfcpaaGreat
end

section
set_option linter.unusedVariables false
set_option linter.unusedSimpArgs false
set_option maxRecDepth 100000
namespace Go.Proofs.YtehoiholhkfcpaaGreat
open Go.RowKit Go.Shelf

end Go.Proofs.YtehoiholhkfcpaaGreat
end
