/- dominolaw16.SigmaResponds: the row and its tied card. -/
import Derived.Test.YtcfjcenmcpankaaGreatDoorRsp3
import Derived.Test.YtcfjcenmcpankaaGreatDoorLs16
import Derived.Test.YtcfjcenmcpankaaGreatDoorSat1
import Derived.Test.YtcfjcenmcpankaaGreatDoorAw16
import Derived.Test.YtcfjcenmcpankaaGreatDoorLd16
import Derived.Test.YtcfjcenmcpankaaGreatDoorCards
import Derived.Test.YtcfjcenmcpankaaGreatDoorTie
import Derived.SevenTiedAt
section
set_option linter.unusedVariables false
set_option linter.unusedSimpArgs false
set_option maxRecDepth 100000
namespace Go.Proofs.YtcfjcenmcpankaaGreatDoor
open Go.RowKit Go.Shelf

theorem mulcb (c : Nat) (b : Int) : (c : Int) * b = if sg b then -((c * b.natAbs : Nat) : Int) else ((c * b.natAbs : Nat) : Int) := by
 rcases Int.lt_or_le b 0 with h | h
 ·rw [sg_of_neg h, if_pos rfl]
  have e : b = -((b.natAbs : Nat) : Int) := by omega
  generalize b.natAbs = n at e
  subst e
  rw [Int.natCast_mul, Int.mul_neg]
 ·rw [sg_of_nonneg h, if_neg (by decide)]
  have e : b = ((b.natAbs : Nat) : Int) := by omega
  generalize b.natAbs = n at e
  subst e
  rw [Int.natCast_mul]
theorem selfsg (a : Int) : a = if sg a then -((a.natAbs : Nat) : Int) else ((a.natAbs : Nat) : Int) := by
 rcases Int.lt_or_le a 0 with h | h
 ·rw [sg_of_neg h, if_pos rfl]; omega
 ·rw [sg_of_nonneg h, if_neg (by decide)]; omega
theorem pl_same (a b : Int) (c P : Nat) (hP : P = c * b.natAbs) (h : sg a = sg b ∨ P = 0) : a + (c : Int) * b = if sg a then -((a.natAbs + P : Nat) : Int) else ((a.natAbs + P : Nat) : Int) := by
 rw [mulcb, ← hP]
 have ha := selfsg a
 generalize a.natAbs = x at *
 cases hs : sg a <;> cases ht : sg b <;> rw [hs] at ha h <;> rw [ht] at h <;> simp at ha h ⊢ <;> omega
theorem pl_ge (a b : Int) (c P : Nat) (hP : P = c * b.natAbs) (h : sg a ≠ sg b) (hg : P ≤ a.natAbs) : a + (c : Int) * b = if sg a then -((a.natAbs - P : Nat) : Int) else ((a.natAbs - P : Nat) : Int) := by
 rw [mulcb, ← hP]
 have ha := selfsg a
 generalize a.natAbs = x at *
 cases hs : sg a <;> cases ht : sg b <;> rw [hs] at ha h <;> rw [ht] at h <;> simp at ha h ⊢ <;> omega
theorem pl_lt (a b : Int) (c P : Nat) (hP : P = c * b.natAbs) (h : sg a ≠ sg b) (hg : a.natAbs < P) : a + (c : Int) * b = if sg b then -((P - a.natAbs : Nat) : Int) else ((P - a.natAbs : Nat) : Int) := by
 rw [mulcb, ← hP]
 have ha := selfsg a
 generalize a.natAbs = x at *
 cases hs : sg a <;> cases ht : sg b <;> rw [hs] at ha h <;> rw [ht] at h <;> simp at ha h ⊢ <;> omega

set_option maxHeartbeats 1600000 in
theorem rpl_same (a b : Int) (c : Nat) (w : World) (ha : a.natAbs < 256 ^ 64) (hb : b.natAbs < 256 ^ 64) (hc : c < 256 ^ 20) (hq : sg a = sg b ∨ c * b.natAbs = 0) :
  Calls Tryz.prog 106 #[.agg #[.bool (sg (a)), .string (E (a).natAbs)], .string (E c), .agg #[.bool (sg (b)), .string (E (b).natAbs)]] w fun e w' => e = .returned (.agg #[.bool (sg (a + (c : Int) * b)), .string (E (a + (c : Int) * b).natAbs)]) ∧ Below w.heap.size w w' := by
 have hPl : c * b.natAbs < 256 ^ 84 := mul_lt_pw hc hb (by decide)
 have szx : ∀ {n k : Nat}, n < 256 ^ k → k ≤ 128 → (E n).size ≤ 128 := fun h hk => Nat.le_trans ((E_size_le _ _).2 h) hk
 have HTI : Hid (∀ w, Calls Tryz.prog 46 #[.string (E c), .string (E b.natAbs)] w fun e w' => e = .returned (.string (E (c * b.natAbs))) ∧ Below w.heap.size w w') := fun w => rtimes_c _ _ w (Nat.le_trans (szx hc (by decide)) (by decide)) (Nat.le_trans (szx hb (by decide)) (by decide))
 obtain ⟨P, hP⟩ : ∃ P, P = c * b.natAbs := ⟨_, rfl⟩
 rw [← hP] at HTI hPl hq
 have hsa := szx ha (by decide)
 have hsp := szx hPl (by decide)
 have HT : Hid (∀ w, Calls Tryz.prog 153 #[.string (E a.natAbs), .string (E P)] w fun e w' => e = .returned (.string (E (a.natAbs + P))) ∧ Below w.heap.size w w') := fun w => rplus_c _ _ w (by omega) (by omega)
 have hxy : (E (a.natAbs + P)).size ≤ 128 := (E_size_le _ 128).2 (by
  have h1 : (256 : Nat) ^ 64 + 256 ^ 84 ≤ 256 ^ 128 := by decide
  omega)
 have HF : Hid (∀ w, Calls Tryz.prog 76 #[.bool (sg a), .string (E (a.natAbs + P))] w fun e w' => e = .returned (.agg #[.bool (sg (a + (c : Int) * b)), .string (E (a + (c : Int) * b).natAbs)]) ∧ Below w.heap.size w w') := fun w => rmake_c (sg a) (a.natAbs + P) _ w (by omega) (pl_same a b c P hP hq)
 generalize a.natAbs + P = n at HT HF
 generalize hz : a + (c : Int) * b = z at HF ⊢
 have HQ := Lib.hid hq
 clear ha hb hc hPl szx hsa hsp hxy hz hP hq
 have hA := blk3a w #[Value.bool (sg a), Value.string (E a.natAbs)] #[Value.bool (sg b), Value.string (E b.natAbs)] #[Value.bool false, Value.string { data := #[] }] 72 72 72
 have hB := blk3b w #[Value.bool (sg a), Value.string (E a.natAbs)] #[Value.bool (sg b), Value.string (E b.natAbs)] #[Value.bool false, Value.string { data := #[] }] 72 72 72
 have hC := blk3c w #[Value.bool (sg a), Value.string (E a.natAbs)] #[Value.bool (sg b), Value.string (E b.natAbs)] #[Value.bool false, Value.string { data := #[] }] 72 72 72
 have hBW := b3 w (.cells #[Value.bool (sg a), Value.string (E a.natAbs)] 72) (.cells #[Value.bool (sg b), Value.string (E b.natAbs)] 72) (.cells #[Value.bool false, Value.string { data := #[] }] 72)
 obtain ⟨hAc0, hAf0, hAc1, hAf1⟩ := hA.x2
 obtain ⟨hBc0, hBf0, hBc1, hBf1⟩ := hB.x2
 go_enter Tryz.func106, Tryz.ntmps106
 go_wp2_with fail
 refine (HTI.out _).mono ?_
 rintro e w2 ⟨rfl, hb2⟩
 clear hAc0 hAf0 hAc1 hAf1
 clear hBc0 hBf0 hBc1 hBf1
 replace hA := hA.after hb2
 replace hB := hB.after hb2
 replace hC := hC.after hb2
 replace hBW := bt hBW hb2
 clear hb2 HTI
 by_cases hs : sg a = sg b
 ·have hqb : (sg a == sg b) = true := by rw [hs]; simp
  clear hs
  have hAl := hA.lt
  have hBl := hB.lt
  obtain ⟨hAc0, hAf0, hAc1, hAf1⟩ := hA.x2
  obtain ⟨hBc0, hBf0, hBc1, hBf1⟩ := hB.x2
  have hAg0 := hA.gcell 0
  have hAg1 := hA.gcell 1
  have hBg0 := hB.gcell 0
  have hBg1 := hB.gcell 1
  go_upto_region 3 with fail
  go_wp2_with fail
  refine wp_region_gw_tail 7 (by kernel_rfl) (by kernel_rfl) ?_
  simp only [List.take_succ_cons, List.take_zero, List.drop_succ_cons, List.drop_zero]
  repeat (go_big_quiet_step (first | (go_at_call 153; exact gw_of (HT.out _)) | (go_at_call 76; exact gw_of (HF.out _))))
  refine wpQuiet_nil ?_
  rintro w9 ⟨xw9, rfl⟩
  have hb9 := gw_below xw9
  generalize gw xw9 = w9 at hb9
  clear hAc0 hAf0 hAc1 hAf1
  clear hBc0 hBf0 hBc1 hBf1
  clear hAg0 hAg1
  clear hBg0 hBg1
  have hC9 := hC.after hb9
  obtain ⟨hC9c0, hC9f0, hC9c1, hC9f1⟩ := hC9.x2
  go_wp2
  refine bodyPost_ret (v := .agg #[.bool (sg (z)), .string (E (z).natAbs)]) ?_ rfl ⟨rfl, ?_⟩
  ·simp [results, Tryz.results106, go_sem, hC9c0, hC9c1]
  ·exact ((bt hBW hb9).setCell (by simp; omega) _).setCell (by simp; omega) _
 ·have hqb : (sg a == sg b) = false := by rw [beq_eq_false_iff_ne]; exact hs
  have HP0 : Hid (P = 0) := by rcases HQ.out with h | h; exact absurd h hs; exact h
  have hz1 := zE HP0.out
  clear hs
  have hAl := hA.lt
  have hBl := hB.lt
  obtain ⟨hAc0, hAf0, hAc1, hAf1⟩ := hA.x2
  obtain ⟨hBc0, hBf0, hBc1, hBf1⟩ := hB.x2
  have hAg0 := hA.gcell 0
  have hAg1 := hA.gcell 1
  have hBg0 := hB.gcell 0
  have hBg1 := hB.gcell 1
  go_upto_region 3 with fail
  go_wp2_with fail
  refine wp_region_gw_tail 7 (by kernel_rfl) (by kernel_rfl) ?_
  simp only [List.take_succ_cons, List.take_zero, List.drop_succ_cons, List.drop_zero]
  repeat (go_big_quiet_step (first | (go_at_call 153; exact gw_of (HT.out _)) | (go_at_call 76; exact gw_of (HF.out _))))
  refine wpQuiet_nil ?_
  rintro w9 ⟨xw9, rfl⟩
  have hb9 := gw_below xw9
  generalize gw xw9 = w9 at hb9
  clear hAc0 hAf0 hAc1 hAf1
  clear hBc0 hBf0 hBc1 hBf1
  clear hAg0 hAg1
  clear hBg0 hBg1
  have hC9 := hC.after hb9
  obtain ⟨hC9c0, hC9f0, hC9c1, hC9f1⟩ := hC9.x2
  go_wp2
  refine bodyPost_ret (v := .agg #[.bool (sg (z)), .string (E (z).natAbs)]) ?_ rfl ⟨rfl, ?_⟩
  ·simp [results, Tryz.results106, go_sem, hC9c0, hC9c1]
  ·exact ((bt hBW hb9).setCell (by simp; omega) _).setCell (by simp; omega) _

set_option maxHeartbeats 1600000 in
theorem rpl_ge (a b : Int) (c : Nat) (w : World) (ha : a.natAbs < 256 ^ 64) (hb : b.natAbs < 256 ^ 64) (hc : c < 256 ^ 20) (hq : sg a ≠ sg b) (h0 : c * b.natAbs ≠ 0) (hg : c * b.natAbs ≤ a.natAbs) :
  Calls Tryz.prog 106 #[.agg #[.bool (sg (a)), .string (E (a).natAbs)], .string (E c), .agg #[.bool (sg (b)), .string (E (b).natAbs)]] w fun e w' => e = .returned (.agg #[.bool (sg (a + (c : Int) * b)), .string (E (a + (c : Int) * b).natAbs)]) ∧ Below w.heap.size w w' := by
 have hPl : c * b.natAbs < 256 ^ 84 := mul_lt_pw hc hb (by decide)
 have szx : ∀ {n k : Nat}, n < 256 ^ k → k ≤ 128 → (E n).size ≤ 128 := fun h hk => Nat.le_trans ((E_size_le _ _).2 h) hk
 have HTI : Hid (∀ w, Calls Tryz.prog 46 #[.string (E c), .string (E b.natAbs)] w fun e w' => e = .returned (.string (E (c * b.natAbs))) ∧ Below w.heap.size w w') := fun w => rtimes_c _ _ w (Nat.le_trans (szx hc (by decide)) (by decide)) (Nat.le_trans (szx hb (by decide)) (by decide))
 obtain ⟨P, hP⟩ : ∃ P, P = c * b.natAbs := ⟨_, rfl⟩
 rw [← hP] at HTI hPl hg h0
 have hsa := szx ha (by decide)
 have hsp := szx hPl (by decide)
 have HO : Hid (∀ w, Calls Tryz.prog 44 #[.string (E a.natAbs), .string (E P)] w fun e w' => e = .returned (.int .i64 (cmpN a.natAbs P)) ∧ Below w.heap.size w w') := fun w => rorder_c _ _ w (by omega) (by omega)
 have HT : Hid (∀ w, Calls Tryz.prog 47 #[.string (E a.natAbs), .string (E P)] w fun e w' => e = .returned (.string (E (a.natAbs - P))) ∧ Below w.heap.size w w') := fun w => rminus_c _ _ w (by omega) hg
 have hxy : (E (a.natAbs - P)).size ≤ 128 := szx (Nat.lt_of_le_of_lt (Nat.sub_le _ _) ha) (by decide)
 have HF : Hid (∀ w, Calls Tryz.prog 76 #[.bool (sg a), .string (E (a.natAbs - P))] w fun e w' => e = .returned (.agg #[.bool (sg (a + (c : Int) * b)), .string (E (a + (c : Int) * b).natAbs)]) ∧ Below w.heap.size w w') := fun w => rmake_c (sg a) (a.natAbs - P) _ w (by omega) (pl_ge a b c P hP hq hg)
 have hqb : (sg a == sg b) = false := by rw [beq_eq_false_iff_ne]; exact hq
 have hz0 := nzE2 (Nat.pos_of_ne_zero h0)
 have hz1 := nzE (Nat.pos_of_ne_zero h0)
 obtain ⟨q1, hq1⟩ : ∃ q : Int, q = cmpN a.natAbs P := ⟨_, rfl⟩
 rw [← hq1] at HO
 have hd1 : decide (0 ≤ q1) = true := by rw [hq1]; exact decide_eq_true (by have := cmp_nneg a.natAbs P hg; omega)
 generalize a.natAbs - P = n at HT HF
 generalize hz : a + (c : Int) * b = z at HF ⊢
 have HQ := Lib.hid hq
 clear ha hb hc hPl szx hsa hsp hxy hz hP hq hg h0 hq1
 have hA := blk3a w #[Value.bool (sg a), Value.string (E a.natAbs)] #[Value.bool (sg b), Value.string (E b.natAbs)] #[Value.bool false, Value.string { data := #[] }] 72 72 72
 have hB := blk3b w #[Value.bool (sg a), Value.string (E a.natAbs)] #[Value.bool (sg b), Value.string (E b.natAbs)] #[Value.bool false, Value.string { data := #[] }] 72 72 72
 have hC := blk3c w #[Value.bool (sg a), Value.string (E a.natAbs)] #[Value.bool (sg b), Value.string (E b.natAbs)] #[Value.bool false, Value.string { data := #[] }] 72 72 72
 have hBW := b3 w (.cells #[Value.bool (sg a), Value.string (E a.natAbs)] 72) (.cells #[Value.bool (sg b), Value.string (E b.natAbs)] 72) (.cells #[Value.bool false, Value.string { data := #[] }] 72)
 obtain ⟨hAc0, hAf0, hAc1, hAf1⟩ := hA.x2
 obtain ⟨hBc0, hBf0, hBc1, hBf1⟩ := hB.x2
 go_enter Tryz.func106, Tryz.ntmps106
 go_wp2_with fail
 refine (HTI.out _).mono ?_
 rintro e w2 ⟨rfl, hb2⟩
 clear hAc0 hAf0 hAc1 hAf1
 clear hBc0 hBf0 hBc1 hBf1
 replace hA := hA.after hb2
 replace hB := hB.after hb2
 replace hC := hC.after hb2
 replace hBW := bt hBW hb2
 clear hb2 HTI
 obtain ⟨hAc0, hAf0, hAc1, hAf1⟩ := hA.x2
 obtain ⟨hBc0, hBf0, hBc1, hBf1⟩ := hB.x2
 go_wp2_with fail
 refine (HO.out _).mono ?_
 rintro e w3 ⟨rfl, hb3⟩
 clear hAc0 hAf0 hAc1 hAf1
 clear hBc0 hBf0 hBc1 hBf1
 replace hA := hA.after hb3
 replace hB := hB.after hb3
 replace hC := hC.after hb3
 replace hBW := bt hBW hb3
 clear hb3 HO
 have hAl := hA.lt
 have hBl := hB.lt
 obtain ⟨hAc0, hAf0, hAc1, hAf1⟩ := hA.x2
 obtain ⟨hBc0, hBf0, hBc1, hBf1⟩ := hB.x2
 have hAg0 := hA.gcell 0
 have hAg1 := hA.gcell 1
 have hBg0 := hB.gcell 0
 have hBg1 := hB.gcell 1
 go_upto_region 5 with fail
 go_wp2_with fail
 refine wp_region_gw_tail 7 (by kernel_rfl) (by kernel_rfl) ?_
 simp only [List.take_succ_cons, List.take_zero, List.drop_succ_cons, List.drop_zero]
 repeat (go_big_quiet_step (first | (go_at_call 47; exact gw_of (HT.out _)) | (go_at_call 76; exact gw_of (HF.out _))))
 refine wpQuiet_nil ?_
 rintro w9 ⟨xw9, rfl⟩
 have hb9 := gw_below xw9
 generalize gw xw9 = w9 at hb9
 clear hAc0 hAf0 hAc1 hAf1
 clear hBc0 hBf0 hBc1 hBf1
 clear hAg0 hAg1
 clear hBg0 hBg1
 have hC9 := hC.after hb9
 obtain ⟨hC9c0, hC9f0, hC9c1, hC9f1⟩ := hC9.x2
 go_wp2
 refine bodyPost_ret (v := .agg #[.bool (sg (z)), .string (E (z).natAbs)]) ?_ rfl ⟨rfl, ?_⟩
 ·simp [results, Tryz.results106, go_sem, hC9c0, hC9c1]
 ·exact ((bt hBW hb9).setCell (by simp; omega) _).setCell (by simp; omega) _

set_option maxHeartbeats 1600000 in
theorem rpl_lt (a b : Int) (c : Nat) (w : World) (ha : a.natAbs < 256 ^ 64) (hb : b.natAbs < 256 ^ 64) (hc : c < 256 ^ 20) (hq : sg a ≠ sg b) (h0 : c * b.natAbs ≠ 0) (hg : a.natAbs < c * b.natAbs) :
  Calls Tryz.prog 106 #[.agg #[.bool (sg (a)), .string (E (a).natAbs)], .string (E c), .agg #[.bool (sg (b)), .string (E (b).natAbs)]] w fun e w' => e = .returned (.agg #[.bool (sg (a + (c : Int) * b)), .string (E (a + (c : Int) * b).natAbs)]) ∧ Below w.heap.size w w' := by
 have hPl : c * b.natAbs < 256 ^ 84 := mul_lt_pw hc hb (by decide)
 have szx : ∀ {n k : Nat}, n < 256 ^ k → k ≤ 128 → (E n).size ≤ 128 := fun h hk => Nat.le_trans ((E_size_le _ _).2 h) hk
 have HTI : Hid (∀ w, Calls Tryz.prog 46 #[.string (E c), .string (E b.natAbs)] w fun e w' => e = .returned (.string (E (c * b.natAbs))) ∧ Below w.heap.size w w') := fun w => rtimes_c _ _ w (Nat.le_trans (szx hc (by decide)) (by decide)) (Nat.le_trans (szx hb (by decide)) (by decide))
 obtain ⟨P, hP⟩ : ∃ P, P = c * b.natAbs := ⟨_, rfl⟩
 rw [← hP] at HTI hPl hg h0
 have hsa := szx ha (by decide)
 have hsp := szx hPl (by decide)
 have HO : Hid (∀ w, Calls Tryz.prog 44 #[.string (E a.natAbs), .string (E P)] w fun e w' => e = .returned (.int .i64 (cmpN a.natAbs P)) ∧ Below w.heap.size w w') := fun w => rorder_c _ _ w (by omega) (by omega)
 have HT : Hid (∀ w, Calls Tryz.prog 47 #[.string (E P), .string (E a.natAbs)] w fun e w' => e = .returned (.string (E (P - a.natAbs))) ∧ Below w.heap.size w w') := fun w => rminus_c _ _ w (by omega) (by omega)
 have hxy : (E (P - a.natAbs)).size ≤ 128 := szx (Nat.lt_of_le_of_lt (Nat.sub_le _ _) hPl) (by decide)
 have HF : Hid (∀ w, Calls Tryz.prog 76 #[.bool (sg b), .string (E (P - a.natAbs))] w fun e w' => e = .returned (.agg #[.bool (sg (a + (c : Int) * b)), .string (E (a + (c : Int) * b).natAbs)]) ∧ Below w.heap.size w w') := fun w => rmake_c (sg b) (P - a.natAbs) _ w (by omega) (pl_lt a b c P hP hq hg)
 have hqb : (sg a == sg b) = false := by rw [beq_eq_false_iff_ne]; exact hq
 have hz0 := nzE2 (Nat.pos_of_ne_zero h0)
 have hz1 := nzE (Nat.pos_of_ne_zero h0)
 obtain ⟨q1, hq1⟩ : ∃ q : Int, q = cmpN a.natAbs P := ⟨_, rfl⟩
 rw [← hq1] at HO
 have hd1 : decide (0 ≤ q1) = false := by rw [hq1]; exact decide_eq_false (by have := cmp_neg a.natAbs P hg; omega)
 generalize P - a.natAbs = n at HT HF
 generalize hz : a + (c : Int) * b = z at HF ⊢
 have HQ := Lib.hid hq
 clear ha hb hc hPl szx hsa hsp hxy hz hP hq hg h0 hq1
 have hA := blk3a w #[Value.bool (sg a), Value.string (E a.natAbs)] #[Value.bool (sg b), Value.string (E b.natAbs)] #[Value.bool false, Value.string { data := #[] }] 72 72 72
 have hB := blk3b w #[Value.bool (sg a), Value.string (E a.natAbs)] #[Value.bool (sg b), Value.string (E b.natAbs)] #[Value.bool false, Value.string { data := #[] }] 72 72 72
 have hC := blk3c w #[Value.bool (sg a), Value.string (E a.natAbs)] #[Value.bool (sg b), Value.string (E b.natAbs)] #[Value.bool false, Value.string { data := #[] }] 72 72 72
 have hBW := b3 w (.cells #[Value.bool (sg a), Value.string (E a.natAbs)] 72) (.cells #[Value.bool (sg b), Value.string (E b.natAbs)] 72) (.cells #[Value.bool false, Value.string { data := #[] }] 72)
 obtain ⟨hAc0, hAf0, hAc1, hAf1⟩ := hA.x2
 obtain ⟨hBc0, hBf0, hBc1, hBf1⟩ := hB.x2
 go_enter Tryz.func106, Tryz.ntmps106
 go_wp2_with fail
 refine (HTI.out _).mono ?_
 rintro e w2 ⟨rfl, hb2⟩
 clear hAc0 hAf0 hAc1 hAf1
 clear hBc0 hBf0 hBc1 hBf1
 replace hA := hA.after hb2
 replace hB := hB.after hb2
 replace hC := hC.after hb2
 replace hBW := bt hBW hb2
 clear hb2 HTI
 obtain ⟨hAc0, hAf0, hAc1, hAf1⟩ := hA.x2
 obtain ⟨hBc0, hBf0, hBc1, hBf1⟩ := hB.x2
 go_wp2_with fail
 refine (HO.out _).mono ?_
 rintro e w3 ⟨rfl, hb3⟩
 clear hAc0 hAf0 hAc1 hAf1
 clear hBc0 hBf0 hBc1 hBf1
 replace hA := hA.after hb3
 replace hB := hB.after hb3
 replace hC := hC.after hb3
 replace hBW := bt hBW hb3
 clear hb3 HO
 have hAl := hA.lt
 have hBl := hB.lt
 obtain ⟨hAc0, hAf0, hAc1, hAf1⟩ := hA.x2
 obtain ⟨hBc0, hBf0, hBc1, hBf1⟩ := hB.x2
 have hAg0 := hA.gcell 0
 have hAg1 := hA.gcell 1
 have hBg0 := hB.gcell 0
 have hBg1 := hB.gcell 1
 go_upto_region 6 with fail
 go_wp2_with fail
 refine wp_region_gw_tail 7 (by kernel_rfl) (by kernel_rfl) ?_
 simp only [List.take_succ_cons, List.take_zero, List.drop_succ_cons, List.drop_zero]
 repeat (go_big_quiet_step (first | (go_at_call 47; exact gw_of (HT.out _)) | (go_at_call 76; exact gw_of (HF.out _))))
 refine wpQuiet_nil ?_
 rintro w9 ⟨xw9, rfl⟩
 have hb9 := gw_below xw9
 generalize gw xw9 = w9 at hb9
 clear hAc0 hAf0 hAc1 hAf1
 clear hBc0 hBf0 hBc1 hBf1
 clear hAg0 hAg1
 clear hBg0 hBg1
 have hC9 := hC.after hb9
 obtain ⟨hC9c0, hC9f0, hC9c1, hC9f1⟩ := hC9.x2
 go_wp2
 refine bodyPost_ret (v := .agg #[.bool (sg (z)), .string (E (z).natAbs)]) ?_ rfl ⟨rfl, ?_⟩
 ·simp [results, Tryz.results106, go_sem, hC9c0, hC9c1]
 ·exact ((bt hBW hb9).setCell (by simp; omega) _).setCell (by simp; omega) _

theorem rplus16_c (a b : Int) (c : Nat) (w : World) (ha : a.natAbs < 256 ^ 64) (hb : b.natAbs < 256 ^ 64) (hc : c < 256 ^ 20) :
  Calls Tryz.prog 106 #[.agg #[.bool (sg (a)), .string (E (a).natAbs)], .string (E c), .agg #[.bool (sg (b)), .string (E (b).natAbs)]] w fun e w' => e = .returned (.agg #[.bool (sg (a + (c : Int) * b)), .string (E (a + (c : Int) * b).natAbs)]) ∧ Below w.heap.size w w' := by
 by_cases hq : sg a = sg b ∨ c * b.natAbs = 0
 ·exact rpl_same a b c w ha hb hc hq
 ·have h1 : sg a ≠ sg b := fun h => hq (.inl h)
  have h2 : c * b.natAbs ≠ 0 := fun h => hq (.inr h)
  rcases Nat.lt_or_ge a.natAbs (c * b.natAbs) with hg | hg
  ·exact rpl_lt a b c w ha hb hc h1 h2 hg
  ·exact rpl_ge a b c w ha hb hc h1 h2 hg

set_option maxHeartbeats 3200000 in
theorem rresp16_c (N : NSta) (v1 v2 v3 : Value) (j c : Nat) (m z : Int) (w : World) (hm : NOk N) (hS : NAt w v1 v2 v3 N) (hj : j < N.vars.length) (h1 : m.natAbs < 256 ^ 64) (h2 : z.natAbs < 256 ^ 64) (hc : c < 256 ^ 20)
  (hnn : N.vars[j] = 0 → 0 ≤ m ∧ 0 ≤ z ∧ 0 < N.ord) :
  Calls Tryz.prog 57 #[.agg #[v1, v2, v3], .int .i64 (j : Int), .agg #[.bool (sg (m)), .string (E (m).natAbs)], .string (E c), .agg #[.bool (sg (z)), .string (E (z).natAbs)]] w fun e w' => e = .returned (.agg #[.bool (sg (rspI N.ord N.vars[j] c m z)), .string (E (rspI N.ord N.vars[j] c m z).natAbs)]) ∧ Below w.heap.size w w' := by
 have HPL : Hid (∀ w, Calls Tryz.prog 106 #[.agg #[.bool (sg (m)), .string (E (m).natAbs)], .string (E c), .agg #[.bool (sg (z)), .string (E (z).natAbs)]] w fun e w' => e = .returned (.agg #[.bool (sg (m + (c : Int) * z)), .string (E (m + (c : Int) * z).natAbs)]) ∧ Below w.heap.size w w') := fun w => rplus16_c m z c w h1 h2 hc
 have HOR : Hid (∀ w', Below w.heap.size w w' → Calls Tryz.prog 45 #[.agg #[v1, v2, v3]] w' fun e w'' => e = .returned (.string (E N.ord)) ∧ Below w'.heap.size w' w'') := fun w' hb => rorder16_c N v1 v2 v3 w' hm (hS.after hb)
 have HSB : Hid ((m + (c : Int) * z).natAbs < 256 ^ 128) := nab_add (n := 84) (Nat.lt_of_lt_of_le h1 (Nat.pow_le_pow_right (by decide) (by decide))) (by rw [nab_mul]; exact mul_lt_pw hc h2 (by decide)) (by decide)
 have HMO : Hid (0 < N.ord → ∀ w, Calls Tryz.prog 107 #[.string (E (m + (c : Int) * z).natAbs), .string (E N.ord)] w fun e w' => e = .returned (.string (E ((m + (c : Int) * z).natAbs % N.ord))) ∧ Below w.heap.size w w') := fun h0 w => rmod3_c _ _ w HSB.out (lt128 (ord_lt hm)) h0
 have HNN : Hid (N.vars[j] = 0 → 0 < N.ord ∧ rspI N.ord N.vars[j] c m z = (((m + (c : Int) * z).natAbs % N.ord : Nat) : Int)) := fun h => by
  obtain ⟨ha, hb, h0⟩ := hnn h
  refine ⟨h0, ?_⟩
  have hp : 0 ≤ (c : Int) * z := Int.mul_nonneg (by omega) hb
  rw [rspI, if_pos h, Int.natCast_emod]
  congr 1
  omega
 have HRN : Hid (N.vars[j] ≠ 0 → rspI N.ord N.vars[j] c m z = m + (c : Int) * z) := fun h => by rw [rspI, if_neg h]
 obtain ⟨a1, c1, a2, c2, a3, c3, rfl, rfl, rfl⟩ := hS.forms
 obtain ⟨n1, hn1⟩ : ∃ n, n = N.grps.length := ⟨_, rfl⟩
 obtain ⟨n2, hn2⟩ : ∃ n, n = N.vars.length := ⟨_, rfl⟩
 obtain ⟨n3, hn3⟩ : ∃ n, n = N.eqs.length := ⟨_, rfl⟩
 have h1k : (j : Int) < (n2 : Int) := by omega
 have h0k : (0 : Int) ≤ (j : Int) := by omega
 rw [← hn1, ← hn2, ← hn3] at hS HOR ⊢
 obtain ⟨b, o, rfl, hbl, x1⟩ := hS.vat hj
 generalize rspI N.ord (N.vars[j]'hj) c m z = rr at HNN HRN ⊢
 generalize (N.vars[j]'hj) = vb at x1 HNN HRN
 generalize N.ord = q at HOR HMO HNN
 clear hm hnn h1 h2 hc hn1 hn2 hn3 hj HSB hS
 generalize m + (c : Int) * z = s at HPL HMO HNN HRN
 have hA := Blk.new w #[.slice a1 n1 c1, .slice (some ⟨b, o, none⟩) n2 c2, .slice a3 n3 c3] 29
 have hBW := b1 w (.cells #[.slice a1 n1 c1, .slice (some ⟨b, o, none⟩) n2 c2, .slice a3 n3 c3] 29)
 have hBC := blk3a (w.alloc (.cells #[.slice a1 n1 c1, .slice (some ⟨b, o, none⟩) n2 c2, .slice a3 n3 c3] 29)) #[Value.bool (sg m), Value.string (E m.natAbs)] #[Value.bool (sg z), Value.string (E z.natAbs)] #[Value.bool false, Value.string { data := #[] }] 72 72 72
 have hCC := blk3b (w.alloc (.cells #[.slice a1 n1 c1, .slice (some ⟨b, o, none⟩) n2 c2, .slice a3 n3 c3] 29)) #[Value.bool (sg m), Value.string (E m.natAbs)] #[Value.bool (sg z), Value.string (E z.natAbs)] #[Value.bool false, Value.string { data := #[] }] 72 72 72
 have hDC := blk3c (w.alloc (.cells #[.slice a1 n1 c1, .slice (some ⟨b, o, none⟩) n2 c2, .slice a3 n3 c3] 29)) #[Value.bool (sg m), Value.string (E m.natAbs)] #[Value.bool (sg z), Value.string (E z.natAbs)] #[Value.bool false, Value.string { data := #[] }] 72 72 72
 have hb4 := b3 (w.alloc (.cells #[.slice a1 n1 c1, .slice (some ⟨b, o, none⟩) n2 c2, .slice a3 n3 c3] 29)) (.cells #[Value.bool (sg m), Value.string (E m.natAbs)] 72) (.cells #[Value.bool (sg z), Value.string (E z.natAbs)] 72) (.cells #[Value.bool false, Value.string { data := #[] }] 72)
 have hAA := hA.after hb4
 replace hBW := bt hBW hb4
 clear hA hb4
 simp only [World.size_alloc] at hBC hCC hDC
 obtain ⟨hBCc0, hBCf0, hBCc1, hBCf1⟩ := hBC.x2
 obtain ⟨hCCc0, hCCf0, hCCc1, hCCf1⟩ := hCC.x2
 go_enter Tryz.func57, Tryz.ntmps57
 go_wp2_with fail
 refine (HPL.out _).mono ?_
 rintro e w2 ⟨rfl, hb2⟩
 clear hBCc0 hBCf0 hBCc1 hBCf1
 clear hCCc0 hCCf0 hCCc1 hCCf1
 have hA2 := hAA.after hb2
 have hD2 := hDC.after hb2
 have hbw2 := bt hBW hb2
 clear hAA hDC hBC hCC hBW hb2 HPL
 have y1 := (hbw2.cell (p := ⟨b, o + j, none⟩) hbl).trans x1
 have hbl2 := Nat.lt_of_lt_of_le hbl hbw2.size
 obtain ⟨gA, hgA⟩ : ∃ g, w.heap.size = g := ⟨_, rfl⟩
 obtain ⟨gD, hgD⟩ : ∃ g, w.heap.size + 1 + 2 = g := ⟨_, rfl⟩
 have hgD2 : w.heap.size + 1 + 1 + 1 = gD := by omega
 rw [hgD] at hD2
 rw [hgA] at hA2
 have HGD : Hid (w.heap.size ≤ gD) := by rw [Hid]; omega
 have HGW : Hid (w.heap.size ≤ w2.heap.size) := hbw2.size
 rw [hgD2, hgA]
 clear hgD2 hgD hgA x1 hbl
 replace hA2 : Blk w2 gA 29 [.slice a1 n1 c1, .slice (some ⟨b, o, none⟩) n2 c2, .slice a3 n3 c3] := hA2
 replace hD2 : Blk w2 gD 72 [.bool false, .string { data := #[] }] := hD2
 have hDl := hD2.lt
 have HNE : Hid (w2.heap.size ≠ gD) := by rw [Hid]; omega
 clear hDl
 have hX := Blk.new w2 #[.bool (sg s), .string (E s.natAbs)] 72
 have hbX := b1 w2 (.cells #[.bool (sg s), .string (E s.natAbs)] 72)
 have hA3 := hA2.after hbX
 have hD3 := hD2.after hbX
 have hbw3 := bt hbw2 hbX
 have y2 := (hbX.cell (p := ⟨b, o + j, none⟩) hbl2).trans y1
 clear hA2 hD2 hbw2 y1 hbl2
 by_cases hv0 : vb = 0
 ·obtain ⟨h0, hr⟩ := HNN.out hv0
  have HMO2 := Lib.hid (HMO.out h0)
  have HR2 := Lib.hid hr
  generalize s.natAbs % q = t at HMO2 HR2
  have hzv := zE hv0
  clear h0 hr HMO HNN HRN hv0
  obtain ⟨hA3c0, hA3f0, hA3c1, hA3f1, hA3c2, hA3f2⟩ := hA3.x3
  go_upto_region 3 with fail
  clear hA3c0 hA3f0 hA3c1 hA3f1 hA3c2 hA3f2
  generalize w2.alloc (.cells #[.bool (sg s), .string (E s.natAbs)] 72) = w3 at hX hbX hA3 hD3 hbw3 y2 ⊢
  obtain ⟨gX, hgX⟩ : ∃ g, w2.heap.size = g := ⟨_, rfl⟩
  have HGX : Hid (w.heap.size ≤ gX) := by rw [Hid, ← hgX]; exact HGW.out
  rw [hgX] at HNE
  rw [hgX] at hX ⊢
  clear hgX
  replace hX : Blk w3 gX 72 [.bool (sg s), .string (E s.natAbs)] := hX
  have hXl := hX.lt
  have hAl := hA3.lt
  have hbb := hbw3
  obtain ⟨hA3c0, hA3f0, hA3c1, hA3f1, hA3c2, hA3f2⟩ := hA3.x3
  obtain ⟨hXc0, hXf0, hXc1, hXf1⟩ := hX.x2
  have hA3g0 := hA3.gcell 0
  have hA3g1 := hA3.gcell 1
  have hA3g2 := hA3.gcell 2
  have hXg0 := hX.gcell 0
  have hXg1 := hX.gcell 1
  go_wp2_with fail
  refine wp_region_gw_tail 6 (by kernel_rfl) (by kernel_rfl) ?_
  simp only [List.take_succ_cons, List.take_zero, List.drop_succ_cons, List.drop_zero]
  repeat (go_big_quiet_step (first | (go_at_call 45; exact gw_of (HOR.out _ (hbb.trans ((gw_below _).mono hbb.size)))) | (go_at_call 107; exact gw_of (HMO2.out _))))
  refine wpQuiet_nil ?_
  rintro w9 ⟨xw9, rfl⟩
  have hb9 := gw_below xw9
  generalize gw xw9 = w9 at hb9
  clear hA3c0 hA3f0 hA3c1 hA3f1 hA3c2 hA3f2
  clear hXc0 hXf0 hXc1 hXf1
  clear hA3g0 hA3g1 hA3g2
  clear hXg0 hXg1
  have hX9 := hX.after hb9
  have hD9 := hD3.after hb9
  have hbw9 := bt hbw3 hb9
  have hX9l := hX9.lt
  have hD9l := hD9.lt
  have hne := HNE.out
  have hne2 : ¬ gD = gX := fun e => hne e.symm
  clear hX hD3 hA3 y2 hXl hAl hbb hb9
  obtain ⟨hX9c0, hX9f0, hX9c1, hX9f1⟩ := hX9.x2
  obtain ⟨hD9c0, hD9f0, hD9c1, hD9f1⟩ := hD9.x2
  go_wp2
  refine bodyPost_ret (v := .agg #[.bool false, .string (E t)]) ?_ rfl ⟨?_, ?_⟩
  ·simp [results, Tryz.results57, go_sem, hX9c0, hX9c1, hD9c0, hD9c1]
  ·rw [HR2.out]; simp [sg_nat]
  ·exact (((hbw9.setCell HGX.out _).setCell HGX.out _).setCell HGD.out _).setCell HGD.out _
 ·have hr := HRN.out hv0
  have hzv := nzE (Nat.pos_of_ne_zero hv0)
  subst hr
  clear HMO HNN HRN hv0 HOR
  obtain ⟨hA3c0, hA3f0, hA3c1, hA3f1, hA3c2, hA3f2⟩ := hA3.x3
  obtain ⟨hXc0, hXf0, hXc1, hXf1⟩ := hX.x2
  obtain ⟨hD3c0, hD3f0, hD3c1, hD3f1⟩ := hD3.x2
  go_wp2
  refine bodyPost_ret (v := .agg #[.bool (sg (rr)), .string (E (rr).natAbs)]) ?_ rfl ⟨rfl, ?_⟩
  ·simp [results, Tryz.results57, go_sem, hXc0, hXc1, hD3c0, hD3c1]
  ·exact (hbw3.setCell HGD.out _).setCell HGD.out _

set_option maxHeartbeats 4000000 in
theorem rinr16_c (N : NSta) (Z : List Int) (v1 v2 v3 v4 : Value) (w : World) (hm : NOk N) (hS : NAt w v1 v2 v3 N) (hZ : ZsAt w v4 Z) (hz : ∀ z ∈ Z, z.natAbs < 256 ^ 64) (hl : Z.length = N.vars.length) :
  Calls Tryz.prog 55 #[.agg #[v1, v2, v3], v4] w fun e w' => e = .returned (.bool (ra N.vars.length (inJ N Z))) ∧ Below w.heap.size w w' := by
 obtain ⟨r, hr⟩ : ∃ r : Bool, r = ra N.vars.length (inJ N Z) := ⟨_, rfl⟩
 have HRES := Lib.hid hr
 rw [← hr]
 clear hr
 have HOR : Hid (∀ w', Below w.heap.size w w' → Calls Tryz.prog 45 #[.agg #[v1, v2, v3]] w' fun e w'' => e = .returned (.string (E N.ord)) ∧ Below w'.heap.size w' w'') := fun w' hb => rorder16_c N v1 v2 v3 w' hm (hS.after hb)
 have HBE : Hid (∀ (j : Nat) (h : j < N.vars.length) (x : Int) (l : Nat), x.natAbs < 256 ^ 64 → l < 256 ^ 16 → ∀ w', Below w.heap.size w w' → Calls Tryz.prog 56 #[.agg #[v1, v2, v3], .int .i64 (j : Int), .agg #[.bool (sg (x)), .string (E (x).natAbs)], .string (E l)] w' fun e w'' => e = .returned (.bool (blw N.vars[j] x l)) ∧ Below w'.heap.size w' w'') := fun j h x l hx hl w' hb =>
  rbelow_c N v1 v2 v3 j x l w' hm (hS.after hb) h (lt64 hx) (Nat.lt_of_lt_of_le hl (Nat.pow_le_pow_right (by decide) (by decide)))
 have HQ := Lib.hid (ord_lt hm)
 have HVS := Lib.hid hm.v
 have HZZ := Lib.hid hz
 obtain ⟨qo, hqo⟩ : ∃ q, q = N.ord := ⟨_, rfl⟩
 have HQO := Lib.hid hqo
 rw [← hqo] at HOR HQ
 obtain ⟨a4, c4, rfl⟩ := hZ.form
 rw [hl] at hZ ⊢
 have HL := Lib.hid hl
 obtain ⟨a1, c1, a2, c2, a3, c3, rfl, rfl, rfl⟩ := hS.forms
 obtain ⟨n1, hn1⟩ : ∃ n, n = N.grps.length := ⟨_, rfl⟩
 obtain ⟨n2, hn2⟩ : ∃ n, n = N.vars.length := ⟨_, rfl⟩
 obtain ⟨n3, hn3⟩ : ∃ n, n = N.eqs.length := ⟨_, rfl⟩
 have HN2 := Lib.hid hn2
 have l2 : n2 ≤ 12 := by rw [hn2]; exact hm.nv
 have HBE2 : Hid (∀ (j : Nat) (h : j < N.vars.length) (x : Int) (l : Nat), x.natAbs < 256 ^ 64 → l < 256 ^ 16 → ∀ w', Below w.heap.size w w' → Calls Tryz.prog 56 #[.agg #[.slice a1 n1 c1, .slice a2 n2 c2, .slice a3 n3 c3], .int .i64 (j : Int), .agg #[.bool (sg (x)), .string (E (x).natAbs)], .string (E l)] w' fun e w'' => e = .returned (.bool (blw N.vars[j] x l)) ∧ Below w'.heap.size w' w'') := by
  rw [hn1, hn2, hn3]; exact HBE.out
 rw [← hn1, ← hn2, ← hn3] at hS HOR ⊢
 rw [← hn2] at hZ
 clear hm hn1 hn2 hn3 hz hl hqo HBE
 have hP := Blk.new w #[.slice a1 n1 c1, .slice a2 n2 c2, .slice a3 n3 c3] 29
 have hBW := b1 w (.cells #[.slice a1 n1 c1, .slice a2 n2 c2, .slice a3 n3 c3] 29)
 replace hS := hS.after hBW
 replace hZ := hZ.after hBW
 obtain ⟨hPc0, hPf0, hPc1, hPf1, hPc2, hPf2⟩ := hP.x3
 go_enter Tryz.func55, Tryz.ntmps55
 go_wp2
 clear hPc0 hPf0 hPc1 hPf1 hPc2 hPf2
 generalize w.alloc (.cells #[.slice a1 n1 c1, .slice a2 n2 c2, .slice a3 n3 c3] 29) = w1 at hP hBW hS hZ ⊢
 obtain ⟨gP, hgP⟩ : ∃ g, w.heap.size = g := ⟨_, rfl⟩
 rw [hgP] at hP ⊢
 clear hgP
 replace hP : Blk w1 gP 29 [.slice a1 n1 c1, .slice a2 n2 c2, .slice a3 n3 c3] := hP
 go_loopw [5] (fun i wr => ∃ k : Nat, k ≤ n2 ∧ i = .int .i64 k ∧ Hid (ra k (inJ N Z) = true) ∧ Below w1.heap.size w1 wr) (fun i _ => n2 - (intOf i).toNat)
 case atStart => exact ⟨0, by omega, rfl, rfl, Below.refl _ _⟩
 case round =>
  obtain ⟨k, hk, rfl, HAL, hbr⟩ := hrel
  obtain ⟨wp, hwp⟩ : ∃ wp, wp = wr := ⟨_, rfl⟩
  subst hwp
  have hBW1 := bt hBW hbr
  have hP1 := hP.after hbr
  by_cases hlt : k < n2
  ·have hkl : k < N.vars.length := by rw [← HN2.out]; exact hlt
   have hkZ : k < Z.length := by rw [HL.out]; exact hkl
   obtain ⟨bv, ov, rfl, hbv, x1⟩ := (hS.after hbr).vat hkl
   obtain ⟨bz, oz, rfl, hbz, z1, z2⟩ := (hZ.after hbr).at_ hkZ
   have HZL := Lib.hid (HZZ.out _ (List.getElem_mem hkZ))
   have HVL := Lib.hid (HVS.out _ (List.getElem_mem hkl))
   have HIJ := Lib.hid (inJ_at N Z k hkl hkZ)
   have HBK := Lib.hid (HBE2.out k hkl)
   rw [← HQO.out] at HIJ
   have HRS : Hid (ra (k + 1) (inJ N Z) = inJ N Z k) := by rw [Hid, ra_succ, HAL.out]; rfl
   have HRB : Hid (inJ N Z k = false → ra N.vars.length (inJ N Z) = false) := fun h => ra_false hkl h
   generalize (N.vars[k]'hkl) = vb at x1 HIJ HVL HBK
   generalize (Z[k]'hkZ) = lz at z1 z2 HIJ HZL
   generalize inJ N Z k = bl at HIJ HRS HRB
   have h0k : (0 : Int) ≤ (k : Int) := by omega
   have h1k : (k : Int) < (n2 : Int) := by omega
   by_cases hv0 : vb = 0
   ·have HBF : Hid (∀ w', Below w.heap.size w w' → Calls Tryz.prog 56 #[.agg #[.slice a1 n1 c1, .slice (some ⟨bv, ov, none⟩) n2 c2, .slice a3 n3 c3], .int .i64 (k : Int), .agg #[.bool (sg (lz)), .string (E (lz).natAbs)], .string (E qo)] w' fun e w'' => e = .returned (.bool bl) ∧ Below w'.heap.size w' w'') := fun w' hb => by
     rw [HIJ.out, if_pos hv0]; exact HBK.out lz qo HZL.out (Nat.lt_of_lt_of_le HQ.out (Nat.pow_le_pow_right (by decide) (by decide))) w' hb
    have hzv := zE hv0
    clear hv0 HIJ HBK HVL HZL
    obtain ⟨hP1c0, hP1f0, hP1c1, hP1f1, hP1c2, hP1f2⟩ := hP1.x3
    go_wp2_with fail
    refine (HOR.out _ hBW1).mono ?_
    rintro e w2 ⟨rfl, hb2⟩
    clear hP1c0 hP1f0 hP1c1 hP1f1 hP1c2 hP1f2
    have hP2 := hP1.after hb2
    have hbe := bt hbr hb2
    have q1 := (hb2.cell (p := ⟨bz, oz + k * 2, none⟩) hbz).trans z1
    have q2 := (hb2.cell (p := ⟨bz, oz + k * 2 + 1, none⟩) hbz).trans z2
    have hbz2 := Nat.lt_of_lt_of_le hbz hb2.size
    have hbb := bt hBW1 hb2
    clear z1 z2 hbz x1 hbv hb2 hP1
    have g1 := gcl (a := ⟨bz, oz + k * 2, none⟩) hbz2 q1
    have g2 := gcl (a := ⟨bz, oz + k * 2 + 1, none⟩) hbz2 q2
    obtain ⟨hP2c0, hP2f0, hP2c1, hP2f1, hP2c2, hP2f2⟩ := hP2.x3
    have hP2g0 := hP2.gcell 0
    have hP2g1 := hP2.gcell 1
    have hP2g2 := hP2.gcell 2
    cases bl
    ·have HRF : Hid (r = false) := by rw [Hid, HRES.out]; exact HRB.out rfl
     go_upto_region 7 with fail
     go_wp2_with fail
     refine wp_region_gw (by kernel_rfl) (by kernel_rfl) ?_
     repeat (go_big_quiet_step (first | (go_at_call 56; exact gw_of (HBF.out _ (hbb.trans ((gw_below _).mono hbb.size))))))
     refine wpQuiet_nil ?_
     rintro w7 ⟨xw7, rfl⟩
     have hb7 := gw_below xw7
     generalize gw xw7 = w7 at hb7
     go_wp2
     go_ret
     rw [HRF.out]
     exact ⟨rfl, bt hBW (bt hbe hb7)⟩
    ·go_upto_region 7 with fail
     go_wp2_with fail
     refine wp_region_gw (by kernel_rfl) (by kernel_rfl) ?_
     repeat (go_big_quiet_step (first | (go_at_call 56; exact gw_of (HBF.out _ (hbb.trans ((gw_below _).mono hbb.size))))))
     refine wpQuiet_nil ?_
     rintro w7 ⟨xw7, rfl⟩
     have hb7 := gw_below xw7
     generalize gw xw7 = w7 at hb7
     go_wp2
     go_roundw
     case rel => exact ⟨k + 1, by omega, by go_num, by rw [Hid, HRS.out], bt hbe hb7⟩
     case measure => simp [intOf]; omega
   ·have HBF : Hid (∀ w', Below w.heap.size w w' → Calls Tryz.prog 56 #[.agg #[.slice a1 n1 c1, .slice (some ⟨bv, ov, none⟩) n2 c2, .slice a3 n3 c3], .int .i64 (k : Int), .agg #[.bool (sg (lz)), .string (E (lz).natAbs)], .string (E vb)] w' fun e w'' => e = .returned (.bool bl) ∧ Below w'.heap.size w' w'') := fun w' hb => by
     rw [HIJ.out, if_neg hv0]; exact HBK.out lz vb HZL.out HVL.out w' hb
    have hzv := nzE (Nat.pos_of_ne_zero hv0)
    clear hv0 HIJ HBK HVL HZL
    have hP2 := hP1
    have hbe := hbr
    have q1 := z1
    have q2 := z2
    have hbz2 := hbz
    have hbb := hBW1
    clear z1 z2 hP1
    have g1 := gcl (a := ⟨bz, oz + k * 2, none⟩) hbz2 q1
    have g2 := gcl (a := ⟨bz, oz + k * 2 + 1, none⟩) hbz2 q2
    obtain ⟨hP2c0, hP2f0, hP2c1, hP2f1, hP2c2, hP2f2⟩ := hP2.x3
    have hP2g0 := hP2.gcell 0
    have hP2g1 := hP2.gcell 1
    have hP2g2 := hP2.gcell 2
    cases bl
    ·have HRF : Hid (r = false) := by rw [Hid, HRES.out]; exact HRB.out rfl
     go_upto_region 7 with fail
     go_wp2_with fail
     refine wp_region_gw (by kernel_rfl) (by kernel_rfl) ?_
     repeat (go_big_quiet_step (first | (go_at_call 56; exact gw_of (HBF.out _ (hbb.trans ((gw_below _).mono hbb.size))))))
     refine wpQuiet_nil ?_
     rintro w7 ⟨xw7, rfl⟩
     have hb7 := gw_below xw7
     generalize gw xw7 = w7 at hb7
     go_wp2
     go_ret
     rw [HRF.out]
     exact ⟨rfl, bt hBW (bt hbe hb7)⟩
    ·go_upto_region 7 with fail
     go_wp2_with fail
     refine wp_region_gw (by kernel_rfl) (by kernel_rfl) ?_
     repeat (go_big_quiet_step (first | (go_at_call 56; exact gw_of (HBF.out _ (hbb.trans ((gw_below _).mono hbb.size))))))
     refine wpQuiet_nil ?_
     rintro w7 ⟨xw7, rfl⟩
     have hb7 := gw_below xw7
     generalize gw xw7 = w7 at hb7
     go_wp2
     go_roundw
     case rel => exact ⟨k + 1, by omega, by go_num, by rw [Hid, HRS.out], bt hbe hb7⟩
     case measure => simp [intOf]; omega
  ·obtain rfl : n2 = k := by omega
   have HRF : Hid (r = true) := by rw [Hid, HRES.out, ← HN2.out]; exact HAL.out
   go_wp2
   go_ret
   rw [HRF.out]
   exact ⟨rfl, hBW1⟩

end Go.Proofs.YtcfjcenmcpankaaGreatDoor
end

section
set_option linter.unusedVariables false
set_option linter.unusedSimpArgs false
set_option maxRecDepth 100000
namespace Go.Proofs.YtcfjcenmcpankaaGreatDoor
open Go.RowKit Go.Shelf

theorem blw_nn {x : Int} {l : Nat} (h : blw 0 x l = true) : 0 ≤ x := by
 apply Classical.byContradiction
 intro hn
 unfold blw at h
 rw [sg_of_neg (by omega), show vz 0 = true from rfl] at h
 simp at h

set_option maxHeartbeats 1600000 in
theorem rresp_err (C K ch : ByteArray) (v1 v2 v3 vw vm : Value) (k : Nat) (w : World) (hk : k ≠ 0)
  (hch : ∀ w', Below w.heap.size w w' → Calls Tryz.prog 14 #[.agg #[.string C, .string K], .agg #[v1, v2, v3]] w' fun e w'' => e = .returned (.tuple #[.slice none 0 0, .slice none 0 0, .int .i64 k]) ∧ Below w'.heap.size w' w'') :
  Calls Tryz.prog 18 #[.agg #[.string C, .string K], .agg #[v1, v2, v3], vw, vm, .string ch] w (EPost w k []) := by
 have HCH := Lib.hid hch
 have hkb : ((k : Int) != 0) = true := by rw [bne_iff_ne]; omega
 have hR := blk2a w #[.string C, .string K] #[v1, v2, v3] 24 29
 have hP := blk2b w #[.string C, .string K] #[v1, v2, v3] 24 29
 have hBW := b2 w (.cells #[.string C, .string K] 24) (.cells #[v1, v2, v3] 29)
 clear hch hk
 obtain ⟨hRc0, hRf0, hRc1, hRf1⟩ := hR.x2
 obtain ⟨hPc0, hPf0, hPc1, hPf1, hPc2, hPf2⟩ := hP.x3
 go_enter Tryz.func18, Tryz.ntmps18
 go_wp2_with fail
 refine (HCH.out _ hBW).mono ?_
 rintro e w2 ⟨rfl, hb2⟩
 go_wp2
 go_ret2
 exact epost_err rfl (bt hBW hb2)

set_option maxHeartbeats 3200000 in
theorem rresp_form (C K ch : ByteArray) (l m : List (Bool × ByteArray)) (v1 v2 v3 vw vm : Value) (w : World)
  (hch : ∀ w', Below w.heap.size w w' → Calls Tryz.prog 14 #[.agg #[.string C, .string K], .agg #[v1, v2, v3]] w' fun e w'' => ∃ v u, e = .returned (.tuple #[v, u, .int .i64 0]) ∧ Below w'.heap.size w' w'')
  (hn1 : l.length ≤ 1000) (hs1 : ∀ x ∈ l, x.2.size ≤ 1000) (hn2 : m.length ≤ 1000) (hs2 : ∀ x ∈ m, x.2.size ≤ 1000) (hsc : ch.size ≤ 1000) (hW : IsAt w vw l) (hM : IsAt w vm m) (hb : rsB l m ch = false) :
  Calls Tryz.prog 18 #[.agg #[.string C, .string K], .agg #[v1, v2, v3], vw, vm, .string ch] w (EPost w 3 []) := by
 have HCH := Lib.hid hch
 have HVW : Hid (∀ w', Below w.heap.size w w' → Calls Tryz.prog 54 #[vw] w' fun e w'' => e = .returned (.bool (l.all fun x => ivB x.1 x.2)) ∧ Below w'.heap.size w' w'') := fun w' hb => rformed16_c l vw w' hn1 hs1 (IsAt.after hW hb)
 have HVM : Hid (∀ w', Below w.heap.size w w' → Calls Tryz.prog 54 #[vm] w' fun e w'' => e = .returned (.bool (m.all fun x => ivB x.1 x.2)) ∧ Below w'.heap.size w' w'') := fun w' hb => rformed16_c m vm w' hn2 hs2 (IsAt.after hM hb)
 have HVC : Hid (∀ w, Calls Tryz.prog 43 #[.string ch] w fun e w' => e = .returned (.bool (vldB ch)) ∧ w = w') := fun w => rvalid_c ch w (by omega)
 have HB := Lib.hid hb
 have hR := blk2a w #[.string C, .string K] #[v1, v2, v3] 24 29
 have hP := blk2b w #[.string C, .string K] #[v1, v2, v3] 24 29
 have hBW := b2 w (.cells #[.string C, .string K] 24) (.cells #[v1, v2, v3] 29)
 clear hch hn1 hs1 hn2 hs2 hsc hW hM hb
 unfold rsB at HB
 generalize (l.all fun x => ivB x.1 x.2) = b1 at HVW HB
 generalize (m.all fun x => ivB x.1 x.2) = b2 at HVM HB
 generalize vldB ch = b3 at HVC HB
 obtain ⟨hRc0, hRf0, hRc1, hRf1⟩ := hR.x2
 obtain ⟨hPc0, hPf0, hPc1, hPf1, hPc2, hPf2⟩ := hP.x3
 go_enter Tryz.func18, Tryz.ntmps18
 go_wp2_with fail
 refine (HCH.out _ hBW).mono ?_
 rintro e w2 ⟨lv, lu, rfl, hb2⟩
 clear hRc0 hRf0 hRc1 hRf1
 clear hPc0 hPf0 hPc1 hPf1 hPc2 hPf2
 replace hBW := bt hBW hb2
 clear hb2 hR hP HCH
 cases b1
 ·go_wp2_with fail
  refine (HVW.out _ hBW).mono ?_
  rintro e w3 ⟨rfl, hb3⟩
  go_wp2
  go_ret2
  exact epost_err rfl (bt hBW hb3)
 ·cases b2
  ·go_wp2_with fail
   refine (HVW.out _ hBW).mono ?_
   rintro e w3 ⟨rfl, hb3⟩
   replace hBW := bt hBW hb3
   clear hb3
   go_wp2_with fail
   refine (HVM.out _ hBW).mono ?_
   rintro e w4 ⟨rfl, hb4⟩
   go_wp2
   go_ret2
   exact epost_err rfl (bt hBW hb4)
  ·have HB3 : Hid (b3 = false) := HB.out
   rw [HB3.out] at HVC
   go_wp2_with fail
   refine (HVW.out _ hBW).mono ?_
   rintro e w3 ⟨rfl, hb3⟩
   replace hBW := bt hBW hb3
   clear hb3
   go_wp2_with fail
   refine (HVM.out _ hBW).mono ?_
   rintro e w4 ⟨rfl, hb4⟩
   replace hBW := bt hBW hb4
   clear hb4
   go_wp2_with fail
   refine (HVC.out _).mono ?_
   rintro e w5 ⟨rfl, rfl⟩
   go_wp2
   go_ret2
   exact epost_err rfl hBW

set_option maxHeartbeats 8000000 in
theorem rresp_num (N : NSta) (C K c : Nat) (W M : List Int) (v1 v2 v3 vw vm : Value) (w : World) (hC : C < 256 ^ 16) (hK : K < 256 ^ 16) (hm : NOk N) (hS : NAt w v1 v2 v3 N)
  (hch : ∀ w', Below w.heap.size w w' → Calls Tryz.prog 14 #[.agg #[.string (E C), .string (E K)], .agg #[v1, v2, v3]] w' (B2Post w' (N.lims C K)))
  (hW : ZsAt w vw W) (hM : ZsAt w vm M) (hc : c < 256 ^ 100) (hwn : W.length ≤ 1000) (hmn : M.length ≤ 1000) (hwz : ∀ z ∈ W, z.natAbs < 256 ^ 64) (hmz : ∀ z ∈ M, z.natAbs < 256 ^ 64) (hq0 : N.vars.any vz = true → 0 < N.ord) :
  Calls Tryz.prog 18 #[.agg #[.string (E C), .string (E K)], .agg #[v1, v2, v3], vw, vm, .string (E c)] w (EPost w (N.rspE C K c W M) (N.rspR C K c W M)) := by
 obtain ⟨r, hr⟩ : ∃ r : Nat, r = N.rspE C K c W M := ⟨_, rfl⟩
 obtain ⟨rl, hrl⟩ : ∃ r, r = N.rspR C K c W M := ⟨_, rfl⟩
 have HRES := Lib.hid hr
 have HRL := Lib.hid hrl
 rw [← hr, ← hrl]
 clear hr hrl
 have HER : Hid (∀ k, N.rspE C K c W M = k → k ≠ 0 → r = k ∧ rl = []) := fun k h hk => ⟨HRES.out.trans h, HRL.out.trans (rspR_e h hk)⟩
 have HCH := Lib.hid hch
 have hval : ∀ (Z : List Int) (v : Value), (∀ z ∈ Z, z.natAbs < 256 ^ 64) → Z.length ≤ 1000 → ZsAt w v Z → ∀ w', Below w.heap.size w w' → Calls Tryz.prog 54 #[v] w' fun e w'' => e = .returned (.bool true) ∧ Below w'.heap.size w' w'' := fun Z v hz hn hv w' hb =>
  rformedV_c (Z.map zI) v true w' (by rw [List.length_map]; exact hn) (fun x hx => by obtain ⟨z, hz', rfl⟩ := List.mem_map.1 hx; exact Nat.le_trans ((E_size_le _ 64).2 (hz z hz')) (by decide)) (hv.after hb) (by rw [List.all_map, List.all_eq_true]; intro z hz'; exact ivB_I z (lt64 (hz z hz')))
 have HVW := Lib.hid (hval W vw hwz hwn hW)
 have HVM := Lib.hid (hval M vm hmz hmn hM)
 have HVC : Hid (∀ w, Calls Tryz.prog 43 #[.string (E c)] w fun e w' => e = .returned (.bool true) ∧ w = w') := fun w => rvalidE_c c w (Nat.lt_of_lt_of_le hc (Nat.pow_le_pow_right (by decide) (by decide)))
 have HCM : Hid (∀ w, Calls Tryz.prog 44 #[.string (E c), .string (E C)] w fun e w' => e = .returned (.int .i64 (cmpN c C)) ∧ Below w.heap.size w w') := fun w => rorder_c c C w (Nat.le_trans ((E_size_le _ 100).2 hc) (by decide)) (Nat.le_trans ((E_size_le _ 16).2 hC) (by decide))
 obtain ⟨bi, hbi⟩ : ∃ b : Bool, b = ra N.vars.length (inJ N W) := ⟨_, rfl⟩
 have HBI := Lib.hid hbi
 have HIN : Hid (W.length = N.vars.length → ∀ w', Below w.heap.size w w' → Calls Tryz.prog 55 #[.agg #[v1, v2, v3], vw] w' fun e w'' => e = .returned (.bool bi) ∧ Below w'.heap.size w' w'') := fun h w' hb => by rw [hbi]; exact rinr16_c N W v1 v2 v3 vw w' hm (hS.after hb) (hW.after hb) hwz h
 have HLB : Hid (∀ (j : Nat) (h : j < N.vars.length) (x : Int) (l : Nat), x.natAbs < 256 ^ 128 → l < 256 ^ 64 → ∀ w', Below w.heap.size w w' → Calls Tryz.prog 56 #[.agg #[v1, v2, v3], .int .i64 (j : Int), .agg #[.bool (sg (x)), .string (E (x).natAbs)], .string (E l)] w' fun e w'' => e = .returned (.bool (blw N.vars[j] x l)) ∧ Below w'.heap.size w' w'') := fun j h x l hx hl w' hb =>
  rbelow_c N v1 v2 v3 j x l w' hm (hS.after hb) h hx (lt64 hl)
 have HRE : Hid (c < C → ∀ (j : Nat) (h : j < N.vars.length) (m z : Int), m.natAbs < 256 ^ 64 → z.natAbs < 256 ^ 64 → (N.vars[j] = 0 → 0 ≤ m ∧ 0 ≤ z) → ∀ w', Below w.heap.size w w' → Calls Tryz.prog 57 #[.agg #[v1, v2, v3], .int .i64 (j : Int), .agg #[.bool (sg (m)), .string (E (m).natAbs)], .string (E c), .agg #[.bool (sg (z)), .string (E (z).natAbs)]] w' fun e w'' => e = .returned (.agg #[.bool (sg (rspI N.ord N.vars[j] c m z)), .string (E (rspI N.ord N.vars[j] c m z).natAbs)]) ∧ Below w'.heap.size w' w'') := fun hcc j h m z h1 h2 h3 w' hb =>
  rresp16_c N v1 v2 v3 j c m z w' hm (hS.after hb) h h1 h2 (Nat.lt_trans hcc (Nat.lt_of_lt_of_le hC (Nat.pow_le_pow_right (by decide) (by decide)))) (fun e => ⟨(h3 e).1, (h3 e).2, hq0 (by rw [List.any_eq_true]; exact ⟨_, List.getElem_mem h, by rw [e]; rfl⟩)⟩)
 have HSB : Hid (c < C → ∀ (j : Nat) (h : j < N.vars.length) (m z : Int), m.natAbs < 256 ^ 64 → z.natAbs < 256 ^ 64 → (rspI N.ord N.vars[j] c m z).natAbs < 256 ^ 128) := fun hcc j h m z h1 h2 => by
  have hcl : c < 256 ^ 16 := Nat.lt_trans hcc hC
  have hz : (m + (c : Int) * z).natAbs < 256 ^ 128 := nab_add (n := 80) (Nat.lt_of_lt_of_le h1 (Nat.pow_le_pow_right (by decide) (by decide))) (by rw [nab_mul]; exact mul_lt_pw hcl h2 (by decide)) (by decide)
  unfold rspI
  split
  ·rename_i e
   have hq := hq0 (by rw [List.any_eq_true]; exact ⟨_, List.getElem_mem h, by rw [e]; rfl⟩)
   have h3 := Int.emod_nonneg (m + (c : Int) * z) (show (N.ord : Int) ≠ 0 by omega)
   have h4 := Int.emod_lt_of_pos (m + (c : Int) * z) (show (0 : Int) < N.ord by omega)
   have h5 := lt128 (ord_lt hm)
   generalize (256 : Nat) ^ 128 = y at h5
   omega
  ·exact hz
 have HLU : Hid (∀ (j : Nat) (h : j < N.vars.length), (lim N.ord C K N.vars[j]).2 < 256 ^ 64) := fun j h => Nat.lt_of_lt_of_le (lim_lt hm hC hK (List.getElem_mem h)) (Nat.pow_le_pow_right (by decide) (by decide))
 have HWZ := Lib.hid hwz
 have HLT : Hid (∀ (j : Nat) (h : j < N.vars.length), (lim N.ord C K N.vars[j]).1 < 256 ^ 64) := fun j h => by
  unfold lim
  split
  ·exact Nat.lt_of_lt_of_le (ord_lt hm) (Nat.pow_le_pow_right (by decide) (by decide))
  ·exact Nat.lt_of_lt_of_le (lt_mul3 hC hK (hm.v _ (List.getElem_mem h))).2 (Nat.pow_le_pow_right (by decide) (by decide))
 have HMZ := Lib.hid hmz
 obtain ⟨a4, c4, rfl⟩ := hW.form
 obtain ⟨a5, c5, rfl⟩ := hM.form
 obtain ⟨nw, hnw⟩ : ∃ n, n = W.length := ⟨_, rfl⟩
 obtain ⟨nm, hnm⟩ : ∃ n, n = M.length := ⟨_, rfl⟩
 have HNW := Lib.hid hnw
 have HNM := Lib.hid hnm
 rw [← hnw] at hW HVW HIN ⊢
 rw [← hnm] at hM HVM ⊢
 obtain ⟨a1, c1, a2, c2, a3, c3, rfl, rfl, rfl⟩ := hS.forms
 obtain ⟨n1, hn1⟩ : ∃ n, n = N.grps.length := ⟨_, rfl⟩
 obtain ⟨n2, hn2⟩ : ∃ n, n = N.vars.length := ⟨_, rfl⟩
 obtain ⟨n3, hn3⟩ : ∃ n, n = N.eqs.length := ⟨_, rfl⟩
 have HN2 := Lib.hid hn2
 have l2 : n2 ≤ 12 := by rw [hn2]; exact hm.nv
 have lw : nw ≤ 1000 := by rw [hnw]; exact hwn
 have lm : nm ≤ 1000 := by rw [hnm]; exact hmn
 have HLB2 : Hid (∀ (j : Nat) (h : j < N.vars.length) (x : Int) (l : Nat), x.natAbs < 256 ^ 128 → l < 256 ^ 64 → ∀ w', Below w.heap.size w w' → Calls Tryz.prog 56 #[.agg #[.slice a1 n1 c1, .slice a2 n2 c2, .slice a3 n3 c3], .int .i64 (j : Int), .agg #[.bool (sg (x)), .string (E (x).natAbs)], .string (E l)] w' fun e w'' => e = .returned (.bool (blw N.vars[j] x l)) ∧ Below w'.heap.size w' w'') := by
  rw [hn1, hn2, hn3]; exact HLB.out
 have HRE2 : Hid (c < C → ∀ (j : Nat) (h : j < N.vars.length) (m z : Int), m.natAbs < 256 ^ 64 → z.natAbs < 256 ^ 64 → (N.vars[j] = 0 → 0 ≤ m ∧ 0 ≤ z) → ∀ w', Below w.heap.size w w' → Calls Tryz.prog 57 #[.agg #[.slice a1 n1 c1, .slice a2 n2 c2, .slice a3 n3 c3], .int .i64 (j : Int), .agg #[.bool (sg (m)), .string (E (m).natAbs)], .string (E c), .agg #[.bool (sg (z)), .string (E (z).natAbs)]] w' fun e w'' => e = .returned (.agg #[.bool (sg (rspI N.ord N.vars[j] c m z)), .string (E (rspI N.ord N.vars[j] c m z).natAbs)]) ∧ Below w'.heap.size w' w'') := by
  rw [hn1, hn2, hn3]; exact HRE.out
 clear HLB HRE
 rw [← hn1, ← hn2, ← hn3] at hS HCH ⊢
 rw [← hn1, ← hn2, ← hn3] at HIN
 clear hbi hm hn1 hn2 hn3 hnw hnm hC hK hc hch hval hwn hmn hwz hmz hq0
 have hR := blk2a w #[.string (E C), .string (E K)] #[.slice a1 n1 c1, .slice a2 n2 c2, .slice a3 n3 c3] 24 29
 have hP := blk2b w #[.string (E C), .string (E K)] #[.slice a1 n1 c1, .slice a2 n2 c2, .slice a3 n3 c3] 24 29
 have hBW := b2 w (.cells #[.string (E C), .string (E K)] 24) (.cells #[.slice a1 n1 c1, .slice a2 n2 c2, .slice a3 n3 c3] 29)
 replace hS := hS.after hBW
 replace hM := hM.after hBW
 replace hW := hW.after hBW
 obtain ⟨hRc0, hRf0, hRc1, hRf1⟩ := hR.x2
 obtain ⟨hPc0, hPf0, hPc1, hPf1, hPc2, hPf2⟩ := hP.x3
 go_enter Tryz.func18, Tryz.ntmps18
 go_wp2_with fail
 refine (HCH.out _ hBW).mono ?_
 rintro e w2 ⟨lv, lu, rfl, hLO, hUO, hb2⟩
 have hL := hLO.ss
 have hU := hUO.ss
 clear hLO hUO
 clear hRc0 hRf0 hRc1 hRf1
 clear hPc0 hPf0 hPc1 hPf1 hPc2 hPf2
 replace hR := hR.after hb2
 replace hP := hP.after hb2
 replace hS := hS.after hb2
 replace hM := hM.after hb2
 replace hBW := bt hBW hb2
 replace hW := hW.after hb2
 clear hb2 HCH
 obtain ⟨a6, c6, rfl⟩ := RAt.form hL
 obtain ⟨a7, c7, rfl⟩ := RAt.form hU
 have HLL : Hid ((((N.lims C K).map (·.1)).map E).length = n2) := by rw [Hid, List.length_map, List.length_map, NSta.lims, List.length_map, HN2.out]
 have HUL : Hid ((((N.lims C K).map (·.2)).map E).length = n2) := by rw [Hid, List.length_map, List.length_map, NSta.lims, List.length_map, HN2.out]
 rw [HLL.out] at hL ⊢
 rw [HUL.out] at hU ⊢
 go_wp2_with fail
 refine (HVW.out _ hBW).mono ?_
 rintro e w3 ⟨rfl, hb3⟩
 replace hR := hR.after hb3
 replace hP := hP.after hb3
 replace hS := hS.after hb3
 replace hM := hM.after hb3
 replace hL := SsAt.after hL hb3
 replace hU := SsAt.after hU hb3
 replace hW := hW.after hb3
 replace hBW := bt hBW hb3
 clear hb3 HVW
 go_wp2_with fail
 refine (HVM.out _ hBW).mono ?_
 rintro e w4 ⟨rfl, hb4⟩
 replace hR := hR.after hb4
 replace hP := hP.after hb4
 replace hS := hS.after hb4
 replace hM := hM.after hb4
 replace hL := SsAt.after hL hb4
 replace hU := SsAt.after hU hb4
 replace hW := hW.after hb4
 replace hBW := bt hBW hb4
 clear hb4 HVM
 go_wp2_with fail
 refine (HVC.out _).mono ?_
 rintro e w' ⟨rfl, rfl⟩
 clear HVC
 by_cases hln : nw = n2 ∧ nm = n2
 ·obtain ⟨e1, e2⟩ := hln
  have HL1 : Hid (W.length = N.vars.length) := by rw [Hid, ← HNW.out, ← HN2.out]; exact e1
  have HL2 : Hid (M.length = N.vars.length) := by rw [Hid, ← HNM.out, ← HN2.out]; exact e2
  have e3 : nw = nm := e1.trans e2.symm
  subst e1
  clear e2
  subst e3
  rcases Nat.lt_or_ge c C with hcl | hcg
  ·have hcm := cmp_neg c C hcl
   have hcm2 : ¬ 0 ≤ cmpN c C := by omega
   have hd : decide (0 ≤ cmpN c C) = false := decide_eq_false hcm2
   have HCL := Lib.hid hcl
   clear hcl hcm
   generalize cmpN c C = q at HCM hd hcm2
   have HIN2 := Lib.hid (HIN.out rfl)
   have HREC := Lib.hid (HRE2.out HCL.out)
   have HSBC := Lib.hid (HSB.out HCL.out)
   clear HIN HRE2 HSB
   obtain ⟨hRc0, hRf0, hRc1, hRf1⟩ := hR.x2
   obtain ⟨hPc0, hPf0, hPc1, hPf1, hPc2, hPf2⟩ := hP.x3
   go_wp2_with fail
   refine (HCM.out _).mono ?_
   rintro e wo ⟨rfl, hbo⟩
   clear hRc0 hRf0 hRc1 hRf1
   clear hPc0 hPf0 hPc1 hPf1 hPc2 hPf2
   replace hR := hR.after hbo
   replace hP := hP.after hbo
   replace hS := hS.after hbo
   replace hM := hM.after hbo
   replace hL := SsAt.after hL hbo
   replace hU := SsAt.after hU hbo
   replace hW := hW.after hbo
   replace hBW := bt hBW hbo
   clear HCM hbo
   obtain ⟨hPc0, hPf0, hPc1, hPf1, hPc2, hPf2⟩ := hP.x3
   have HRI : Hid (bi = false → r = 2 ∧ rl = []) := fun h => HER.out 2 (rspE_w HL1.out HL2.out HCL.out (HBI.out.symm.trans h)) (by decide)
   have HRJ : Hid (bi = true → ra N.vars.length (mkJ N C K M) = false → r = 2 ∧ rl = []) := fun h h' => HER.out 2 (rspE_m HL1.out HL2.out HCL.out (HBI.out.symm.trans h) h') (by decide)
   have HRK : Hid (bi = true → ra N.vars.length (mkJ N C K M) = true → r = N.rsp2 C K c W M ∧ rl = N.rspR2 C K c W M) := fun h h' => by
    have e := rspE_r (K := K) HL1.out HL2.out HCL.out (HBI.out.symm.trans h) h'
    exact ⟨HRES.out.trans e.1, HRL.out.trans e.2⟩
   go_wp2_with fail
   refine (HIN2.out _ hBW).mono ?_
   rintro e w5 ⟨rfl, hb5⟩
   clear hPc0 hPf0 hPc1 hPf1 hPc2 hPf2
   replace hR := hR.after hb5
   replace hP := hP.after hb5
   replace hS := hS.after hb5
   replace hM := hM.after hb5
   replace hL := SsAt.after hL hb5
   replace hU := SsAt.after hU hb5
   replace hW := hW.after hb5
   replace hBW := bt hBW hb5
   clear hb5 HIN2
   cases bi
   ·have HX := Lib.hid (HRI.out rfl)
    go_wp2
    go_ret2
    rw [HX.out.1, HX.out.2]
    exact epost_err rfl hBW
   ·have HRJ2 := Lib.hid (HRJ.out rfl)
    have HRK2 := Lib.hid (HRK.out rfl)
    clear HRI HRJ HRK HER HRES HRL hd hcm2 hR
    obtain ⟨hPc0, hPf0, hPc1, hPf1, hPc2, hPf2⟩ := hP.x3
    go_wp2
    clear hPc0 hPf0 hPc1 hPf1 hPc2 hPf2
    have hs5 := hBW.size
    go_loopw [15] (fun i wr => ∃ k : Nat, k ≤ nw ∧ i = .int .i64 k ∧ Hid (∀ j, j < k → mkJ N C K M j = true) ∧ Below w5.heap.size w5 wr) (fun i _ => nw - (intOf i).toNat)
    case atStart => exact ⟨0, by omega, rfl, fun j h => absurd h (Nat.not_lt_zero _), Below.refl _ _⟩
    case round =>
     obtain ⟨k, hk, rfl, HA, hbr⟩ := hrel
     obtain ⟨wq, hwq⟩ : ∃ wp, wp = wr := ⟨_, rfl⟩
     subst hwq
     replace hBW := bt hBW hbr
     replace hP := hP.after hbr
     replace hL := SsAt.after hL hbr
     replace hU := SsAt.after hU hbr
     replace hW := hW.after hbr
     replace hM := hM.after hbr
     by_cases hlt : k < nw
     ·have hkl : k < N.vars.length := by rw [← HN2.out]; exact hlt
      have hkM : k < M.length := by rw [← HNM.out]; exact hlt
      have hkL : k < (((N.lims C K).map (·.1)).map E).length := by rw [HLL.out]; exact hlt
      have HBJ := Lib.hid (mkJ_at N C K M k hkl hkM)
      obtain ⟨b', o', rfl, hbl', y1, y2⟩ := hM.at_ hkM
      obtain ⟨b6, o6, rfl, hbl6, z1⟩ := SsAt.at_ hL hkL
      rw [show (((N.lims C K).map (·.1)).map E)[k] = E (lim N.ord C K (N.vars[k]'hkl)).1 by simp [NSta.lims]] at z1
      have HLK := Lib.hid (HLT.out k hkl)
      have HMK := Lib.hid (HMZ.out _ (List.getElem_mem hkM))
      have HBE : Hid (∀ w', Below wq.heap.size wq w' → Calls Tryz.prog 56 #[.agg #[.slice a1 n1 c1, .slice a2 nw c2, .slice a3 n3 c3], .int .i64 (k : Int), .agg #[.bool (sg ((M[k]'hkM))), .string (E ((M[k]'hkM)).natAbs)], .string (E (lim N.ord C K (N.vars[k]'hkl)).1)] w' fun e w'' => e = .returned (.bool (mkJ N C K M k)) ∧ Below w'.heap.size w' w'') := fun w' hb => by
       rw [HBJ.out]; exact HLB2.out k hkl _ _ (lt64 HMK.out) HLK.out w' (bt hBW hb)
      generalize (lim N.ord C K (N.vars[k]'hkl)).1 = la at z1 HBE
      generalize (M[k]'hkM) = zz at y1 y2 HBE
      have HRF : Hid (mkJ N C K M k = false → r = 2 ∧ rl = []) := fun h => HRJ2.out (ra_false hkl h)
      have HX : Hid (mkJ N C K M k = true → ∀ j, j < k + 1 → mkJ N C K M j = true) := fun h j hj => by
       by_cases e : j = k
       ·rw [e]; exact h
       ·exact HA.out j (by omega)
      generalize mkJ N C K M k = bl at HBE HRF HX
      clear HBJ HLK HMK
      have h0k : (0 : Int) ≤ (k : Int) := by omega
      have h1k : (k : Int) < (nw : Int) := by omega
      have g1 := gcl (a := ⟨b', o' + k * 2, none⟩) hbl' y1
      have g2 := gcl (a := ⟨b', o' + k * 2 + 1, none⟩) hbl' y2
      have g3 := gcl (a := ⟨b6, o6 + k, none⟩) hbl6 z1
      obtain ⟨hPc0, hPf0, hPc1, hPf1, hPc2, hPf2⟩ := hP.x3
      have hPg0 := hP.gcell 0
      have hPg1 := hP.gcell 1
      have hPg2 := hP.gcell 2
      cases bl
      ·have HX2 := Lib.hid (HRF.out rfl)
       go_upto_region 13 with fail
       go_wp2_with fail
       refine wp_region_gw (by kernel_rfl) (by kernel_rfl) ?_
       repeat (go_big_quiet_step (first | (go_at_call 56; exact gw_of (HBE.out _ (gw_below _)))))
       refine wpQuiet_nil ?_
       rintro w7 ⟨xw7, rfl⟩
       have hb7 := gw_below xw7
       generalize gw xw7 = w7 at hb7
       go_wp2
       go_ret2
       rw [HX2.out.1, HX2.out.2]
       exact epost_err rfl (bt hBW hb7)
      ·have HX2 := Lib.hid (HX.out rfl)
       go_upto_region 13 with fail
       go_wp2_with fail
       refine wp_region_gw (by kernel_rfl) (by kernel_rfl) ?_
       repeat (go_big_quiet_step (first | (go_at_call 56; exact gw_of (HBE.out _ (gw_below _)))))
       refine wpQuiet_nil ?_
       rintro w7 ⟨xw7, rfl⟩
       have hb7 := gw_below xw7
       generalize gw xw7 = w7 at hb7
       go_wp2
       go_roundw
       case rel => exact ⟨k + 1, by omega, by go_num, HX2.out, bt hbr hb7⟩
       case measure => simp [intOf]; omega
     ·have HMA : Hid (ra N.vars.length (mkJ N C K M) = true) := ra_true fun j hj => HA.out j (by have := HN2.out; omega)
      have HX := Lib.hid (HRK2.out HMA.out)
      obtain ⟨i1, hi1, hz10, hz11, hz12⟩ := info_parts info_Int
      have HI1 := Lib.hid hi1
      have HA1 := Lib.hid hz10
      have HB1 := Lib.hid hz11
      have HC1 := Lib.hid hz12
      clear hi1 hz10 hz11 hz12 HRJ2 HRK2 HA hbr
      obtain ⟨hPc0, hPf0, hPc1, hPf1, hPc2, hPf2⟩ := hP.x3
      go_wp2
      clear hPc0 hPf0 hPc1 hPf1 hPc2 hPf2
      go_loopw [16, 17] (fun v16 i wr => ∃ k : Nat, k ≤ nw ∧ i = .int .i64 k ∧ Hid (∀ j, j < k → rsJ N C K c W M j = true) ∧ ZOwn wr wq.heap.size v16 ((N.rspL c W M).take k) ∧ Below wq.heap.size wq wr) (fun _ i _ => nw - (intOf i).toNat)
      case atStart => exact ⟨0, by omega, rfl, fun j h => absurd h (Nat.not_lt_zero _), World.ownsRow_nil _ _ _ _, Below.refl _ _⟩
      case round =>
       clear hlt hk
       obtain ⟨k, hk, rfl, HAL, hO, hbr⟩ := hrel
       obtain ⟨wp, hwp⟩ : ∃ wp, wp = wr := ⟨_, rfl⟩
       subst hwp
       have hBWp := bt hBW hbr
       have hPp := hP.after hbr
       by_cases hlt : k < nw
       ·have hkl : k < N.vars.length := by rw [← HN2.out]; exact hlt
        have hkM : k < M.length := by rw [← HNM.out]; exact hlt
        have hkW : k < W.length := by rw [← HNW.out]; exact hlt
        have hkU : k < (((N.lims C K).map (·.2)).map E).length := by rw [HUL.out]; exact hlt
        have HST := Lib.hid (rsp_step N c W M k hkl hkM hkW)
        have HRJ := Lib.hid (rsJ_at N C K c W M k hkl hkM hkW)
        obtain ⟨bz, oz, rfl, hbz, z1, z2⟩ := (hW.after hbr).at_ hkW
        obtain ⟨by_, oy, rfl, hby, y1, y2⟩ := (hM.after hbr).at_ hkM
        obtain ⟨bu, ou, rfl, hbu, u1⟩ := SsAt.at_ (SsAt.after hU hbr) hkU
        rw [show (((N.lims C K).map (·.2)).map E)[k] = E (lim N.ord C K (N.vars[k]'hkl)).2 by simp [NSta.lims]] at u1
        have HZL := Lib.hid (HWZ.out _ (List.getElem_mem hkW))
        have HYS := Lib.hid (HMZ.out _ (List.getElem_mem hkM))
        have hnn : N.vars[k]'hkl = 0 → 0 ≤ M[k]'hkM ∧ 0 ≤ W[k]'hkW := fun e => by
         have g1 := ra_at HMA.out hkl
         have g2 := ra_at (HBI.out.symm) hkl
         rw [mkJ_at N C K M k hkl hkM, e] at g1
         rw [inJ_at N W k hkl hkW, e] at g2
         exact ⟨blw_nn g1, blw_nn g2⟩
        have HRS : Hid (∀ w', Below wp.heap.size wp w' → Calls Tryz.prog 57 #[.agg #[.slice a1 n1 c1, .slice a2 nw c2, .slice a3 n3 c3], .int .i64 (k : Int), .agg #[.bool (sg ((M[k]'hkM))), .string (E ((M[k]'hkM)).natAbs)], .string (E c), .agg #[.bool (sg ((W[k]'hkW))), .string (E ((W[k]'hkW)).natAbs)]] w' fun e w'' => e = .returned (.agg #[.bool (sg (rspI N.ord (N.vars[k]'hkl) c (M[k]'hkM) (W[k]'hkW))), .string (E (rspI N.ord (N.vars[k]'hkl) c (M[k]'hkM) (W[k]'hkW)).natAbs)]) ∧ Below w'.heap.size w' w'') := fun w' hb => HREC.out k hkl _ _ HYS.out HZL.out hnn w' (bt hBWp hb)
        have HBE : Hid (∀ w', Below wp.heap.size wp w' → Calls Tryz.prog 56 #[.agg #[.slice a1 n1 c1, .slice a2 nw c2, .slice a3 n3 c3], .int .i64 (k : Int), .agg #[.bool (sg (rspI N.ord (N.vars[k]'hkl) c (M[k]'hkM) (W[k]'hkW))), .string (E (rspI N.ord (N.vars[k]'hkl) c (M[k]'hkM) (W[k]'hkW)).natAbs)], .string (E (lim N.ord C K (N.vars[k]'hkl)).2)] w' fun e w'' => e = .returned (.bool (rsJ N C K c W M k)) ∧ Below w'.heap.size w' w'') := fun w' hb => by
         rw [HRJ.out]; exact HLB2.out k hkl _ _ (HSBC.out k hkl _ _ HYS.out HZL.out) (HLU.out k hkl) w' (bt hBWp hb)
        have HRA : Hid (rsJ N C K c W M k = false → r = 15 ∧ rl = []) := fun h => by
         have e := rsp2_15 (N := N) (C := C) (K := K) (c := c) (W := W) (M := M) (ra_false hkl h)
         exact ⟨HX.out.1.trans e.1, HX.out.2.trans e.2⟩
        have HRT : Hid (rsJ N C K c W M k = true → ∀ j, j < k + 1 → rsJ N C K c W M j = true) := fun h j hj => by
         by_cases e : j = k
         ·rw [e]; exact h
         ·exact HAL.out j (by omega)
        clear HAL HRJ hnn HZL HYS
        generalize rsJ N C K c W M k = bl at HBE HRA HRT
        generalize rspI N.ord (N.vars[k]'hkl) c (M[k]'hkM) (W[k]'hkW) = dz at HRS HBE HST
        generalize (lim N.ord C K (N.vars[k]'hkl)).2 = lb at u1 HBE
        generalize (W[k]'hkW) = lz at z1 z2 HRS
        generalize (M[k]'hkM) = ly at y1 y2 HRS
        have hLE : Hid (((N.rspL c W M).take k).length = k) := by rw [Hid, List.length_take, NSta.rspL, List.length_map, List.length_range]; omega
        generalize (N.rspL c W M).take k = LI at hO HST hLE
        replace hO : wp.ownsRow wq.heap.size 72 2 u16 k (ics (LI.map zI)) := by have h : wp.ownsRow _ _ _ _ _ _ := hO; rw [hLE.out] at h; exact h
        have h0k : (0 : Int) ≤ (k : Int) := by omega
        have h1k : (k : Int) < (nw : Int) := by omega
        have hPl := hPp.lt
        have hP0 := hPp.cell 0
        have hP1 := hPp.cell 1
        have hP2 := hPp.cell 2
        go_upto_region 19 with fail
        obtain ⟨cl, hcl⟩ : ∃ l : List (Addr × Value), l = [(⟨w.heap.size + 1, 0, none⟩, .slice a1 n1 c1), (⟨w.heap.size + 1, 1, none⟩, .slice a2 nw c2), (⟨w.heap.size + 1, 2, none⟩, .slice a3 n3 c3), (⟨by_, oy + k * 2, none⟩, .bool (sg ly)), (⟨by_, oy + k * 2 + 1, none⟩, .string (E ly.natAbs)), (⟨bz, oz + k * 2, none⟩, .bool (sg lz)), (⟨bz, oz + k * 2 + 1, none⟩, .string (E lz.natAbs))] := ⟨_, rfl⟩
        have HCL := Lib.hid hcl
        clear hcl
        have hC : CA wp cl := by
         rw [HCL.out]
         exact (CA.cons hPl hP0 (CA.cons hPl hP1 (CA.cons hPl hP2 (CA.cons hby y1 (CA.cons hby y2 (CA.cons hbz z1 (CA.cons hbz z2 (CA.nil _))))))))
        have hneA := fun x hx => Nat.ne_of_lt (hC x hx).1
        go_cut [18] (fun s18 wx => ZBx wp (.bool (sg dz)) (.string (E dz.natAbs)) s18 wx)
        case first =>
         clear hPp u1 hbu hO hbr hBWp
         go_region_held3 (fun w' => w'.cell? ⟨w.heap.size + 1, 0, none⟩ = some (.slice a1 n1 c1) ∧ w'.cell? ⟨w.heap.size + 1, 1, none⟩ = some (.slice a2 nw c2) ∧ w'.cell? ⟨w.heap.size + 1, 2, none⟩ = some (.slice a3 n3 c3) ∧ w'.cell? ⟨by_, oy + k * 2, none⟩ = some (.bool (sg ly)) ∧ w'.cell? ⟨by_, oy + k * 2 + 1, none⟩ = some (.string (E ly.natAbs)) ∧ w'.cell? ⟨bz, oz + k * 2, none⟩ = some (.bool (sg lz)) ∧ w'.cell? ⟨bz, oz + k * 2 + 1, none⟩ = some (.string (E lz.natAbs))) ((refine CA.k7 ?_; rw [← HCL.out]; repeat (first | (with_reducible exact hCd) | (with_reducible exact hCf) | (with_reducible exact hC) | (with_reducible refine CA.drew ?_) | (with_reducible refine CA.alloc ?_ _) | (refine CA.set ?_ _ _ _ hneA) | (refine CA.set ?_ _ _ _ (fun x hx => Nat.ne_of_lt (hCf x hx).1)) | (refine CA.set ?_ _ _ _ (fun x hx => Nat.ne_of_lt (hCd x hx).1)))))
          ((go_at_call 57; (with_reducible refine (HRS.out _ (by first | exact Below.drew (Below.refl wp.heap.size wp) | exact (b1 wp _).drew | exact b1 wp.drew _)).mono ?_); rintro e wd ⟨rfl, hbd⟩; have hCd : CA wd cl := (by first | exact hC.drew.after hbd | exact (hC.alloc _).drew.after hbd | exact (hC.drew.alloc _).after hbd); (try (have hbD : Below wp.heap.size wp wd := (Below.drew (Below.refl _ _)).trans hbd)); (try (have hbD : Below wp.heap.size wp wd := bt ((b1 wp _).drew) hbd)); (try (have kD := (Blk.new wp #[.bool false, .string { data := #[] }] 72).drew.after hbd; have kDc0 := kD.cell 0; have kDc1 := kD.cell 1; have kDf0 := kD.free 0; have kDf1 := kD.free 1))))
         all_goals
          go_wp2_with fail
          go_meet
          first
           | exact ⟨_, rfl, Blk.new _ _ _, hbD.size, ba hbD _⟩
           | exact ⟨_, rfl, (kD.set 0 _).set 1 _, Nat.le_refl _, (hbD.setCell (by simp) _).setCell (by simp) _⟩
        case rest =>
        clear hC hneA HCL
        obtain ⟨gx, rfl, hX, hgx, hb4⟩ := hcut
        have HGX := Lib.hid hgx
        clear hgx
        obtain ⟨wy, hwy⟩ : ∃ wy, wy = wc := ⟨_, rfl⟩
        subst hwy
        have hbe := bt hbr hb4
        have hO2 := own_after hO hb4
        have hP4 := hPp.after hb4
        have uu1 := (hb4.cell (p := ⟨bu, ou + k, none⟩) hbu).trans u1
        have ku := Nat.lt_of_lt_of_le hbu hb4.size
        have HBF : Hid (∀ w', Below wy.heap.size wy w' → Calls Tryz.prog 56 #[.agg #[.slice a1 n1 c1, .slice a2 nw c2, .slice a3 n3 c3], .int .i64 (k : Int), .agg #[.bool (sg (dz)), .string (E (dz).natAbs)], .string (E lb)] w' fun e w'' => e = .returned (.bool bl) ∧ Below w'.heap.size w' w'') := fun w' hb => HBE.out w' (bt hb4 hb)
        clear hb4 hO u1 hbu z1 z2 y1 y2 hbz hby HBE HRS hPl hP0 hP1 hP2 hPp HGX
        have g1 := gcl (a := ⟨bu, ou + k, none⟩) ku uu1
        have hXl := hX.lt
        have hPl := hP4.lt
        obtain ⟨hXc0, hXf0, hXc1, hXf1⟩ := hX.x2
        obtain ⟨hP4c0, hP4f0, hP4c1, hP4f1, hP4c2, hP4f2⟩ := hP4.x3
        have hXg0 := hX.gcell 0
        have hXg1 := hX.gcell 1
        have hP4g0 := hP4.gcell 0
        have hP4g1 := hP4.gcell 1
        have hP4g2 := hP4.gcell 2
        cases bl
        ·have HZ := Lib.hid (HRA.out rfl)
         go_upto_region 20 with fail
         go_wp2_with fail
         refine wp_region_gw (by kernel_rfl) (by kernel_rfl) ?_
         repeat (go_big_quiet_step (first | (go_at_call 56; exact gw_of (HBF.out _ (gw_below _)))))
         refine wpQuiet_nil ?_
         rintro w6 ⟨xw6, rfl⟩
         have hb6 := gw_below xw6
         generalize gw xw6 = w6 at hb6
         go_wp2
         go_ret2
         rw [HZ.out.1, HZ.out.2]
         exact epost_err rfl (bt hBW (bt hbe hb6))
        ·have HRT2 := Lib.hid (HRT.out rfl)
         go_upto_region 20 with fail
         go_wp2_with fail
         refine wp_region_gw (by kernel_rfl) (by kernel_rfl) ?_
         repeat (go_big_quiet_step (first | (go_at_call 56; exact gw_of (HBF.out _ (gw_below _)))))
         refine wpQuiet_nil ?_
         rintro w6 ⟨xw6, rfl⟩
         have hb6 := gw_below xw6
         generalize gw xw6 = w6 at hb6
         clear hXc0 hXf0 hXc1 hXf1
         clear hP4c0 hP4f0 hP4c1 hP4f1 hP4c2 hP4f2
         clear hXg0 hXg1
         clear hP4g0 hP4g1 hP4g2
         have hX6 := hX.after hb6
         have hO8 : (w6).ownsRow wq.heap.size 72 2 u16 k (ics (LI.map zI)) := own_after hO2 hb6
         have hbr8 := bt hbe hb6
         clear hO2 hbe hb6 g1 hX hXl hPl hP4 uu1 ku HBF HRA HRT
         have hsz8 := hbr8.size
         have hX6l := hX6.lt
         obtain ⟨hX6c0, hX6f0, hX6c1, hX6f1⟩ := hX6.x2
         go_wp2_with (at_builtin; refine wpList_append_lies _ rfl (.tmp 112) (.tmp 114) _ rfl wq.heap.size 72 i1 _ 2 24 Tryz.underlying39 HI1.out HA1.out HB1.out HC1.out rfl (by omega) u16 k (ics (LI.map zI)) rfl (own_after hO8 (b1 _ (.cells #[.bool (sg dz), .string (E dz.natAbs)] 72))) ⟨(w6).heap.size, 0, none⟩ 1 1 [.bool (sg dz), .string (E dz.natAbs)] rfl rfl (Blk.new (w6) #[.bool (sg dz), .string (E dz.natAbs)] 72).cells (by simp [Value.oneCell']) (by omega) (by simp only [maxLen]; omega) (by omega) (by rw [World.size_alloc]; omega) ((w6).heap.size + 1) (by simp) ?_; intro ga ca' wz hown hgrow hat hlt2)
         have hOA : ZOwn wz wq.heap.size (.slice (some ⟨ga, 0, none⟩) (k + 1) ca') (LI ++ [dz]) := by rw [ZOwn, List.length_append, hLE.out, ← ics_app]; exact hown
         rw [← HST.out] at hOA
         have hbA := (ba hbr8 (.cells #[.bool (sg dz), .string (E dz.natAbs)] 72)).grown hgrow (by rw [World.size_alloc]; omega) (fun x hx => (own_lt hO8 hx).2)
         clear hown hgrow hat hlt2 hO8 hbr8
         go_wp2
         go_roundw
         case rel => exact ⟨k + 1, by omega, by go_num, HRT2.out, hOA, hbA⟩
         case measure => simp [intOf]; omega
       ·have e := rsp2_0 (N := N) (C := C) (K := K) (c := c) (W := W) (M := M) (ra_true fun j hj => HAL.out j (by have := HN2.out; omega))
        have HZ : Hid (r = 0 ∧ rl = N.rspL c W M) := ⟨HX.out.1.trans e.1, HX.out.2.trans e.2⟩
        have HTK : Hid ((N.rspL c W M).take k = N.rspL c W M) := List.take_of_length_le (by rw [NSta.rspL, List.length_map, List.length_range, ← HN2.out]; omega)
        rw [HTK.out] at hO
        have hs4 := hBW.size
        clear e
        go_wp2
        go_ret2
        rw [HZ.out.1, HZ.out.2]
        exact ⟨_, rfl, own_mono hO hs4, hBWp⟩
  ·have HX := Lib.hid (HER.out 2 (rspE_c (K := K) HL1.out HL2.out hcg) (by decide))
   have hd : decide (0 ≤ cmpN c C) = true := decide_eq_true (by have := cmp_nneg c C hcg; omega)
   have hcm2 : 0 ≤ cmpN c C := of_decide_eq_true hd
   clear hcg
   generalize cmpN c C = q at HCM hd hcm2
   obtain ⟨hRc0, hRf0, hRc1, hRf1⟩ := hR.x2
   obtain ⟨hPc0, hPf0, hPc1, hPf1, hPc2, hPf2⟩ := hP.x3
   go_wp2_with fail
   refine (HCM.out _).mono ?_
   rintro e wo ⟨rfl, hbo⟩
   go_wp2
   go_ret2
   rw [HX.out.1, HX.out.2]
   exact epost_err rfl (bt hBW hbo)
 ·have HX := Lib.hid (HER.out 6 (rspE_6 (C := C) (K := K) (c := c) (by rw [← HNW.out, ← HNM.out, ← HN2.out]; omega)) (by decide))
  by_cases h1 : nw = n2
  ·have h2 : ((nm : Int) != (n2 : Int)) = true := by rw [bne_iff_ne]; omega
   have h2' : ((nm : Int) == (n2 : Int)) = false := by rw [beq_eq_false_iff_ne]; omega
   subst h1
   clear hln
   obtain ⟨hPc0, hPf0, hPc1, hPf1, hPc2, hPf2⟩ := hP.x3
   go_wp2
   go_ret2
   rw [HX.out.1, HX.out.2]
   exact epost_err rfl hBW
  ·have h2 : ((nw : Int) != (n2 : Int)) = true := by rw [bne_iff_ne]; omega
   have h2' : ((nw : Int) == (n2 : Int)) = false := by rw [beq_eq_false_iff_ne]; omega
   clear hln h1
   obtain ⟨hPc0, hPf0, hPc1, hPf1, hPc2, hPf2⟩ := hP.x3
   go_wp2
   go_ret2
   rw [HX.out.1, HX.out.2]
   exact epost_err rfl hBW

end Go.Proofs.YtcfjcenmcpankaaGreatDoor
end

section
/- Respond of both sides: one error, one list; the law's walk. -/
set_option linter.unusedVariables false
set_option linter.unusedSimpArgs false
set_option maxRecDepth 100000
namespace Go.Proofs.YtcfjcenmcpankaaGreatDoor
open Go.RowKit Go.Shelf

theorem rspR_len (N : NSta) (C K c : Nat) (W M : List Int) : (N.rspR C K c W M).length ≤ N.vars.length := by
 unfold NSta.rspR NSta.rspL
 split
 ·rw [List.length_map, List.length_range]; exact Nat.le_refl _
 ·exact Nat.zero_le _

theorem resp_all16 (S : Sta) (C K ch : ByteArray) (l m : List (Bool × ByteArray)) (v1 v2 v3 vw vm : Value) (w : World) (hC : C.size ≤ 16) (hK : K.size ≤ 16) (hf : fewB S = true) (hS : StAt w v1 v2 v3 S)
  (hn1 : l.length ≤ 1000) (hs1 : ∀ x ∈ l, x.2.size ≤ 60) (hn2 : m.length ≤ 1000) (hs2 : ∀ x ∈ m, x.2.size ≤ 60) (hsc : ch.size ≤ 100) (hW : IsAt w vw l) (hM : IsAt w vm m) :
  ∃ (k : Nat) (L : List Int), L.length ≤ 1000 ∧ (∀ w', Below w.heap.size w w' → Calls Tryz.prog 17 #[.agg #[.string C, .string K], .agg #[v1, v2, v3], vw, vm, .string ch] w' (EPost w' k L)) ∧
   (∀ w', Below w.heap.size w w' → Calls Tryz.prog 18 #[.agg #[.string C, .string K], .agg #[v1, v2, v3], vw, vm, .string ch] w' (EPost w' k L)) := by
 obtain ⟨k, hk, h1, h2⟩ | ⟨N, c, k, rfl, rfl, hc, hk, rfl, hm, h0, c2, k2, hv⟩ := bnd_two S C K v1 v2 v3 w hC hK hf hS
 ·exact ⟨k, [], by simp, fun w' hb => sresp_err C K ch v1 v2 v3 vw vm k w' hk (fun w2 hb2 => h1 w2 (bt hb hb2)), fun w' hb => rresp_err C K ch v1 v2 v3 vw vm k w' hk (fun w2 hb2 => h2 w2 (bt hb hb2))⟩
 ·have hN : NAt w v1 v2 v3 N := hS
  cases hp : rsB l m ch
  ·refine ⟨3, [], by simp, fun w' hb => ?_, fun w' hb => ?_⟩
   ·refine sresp_form (E c) (E k) ch l m v1 v2 v3 vw vm w' (fun w2 hb2 => (bounds_ok N c k v1 v2 v3 w2 hc hk c2 k2 hv hm (hN.after (bt hb hb2)) h0).mono ?_) hn1 (fun x hx => by have := hs1 x hx; omega) hn2 (fun x hx => by have := hs2 x hx; omega) (by omega) (IsAt.after hW hb) (IsAt.after hM hb) hp
    rintro e w3 ⟨v, rfl, _, hb3⟩
    exact ⟨v, rfl, hb3⟩
   ·refine rresp_form (E c) (E k) ch l m v1 v2 v3 vw vm w' (fun w2 hb2 => (rbounds_ok N c k v1 v2 v3 w2 hc hk c2 k2 hv hm (hN.after (bt hb hb2)) h0).mono ?_) hn1 (fun x hx => by have := hs1 x hx; omega) hn2 (fun x hx => by have := hs2 x hx; omega) (by omega) (IsAt.after hW hb) (IsAt.after hM hb) hp
    rintro e w3 ⟨v, u, rfl, _, _, hb3⟩
    exact ⟨v, u, rfl, hb3⟩
  ·simp only [rsB, Bool.and_eq_true, List.all_eq_true] at hp
   obtain ⟨p1, p2, p3⟩ := hp
   obtain ⟨W, rfl, hWz⟩ := ints_lift l 60 p1 hs1
   obtain ⟨x, hx, rfl⟩ := numk hsc p3
   obtain ⟨M, rfl, hMz⟩ := ints_lift m 60 p2 hs2
   have hq : N.vars.any vz = true → 0 < N.ord := fun h => by have := hv h; omega
   have w6 : ∀ z ∈ W, z.natAbs < 256 ^ 64 := fun x hx => Nat.lt_of_lt_of_le (hWz x hx) (Nat.pow_le_pow_right (by decide) (by decide))
   have m6 : ∀ z ∈ M, z.natAbs < 256 ^ 64 := fun x hx => Nat.lt_of_lt_of_le (hMz x hx) (Nat.pow_le_pow_right (by decide) (by decide))
   exact ⟨N.rspE c k x W M, N.rspR c k x W M, by have := rspR_len N c k x W M; have := hm.nv; omega,
    fun w' hb => sresp_num N c k x W M v1 v2 v3 vw vm w' hc hk hm (hN.after hb) (fun w2 hb2 => bounds_ok N c k v1 v2 v3 w2 hc hk c2 k2 hv hm (hN.after (bt hb hb2)) h0) (ZsAt.after hW hb) (ZsAt.after hM hb) hx (by simpa using hn1) (by simpa using hn2) w6 m6 hq,
    fun w' hb => rresp_num N c k x W M v1 v2 v3 vw vm w' hc hk hm (hN.after hb) (fun w2 hb2 => rbounds_ok N c k v1 v2 v3 w2 hc hk c2 k2 hv hm (hN.after (bt hb hb2)) h0) (ZsAt.after hW hb) (ZsAt.after hM hb) hx (by simpa using hn1) (by simpa using hn2) w6 m6 hq⟩

set_option maxHeartbeats 1600000 in
theorem sameInts_c (u v : Value) (L : List Int) (w : World) (hn : L.length ≤ 1000) (hA : ZsAt w u L) (hB : ZsAt w v L) :
  Calls Tryz.prog 19 #[u, v] w fun e w' => e = .returned (.bool true) ∧ Below w.heap.size w w' := by
 obtain ⟨ao, c, rfl⟩ := hA.form
 obtain ⟨bo, d, rfl⟩ := hB.form
 obtain ⟨n, hLn⟩ : ∃ n, L.length = n := ⟨_, rfl⟩
 have HLN := Lib.hid hLn
 rw [hLn] at hA hB hn ⊢
 clear hLn
 go_enter Tryz.func19, Tryz.ntmps19
 go_wp2
 go_loopw [5] (fun i wr => ∃ k : Nat, k ≤ n ∧ i = .int .i64 k ∧ Below w.heap.size w wr) (fun i _ => n - (intOf i).toNat)
 case atStart => exact ⟨0, by omega, rfl, Below.refl _ _⟩
 case round =>
  obtain ⟨k, hk, rfl, hbr⟩ := hrel
  obtain ⟨wp, hwp⟩ : ∃ wp, wp = wr := ⟨_, rfl⟩
  subst hwp
  replace hA := ZsAt.after hA hbr
  replace hB := ZsAt.after hB hbr
  by_cases hlt : k < n
  ·have hkl : k < L.length := by rw [HLN.out]; exact hlt
   obtain ⟨b, o, rfl, l1, x1, x2⟩ := hA.at_ hkl
   obtain ⟨b', o', rfl, l2, y1, y2⟩ := hB.at_ hkl
   generalize L[k]'hkl = z at x1 x2 y1 y2
   have h0k : (0 : Int) ≤ (k : Int) := by omega
   have h1k : (k : Int) < (n : Int) := by omega
   have g1 := gcl (a := ⟨b, o + k * 2, none⟩) l1 x1
   have g2 := gcl (a := ⟨b, o + k * 2 + 1, none⟩) l1 x2
   have g3 := gcl (a := ⟨b', o' + k * 2, none⟩) l2 y1
   have g4 := gcl (a := ⟨b', o' + k * 2 + 1, none⟩) l2 y2
   clear x1 x2 y1 y2 hA hB
   go_wp2_with fail
   refine wp_region_gw (by kernel_rfl) (by kernel_rfl) ?_
   repeat (go_big_quiet_step (first | (fail)))
   refine wpQuiet_nil ?_
   rintro w2 ⟨xw2, rfl⟩
   have hb2 := gw_below xw2
   generalize gw xw2 = w2 at hb2
   go_wp2
   go_roundw
   case rel => exact ⟨k + 1, by omega, by go_num, bt hbr hb2⟩
   case measure => simp [intOf]; omega
  ·obtain rfl : k = n := by omega
   go_wp2
   go_ret
   exact ⟨rfl, hbr⟩

set_option maxHeartbeats 8000000 in
theorem sr_walk (C K ch sd : ByteArray) (i : Int) (s1 s2 s3 sw sm st : Option Addr) (m1 m2 m3 mw mm mt d1 d2 d3 dw dm dt : Nat) (w : World) (bf bs : Bool)
  (HF : ∀ w', Below w.heap.size w w' → Calls Tryz.prog 11 #[.agg #[.string C, .string K], .agg #[.slice s1 m1 d1, .slice s2 m2 d2, .slice s3 m3 d3]] w' fun e w'' => e = .returned (.bool bf) ∧ Below w'.heap.size w' w'')
  (HS : ∀ w', Below w.heap.size w w' → Calls Tryz.prog 16 #[.agg #[.slice sw mw dw, .slice sm mm dm, .string ch, .slice st mt dt, .string sd, .int .i64 i]] w' fun e w'' => e = .returned (.bool bs) ∧ Below w'.heap.size w' w'')
  (HV : bf = true → bs = true → ∃ (k : Nat) (L : List Int), L.length ≤ 1000 ∧ (∀ w', Below w.heap.size w w' → Calls Tryz.prog 17 #[.agg #[.string C, .string K], .agg #[.slice s1 m1 d1, .slice s2 m2 d2, .slice s3 m3 d3], .slice sw mw dw, .slice sm mm dm, .string ch] w' (EPost w' k L)) ∧
   (∀ w', Below w.heap.size w w' → Calls Tryz.prog 18 #[.agg #[.string C, .string K], .agg #[.slice s1 m1 d1, .slice s2 m2 d2, .slice s3 m3 d3], .slice sw mw dw, .slice sm mm dm, .string ch] w' (EPost w' k L))) :
  Calls Tryz.prog 4 #[.agg #[.string C, .string K], .agg #[.slice s1 m1 d1, .slice s2 m2 d2, .slice s3 m3 d3], .agg #[.slice sw mw dw, .slice sm mm dm, .string ch, .slice st mt dt, .string sd, .int .i64 i]] w fun e w' => e = .returned (.bool true) ∧ Below w.heap.size w w' := by
 have HFF := Lib.hid HF
 have HSS := Lib.hid HS
 have HVV := Lib.hid HV
 have hR := blk3a w #[.string C, .string K] #[.slice s1 m1 d1, .slice s2 m2 d2, .slice s3 m3 d3] #[.slice sw mw dw, .slice sm mm dm, .string ch, .slice st mt dt, .string sd, .int .i64 i] 24 29 43
 have hP := blk3b w #[.string C, .string K] #[.slice s1 m1 d1, .slice s2 m2 d2, .slice s3 m3 d3] #[.slice sw mw dw, .slice sm mm dm, .string ch, .slice st mt dt, .string sd, .int .i64 i] 24 29 43
 have hQ := blk3c w #[.string C, .string K] #[.slice s1 m1 d1, .slice s2 m2 d2, .slice s3 m3 d3] #[.slice sw mw dw, .slice sm mm dm, .string ch, .slice st mt dt, .string sd, .int .i64 i] 24 29 43
 have hBW := b3 w (.cells #[.string C, .string K] 24) (.cells #[.slice s1 m1 d1, .slice s2 m2 d2, .slice s3 m3 d3] 29) (.cells #[.slice sw mw dw, .slice sm mm dm, .string ch, .slice st mt dt, .string sd, .int .i64 i] 43)
 clear HF HS HV
 cases bf
 ·skip
  obtain ⟨hRc0, hRf0, hRc1, hRf1⟩ := hR.x2
  obtain ⟨hPc0, hPf0, hPc1, hPf1, hPc2, hPf2⟩ := hP.x3
  obtain ⟨hQc0, hQf0, hQc1, hQf1, hQc2, hQf2, hQc3, hQf3, hQc4, hQf4, hQc5, hQf5⟩ := hQ.x6
  go_enter Tryz.func4, Tryz.ntmps4
  go_wp2_with fail
  refine (HFF.out _ hBW).mono ?_
  rintro e w2 ⟨rfl, hb⟩
  clear hRc0 hRf0 hRc1 hRf1
  clear hPc0 hPf0 hPc1 hPf1 hPc2 hPf2
  clear hQc0 hQf0 hQc1 hQf1 hQc2 hQf2 hQc3 hQf3 hQc4 hQf4 hQc5 hQf5
  go_wp2_with fail
  refine (awake_c _).mono ?_
  rintro e w9 ⟨rfl, hb9⟩
  go_wp2
  go_ret
  exact ⟨rfl, bt (bt hBW hb) hb9⟩
 cases bs
 ·skip
  obtain ⟨hRc0, hRf0, hRc1, hRf1⟩ := hR.x2
  obtain ⟨hPc0, hPf0, hPc1, hPf1, hPc2, hPf2⟩ := hP.x3
  obtain ⟨hQc0, hQf0, hQc1, hQf1, hQc2, hQf2, hQc3, hQf3, hQc4, hQf4, hQc5, hQf5⟩ := hQ.x6
  go_enter Tryz.func4, Tryz.ntmps4
  go_wp2_with fail
  refine (HFF.out _ hBW).mono ?_
  rintro e w2 ⟨rfl, hb⟩
  clear hRc0 hRf0 hRc1 hRf1
  clear hPc0 hPf0 hPc1 hPf1 hPc2 hPf2
  clear hQc0 hQf0 hQc1 hQf1 hQc2 hQf2 hQc3 hQf3 hQc4 hQf4 hQc5 hQf5
  replace hR := hR.after hb
  replace hP := hP.after hb
  replace hQ := hQ.after hb
  replace hBW := bt hBW hb
  clear hb
  obtain ⟨hRc0, hRf0, hRc1, hRf1⟩ := hR.x2
  obtain ⟨hPc0, hPf0, hPc1, hPf1, hPc2, hPf2⟩ := hP.x3
  obtain ⟨hQc0, hQf0, hQc1, hQf1, hQc2, hQf2, hQc3, hQf3, hQc4, hQf4, hQc5, hQf5⟩ := hQ.x6
  go_wp2_with fail
  refine (HSS.out _ hBW).mono ?_
  rintro e w3 ⟨rfl, hb⟩
  clear hRc0 hRf0 hRc1 hRf1
  clear hPc0 hPf0 hPc1 hPf1 hPc2 hPf2
  clear hQc0 hQf0 hQc1 hQf1 hQc2 hQf2 hQc3 hQf3 hQc4 hQf4 hQc5 hQf5
  go_wp2_with fail
  refine (awake_c _).mono ?_
  rintro e w9 ⟨rfl, hb9⟩
  go_wp2
  go_ret
  exact ⟨rfl, bt (bt hBW hb) hb9⟩
 obtain ⟨k, L, hL, hv1, hv2⟩ := HVV.out rfl rfl
 have HV1 := Lib.hid hv1
 have HV2 := Lib.hid hv2
 have HL := Lib.hid hL
 have hkk : ((k : Int) == (k : Int)) = true := by simp
 clear hv1 hv2 HVV hL
 obtain ⟨hRc0, hRf0, hRc1, hRf1⟩ := hR.x2
 obtain ⟨hPc0, hPf0, hPc1, hPf1, hPc2, hPf2⟩ := hP.x3
 obtain ⟨hQc0, hQf0, hQc1, hQf1, hQc2, hQf2, hQc3, hQf3, hQc4, hQf4, hQc5, hQf5⟩ := hQ.x6
 go_enter Tryz.func4, Tryz.ntmps4
 go_wp2_with fail
 refine (HFF.out _ hBW).mono ?_
 rintro e w2 ⟨rfl, hb⟩
 clear hRc0 hRf0 hRc1 hRf1
 clear hPc0 hPf0 hPc1 hPf1 hPc2 hPf2
 clear hQc0 hQf0 hQc1 hQf1 hQc2 hQf2 hQc3 hQf3 hQc4 hQf4 hQc5 hQf5
 replace hR := hR.after hb
 replace hP := hP.after hb
 replace hQ := hQ.after hb
 replace hBW := bt hBW hb
 clear hb
 obtain ⟨hRc0, hRf0, hRc1, hRf1⟩ := hR.x2
 obtain ⟨hPc0, hPf0, hPc1, hPf1, hPc2, hPf2⟩ := hP.x3
 obtain ⟨hQc0, hQf0, hQc1, hQf1, hQc2, hQf2, hQc3, hQf3, hQc4, hQf4, hQc5, hQf5⟩ := hQ.x6
 go_wp2_with fail
 refine (HSS.out _ hBW).mono ?_
 rintro e w3 ⟨rfl, hb⟩
 clear hRc0 hRf0 hRc1 hRf1
 clear hPc0 hPf0 hPc1 hPf1 hPc2 hPf2
 clear hQc0 hQf0 hQc1 hQf1 hQc2 hQf2 hQc3 hQf3 hQc4 hQf4 hQc5 hQf5
 replace hR := hR.after hb
 replace hP := hP.after hb
 replace hQ := hQ.after hb
 replace hBW := bt hBW hb
 clear hb
 obtain ⟨hRc0, hRf0, hRc1, hRf1⟩ := hR.x2
 obtain ⟨hPc0, hPf0, hPc1, hPf1, hPc2, hPf2⟩ := hP.x3
 obtain ⟨hQc0, hQf0, hQc1, hQf1, hQc2, hQf2, hQc3, hQf3, hQc4, hQf4, hQc5, hQf5⟩ := hQ.x6
 go_wp2_with fail
 refine (HV1.out _ hBW).mono ?_
 rintro e w4 ⟨v, rfl, hO, hb⟩
 clear hRc0 hRf0 hRc1 hRf1
 clear hPc0 hPf0 hPc1 hPf1 hPc2 hPf2
 clear hQc0 hQf0 hQc1 hQf1 hQc2 hQf2 hQc3 hQf3 hQc4 hQf4 hQc5 hQf5
 have hz1 := ZOwn.zs hO
 replace hR := hR.after hb
 replace hP := hP.after hb
 replace hQ := hQ.after hb
 replace hBW := bt hBW hb
 clear hb hO
 obtain ⟨a1, c1, rfl⟩ := hz1.form
 obtain ⟨hRc0, hRf0, hRc1, hRf1⟩ := hR.x2
 obtain ⟨hPc0, hPf0, hPc1, hPf1, hPc2, hPf2⟩ := hP.x3
 obtain ⟨hQc0, hQf0, hQc1, hQf1, hQc2, hQf2, hQc3, hQf3, hQc4, hQf4, hQc5, hQf5⟩ := hQ.x6
 go_wp2_with fail
 refine (HV2.out _ hBW).mono ?_
 rintro e w5 ⟨v', rfl, hO, hb⟩
 clear hRc0 hRf0 hRc1 hRf1
 clear hPc0 hPf0 hPc1 hPf1 hPc2 hPf2
 clear hQc0 hQf0 hQc1 hQf1 hQc2 hQf2 hQc3 hQf3 hQc4 hQf4 hQc5 hQf5
 have hz2 := ZOwn.zs hO
 replace hz1 := ZsAt.after hz1 hb
 replace hBW := bt hBW hb
 clear hb hO hR hP hQ
 obtain ⟨a2, c2, rfl⟩ := hz2.form
 go_wp2_with fail
 refine (sameInts_c _ _ L _ HL.out hz1 hz2).mono ?_
 rintro e w6 ⟨rfl, hb⟩
 replace hBW := bt hBW hb
 clear hb hz1 hz2
 go_wp2_with fail
 refine (awake_c _).mono ?_
 rintro e w7 ⟨rfl, hb7⟩
 go_wp2
 go_ret
 exact ⟨rfl, bt hBW hb7⟩
end Go.Proofs.YtcfjcenmcpankaaGreatDoor
end

section
set_option linter.unusedVariables false
set_option linter.unusedSimpArgs false
set_option maxRecDepth 100000
namespace Go.Proofs.YtcfjcenmcpankaaGreatDoor
open Go.RowKit Go.WideShapes Go.ChangeShapes Go.ChangeAt Go.Joins Go.Deep
open Go.ChangeMaps (open_string shut_string)

theorem sres_c (S : Sta) (C K ch sd : ByteArray) (Wi M : List (Bool × ByteArray)) (V : List ByteArray) (i : Int) (s1 s2 s3 sw sm st : Option Addr) (m1 m2 m3 mw mm mt d1 d2 d3 dw dm dt : Nat) (w : World) (hC : C.size ≤ 9223372036854775807) (hK : K.size ≤ 9223372036854775807) (hch : ch.size ≤ 9223372036854775807) (hsd : sd.size ≤ 9223372036854775807)
  (hW1 : ∀ x ∈ Wi, x.2.size ≤ 9223372036854775807) (hM1 : ∀ x ∈ M, x.2.size ≤ 9223372036854775807) (hV1 : ∀ x ∈ V, x.size ≤ 9223372036854775807)
  (hz : SSz S) (hS : StAt w (.slice s1 m1 d1) (.slice s2 m2 d2) (.slice s3 m3 d3) S) (hWs : IsAt w (.slice sw mw dw) Wi) (hMs : IsAt w (.slice sm mm dm) M) (hVs : SsAt w (.slice st mt dt) V) :
  Calls Tryz.prog 4 #[.agg #[.string C, .string K], .agg #[.slice s1 m1 d1, .slice s2 m2 d2, .slice s3 m3 d3], .agg #[.slice sw mw dw, .slice sm mm dm, .string ch, .slice st mt dt, .string sd, .int .i64 i]] w fun e w' => e = .returned (.bool true) ∧ Below w.heap.size w w' := by
 refine sr_walk C K ch sd i s1 s2 s3 sw sm st m1 m2 m3 mw mm mt d1 d2 d3 dw dm dt w (ruleB S C K) (smB Wi M ch V sd) (fun w' hb => few16_c S C K _ _ _ w' hC hK hz (hS.after hb)) (fun w' hb => smallR_c Wi M ch V sd i _ _ _ w' hW1 hM1 hch hsd hV1 (IsAt.after hWs hb) (IsAt.after hMs hb) (SsAt.after hVs hb)) (fun hr hs => ?_)
 simp only [ruleB, Bool.and_eq_true, decide_eq_true_eq] at hr
 simp only [smB, shB, Bool.and_eq_true, decide_eq_true_eq, Bool.not_eq_true', List.any_eq_false, lgB] at hs
 obtain ⟨⟨a1, a2⟩, ⟨a3, a4⟩, a5, _⟩ := hs
 exact resp_all16 S C K ch Wi M _ _ _ (.slice sw mw dw) (.slice sm mm dm) w hr.1.1 hr.1.2 hr.2 hS (by omega) (fun x hx => by have := a2 x hx; omega) (by omega) (fun x hx => by have := a4 x hx; omega) (by omega) hWs hMs

theorem sres_lifted (os : Os) (started : os.Started) (H : Type) (enc : TypeId × Value → H) :
  ReturnsInHanded {} Tryz.checked os 4 .any (fun w args => (Rows.sigmaRespondsSpec.pre enc Tryz.prog Tryz.f4 [] false w args ∧ laidMetH Tryz.prog laid3 w) ∧ sizedMet enc Tryz.prog Tryz.f4 (OpenSpec.ofChange Rows.sigmaRespondsSpec) false w args)
   (Rows.sigmaRespondsSpec.post enc Tryz.prog Tryz.f4 false true false false) := by
 refine returnsInHanded_of_change_and (C := Tryz.checked) (X := fun w _ => laidMetH Tryz.prog laid3 w) (fun _ _ _ hh h => h.of_heap hh) own_knob started (by kernel_rfl) Tryz.func4
  (ChangeSpec.witness_shaped (enc := enc) (C := Tryz.checked) (os := os) (X := fun w _ => laidMetH Tryz.prog laid3 w) false (World.doorLaid Tryz.prog 24 os) #[.agg #[.string ⟨#[]⟩, .string ⟨#[]⟩], .agg #[.slice none 0 0, .slice none 0 0, .slice none 0 0], .agg #[.slice none 0 0, .slice none 0 0, .string ⟨#[]⟩, .slice none 0 0, .string ⟨#[]⟩, .int .i64 0]] 8 rfl (World.shaped_of_RefB (by kernel_rfl) (by kernel_rfl)) (by kernel_rfl) (by kernel_rfl) (by kernel_rfl) (door_met os _)) ?_
 intro W base args ds gs before hval0 hW _ _ _ _
 have hval : ∀ (j : Nat) t v, Tryz.f4.params[j]? = some t → args[j]? = some v → Value.okWide Tryz.prog W .any base t v := hval0
 have hW' := hW
 obtain ⟨p, q, hA0, hV, rfl, _, _⟩ := hW
 have hA : DataW.TrodAll enc Tryz.prog W 0 (fun _ => true) true Tryz.f4.params.toList args.toList ds p := hA0
 rw [Tryz.params4] at hA hval
 obtain ⟨v0, vs0, d0, ds0, p0, q0, hargs, rfl, rfl, h0, r0⟩ := trodAll_cons hA
 obtain ⟨v1, vs1, d1, ds1, p1, q1, rfl, rfl, rfl, h1, r1⟩ := trodAll_cons r0
 obtain ⟨v2, vs2, d2, ds2, p2, q2, rfl, rfl, rfl, h2, r2⟩ := trodAll_cons r1
 obtain ⟨rfl, rfl, rfl⟩ := trodAll_nil r2
 obtain rfl : args = #[v0, v1, v2] := by cases args; simp_all
 obtain ⟨rfl, rfl⟩ := trodVars_none hV
 simp only [List.append_nil] at hW'
 have hlt : ∀ x ∈ p0 ++ (p1 ++ p2), x.block < W.heap.size := fun x hx => hW'.lt x hx
 have k0 := h0
 have k1 := h1
 have k2 := h2
 obtain ⟨C, K, rfl, hC, hK⟩ := open_rule (hval 0 24 v0 rfl rfl) h0
 obtain ⟨S, s1, s2, s3, m1, m2, m3, d1, d2, d3, rfl, hz, hS⟩ := open_sta (hval 1 29 v1 rfl rfl) h1
 obtain ⟨Wi, M, ch, V, sd, i, sw, sm, st, mw, mm, mt, dw, dm, dt, rfl, hW1, hM1, hch, hV1, hsd, hWs, hMs, hVs⟩ := open_run (hval 2 43 v2 rfl rfl) h2
 clear hA0 hval0 hA r0 h0 r1 h1 r2 h2
 refine (sres_c S C K ch sd Wi M V i s1 s2 s3 sw sm st m1 m2 m3 mw mm mt d1 d2 d3 dw dm dt W hC hK hch hsd hW1 hM1 hV1 hz hS hWs hMs hVs).mono fun en W' hh => ?_
 obtain ⟨rfl, hb⟩ := hh
 have stay : ∀ {t : TypeId} (hr : Tryz.prog.readableRec t = true) (hrow : t < Tryz.prog.types.size) {v : Value} {d : DataW H} {ps : List MemPlace} (h : DataW.Trod enc Tryz.prog W 0 (fun _ => true) true t v d ps) (hl : ∀ z ∈ ps, z.block < W.heap.size) (sp : Nat → Bool) (hs : ∀ z ∈ ps, sp z.block = true), DataW.Trod enc Tryz.prog W' 0 sp true t v d ps :=
  fun hr hrow _ _ _ h hl sp hs => WideElems.Trod_stays laid_out hr hrow h (fun z hz => hb.same (hl z hz)) hs
 exact ⟨_, rfl, post_of_below (pa := p0 ++ (p1 ++ (p2 ++ []))) (pv := []) hW' (fun _ _ _ => trodAll_cons_mk (shut_bool Tryz.underlying4 _) trodAll_mk0)
  (fun sp hs => trodAll_cons_mk (stay (by kernel_rfl) (of_decide_eq_true (by kernel_rfl)) k0 (fun z hz => hlt z (by simp [hz])) sp (fun z hz => hs z (by simp [hz]))) (trodAll_cons_mk (stay (by kernel_rfl) (of_decide_eq_true (by kernel_rfl)) k1 (fun z hz => hlt z (by simp [hz])) sp (fun z hz => hs z (by simp [hz]))) (trodAll_cons_mk (stay (by kernel_rfl) (of_decide_eq_true (by kernel_rfl)) k2 (fun z hz => hlt z (by simp [hz])) sp (fun z hz => hs z (by simp [hz]))) trodAll_mk0))) (fun _ _ => rfl) (by simp) hb
  (ok_one (by kernel_rfl) rfl (okWide_bool_mk Tryz.underlying4 _))⟩

theorem sres_holds : Rows.SigmaRespondsSaid :=
 OpenClaim.holds_of_wide 4 Tryz.f4 rfl rfl rfl rfl rfl rfl rfl ⟨rfl, rfl, rfl, rfl, rfl⟩ rfl rfl rfl rfl rfl (by kernel_rfl) Tryz.func4 (by kernel_rfl)
  (of_decide_eq_true (by kernel_rfl)) (by unfold Func.isWrapper; first | (rw [if_pos (by decide +kernel)]; kernel_rfl) | (rw [if_neg (by decide +kernel)]; exact ⟨rfl, rfl⟩))
  (fun os started H enc _ => sres_lifted os started H enc)

theorem sres_card : Rows.SigmaRespondsCardSaid :=
 Claim7.holds_tied_plain_at .later [] [.data, .data, .data] true (true, "82157d4e328a061784dc718d726121388702a985537db1dd35e3cb80443a5f63") false
  sres_holds (fun _ h => by cases h) (by kernel_rfl) (fun _ h => by cases h) sigmaResponds_row_tie rfl ⟨rfl, rfl⟩ (by kernel_rfl) rfl
  (fun f fn hf hfn => by
   obtain rfl : f = 4 := Option.some.inj ((show Tryz.prog.funcNamed "domino/dominolaw16.SigmaResponds" = some 4 by kernel_rfl).symm.trans hf) |>.symm
   obtain rfl : fn = Tryz.f4 := (Option.some.inj (Tryz.func4.symm.trans hfn)).symm
   exact ⟨by kernel_rfl, fun j t ht => by
    rw [Tryz.params4] at ht
    have hm : t ∈ [24, 29, 43] := by simpa using Array.mem_of_getElem? ht
    have hall : ([24, 29, 43].all fun u => !Tryz.prog.wantsStandIn u) = true := by kernel_rfl
    exact (show Tryz.prog.wantsStandIn t = false by simpa using List.all_eq_true.1 hall t hm)⟩)
  (by kernel_rfl)
end Go.Proofs.YtcfjcenmcpankaaGreatDoor
end
