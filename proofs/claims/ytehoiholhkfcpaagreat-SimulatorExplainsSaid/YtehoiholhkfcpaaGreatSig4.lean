import Derived.Test.YtehoiholhkfcpaaGreatImg4
section
set_option linter.unusedVariables false
set_option linter.unusedSimpArgs false
set_option maxRecDepth 100000
namespace Go.Proofs.YtehoiholhkfcpaaGreat
open Go.RowKit Go.Shelf

def kdN (b : Nat) : Nat := if b = 0 then 0 else 1

set_option maxHeartbeats 800000 in
theorem kind_c (b : Nat) (w : World) : Calls Tryz.prog 100 #[.agg #[.string (E b)]] w fun e w' => e = .returned (.int .i64 (kdN b : Nat)) ∧ Below w.heap.size w w' := by
 rcases Nat.eq_zero_or_pos b with rfl | h0
 ·have hz := zE (n := 0) rfl
  go_enter Tryz.func100, Tryz.ntmps100
  go_wp2
  go_ret
  exact ⟨rfl, b1 _ _⟩
 ·have hz := nzE h0
  have HK : Hid (kdN b = 1) := if_neg (by omega)
  clear h0
  go_enter Tryz.func100, Tryz.ntmps100
  go_wp2
  go_ret
  exact ⟨by rw [HK.out]; rfl, b1 _ _⟩

theorem kindV_c (b k : Nat) (w : World) (h : kdN b = k) : Calls Tryz.prog 100 #[.agg #[.string (E b)]] w fun e w' => e = .returned (.int .i64 k) ∧ Below w.heap.size w w' := by rw [← h]; exact kind_c b w
set_option maxHeartbeats 1600000 in
theorem modular_c (C K q b : ByteArray) (w : World) : Calls Tryz.prog 101 #[.agg #[.string C, .string K, .string q], .string b] w fun e w' => e = .returned (.tuple #[.agg #[.string q, .string q], .int .i64 0]) ∧ Below w.heap.size w w' := by
 have hA := blk2a w #[Value.string C, Value.string K, Value.string q] #[.string { data := #[] }, .string { data := #[] }] 137 100
 have hB := blk2b w #[Value.string C, Value.string K, Value.string q] #[.string { data := #[] }, .string { data := #[] }] 137 100
 have hBW := b2 w (.cells #[Value.string C, Value.string K, Value.string q] 137) (.cells #[.string { data := #[] }, .string { data := #[] }] 100)
 go_enter Tryz.func101, Tryz.ntmps101
 go_wp2
 refine bodyPost_ret (v := .tuple #[.agg #[.string q, .string q], .int .i64 0]) ?_ rfl ⟨rfl, ?_⟩
 ·simp [results, Tryz.results101, go_sem]
 ·first | exact b2 _ _ _ | exact (hBW.setCell (by simp) _).setCell (by simp) _

theorem mul_cb {C K b : Nat} (h1 : 1 ≤ K) : (C - 1) * (b - 1) ≤ K * C * b := by
 refine Nat.le_trans (Nat.mul_le_mul (Nat.sub_le C 1) (Nat.sub_le b 1)) ?_
 exact Nat.mul_le_mul_right _ (Nat.le_mul_of_pos_left _ h1)

theorem lt_mul3 {C K b : Nat} (hC : C < 256 ^ 8) (hK : K < 256 ^ 8) (hb : b < 256 ^ 16) : K * C < 256 ^ 16 ∧ K * C * b < 256 ^ 32 := by
 have h1 : K * C < 256 ^ 16 := by
  have := Nat.mul_lt_mul'' hK hC
  rwa [← Nat.pow_add] at this
 have h2 : K * C * b < 256 ^ 32 := by
  have := Nat.mul_lt_mul'' h1 hb
  rwa [← Nat.pow_add] at this
 exact ⟨h1, h2⟩

theorem lt128' {n k : Nat} (h : n < 256 ^ k) (hk : k ≤ 128) : n < 256 ^ 128 := Nat.lt_of_lt_of_le h (Nat.pow_le_pow_right (by decide) hk)

theorem mulV_c (a b r : Nat) (w : World) (ha : a < 256 ^ 128) (hb : b < 256 ^ 128) (h : r < 256 ^ 128) (hr : a * b = r) :
  Calls Tryz.prog 74 #[.string (E a), .string (E b)] w fun e w' => e = .returned (.tuple #[.string (E r), .int .i64 0]) ∧ Below w.heap.size w w' := by
 rw [← hr]; exact mul_c a b w ha hb (by rw [hr]; exact h)
theorem subV_c (a b r : Nat) (w : World) (ha : a < 256 ^ 128) (hb : b ≤ a) (hr : a - b = r) :
  Calls Tryz.prog 79 #[.string (E a), .string (E b)] w fun e w' => e = .returned (.tuple #[.string (E r), .int .i64 0]) ∧ Below w.heap.size w w' := by
 rw [← hr]; exact sub_c a b w ha hb

set_option maxHeartbeats 4000000 in
theorem integral_c (C K q b : Nat) (w : World) (hC : C < 256 ^ 8) (hK : K < 256 ^ 8) (hb : b < 256 ^ 16) (h1 : 1 ≤ C) (h2 : 1 ≤ K) (h3 : 1 ≤ b) :
  Calls Tryz.prog 102 #[.agg #[.string (E C), .string (E K), .string (E q)], .string (E b)] w fun e w' => e = .returned (.tuple #[.agg #[.string (E (K * C * b)), .string (E (K * C * b - (C - 1) * (b - 1)))], .int .i64 0]) ∧ Below w.heap.size w w' := by
 obtain ⟨hkc, hkcb⟩ := lt_mul3 hC hK hb
 have hcb := mul_cb (C := C) (b := b) h2
 obtain ⟨m1, hm1⟩ : ∃ m, m = K * C := ⟨_, rfl⟩
 obtain ⟨m2, hm2⟩ : ∃ m, m = m1 * b := ⟨_, rfl⟩
 obtain ⟨c1, hc1⟩ : ∃ m, m = C - 1 := ⟨_, rfl⟩
 obtain ⟨d1, hd1⟩ : ∃ m, m = b - 1 := ⟨_, rfl⟩
 obtain ⟨e1, he1⟩ : ∃ m, m = c1 * d1 := ⟨_, rfl⟩
 obtain ⟨t, ht⟩ : ∃ m, m = m2 - e1 := ⟨_, rfl⟩
 rw [← hm1, ← hm2] at hkcb
 rw [← hm1] at hkc
 rw [← hc1, ← hd1, ← hm1, ← hm2, ← he1] at hcb ⊢
 rw [← ht]
 have HO := Lib.hid (fun w => ofK_c 1 1 w rfl (by decide))
 have H1 := Lib.hid (fun w => mulV_c K C m1 w (lt128 hK) (lt128 hC) (lt128' hkc (by decide)) hm1.symm)
 have H2 := Lib.hid (fun w => mulV_c m1 b m2 w (lt128' hkc (by decide)) (lt128' hb (by decide)) (lt128' hkcb (by decide)) hm2.symm)
 have H3 := Lib.hid (fun w => subV_c C 1 c1 w (lt128 hC) h1 hc1.symm)
 have H4 := Lib.hid (fun w => subV_c b 1 d1 w (lt128' hb (by decide)) h3 hd1.symm)
 have he : e1 < 256 ^ 128 := Nat.lt_of_le_of_lt hcb (lt128' hkcb (by decide))
 have H5 := Lib.hid (fun w => mulV_c c1 d1 e1 w (by have := lt128 hC; omega) (by have := lt128' hb (show 16 ≤ 128 by decide); omega) he he1.symm)
 have H6 := Lib.hid (fun w => subV_c m2 e1 t w (lt128' hkcb (by decide)) hcb ht.symm)
 have hA := blk2a w #[Value.string (E C), Value.string (E K), Value.string (E q)] #[.string { data := #[] }, .string { data := #[] }] 137 100
 have hB := blk2b w #[Value.string (E C), Value.string (E K), Value.string (E q)] #[.string { data := #[] }, .string { data := #[] }] 137 100
 have hBW := b2 w (.cells #[Value.string (E C), Value.string (E K), Value.string (E q)] 137) (.cells #[.string { data := #[] }, .string { data := #[] }] 100)
 clear hC hK hb h1 h2 h3 hkc hkcb hcb hm1 hm2 hc1 hd1 he1 ht he
 go_enter Tryz.func102, Tryz.ntmps102
 go_wp2_with fail
 refine (HO.out _).mono ?_
 rintro e w1 ⟨rfl, hb1⟩
 replace hA := hA.after hb1
 replace hB := hB.after hb1
 replace hBW := bt hBW hb1
 clear hb1
 obtain ⟨hAc0, hAf0, hAc1, hAf1, hAc2, hAf2⟩ := hA.x3
 go_wp2_with fail
 refine (H1.out _).mono ?_
 rintro e w2 ⟨rfl, hb2⟩
 clear hAc0 hAf0 hAc1 hAf1 hAc2 hAf2
 replace hA := hA.after hb2
 replace hB := hB.after hb2
 replace hBW := bt hBW hb2
 clear hb2
 go_wp2_with fail
 refine (H2.out _).mono ?_
 rintro e w3 ⟨rfl, hb3⟩
 replace hA := hA.after hb3
 replace hB := hB.after hb3
 replace hBW := bt hBW hb3
 clear hb3
 obtain ⟨hAc0, hAf0, hAc1, hAf1, hAc2, hAf2⟩ := hA.x3
 go_wp2_with fail
 refine (H3.out _).mono ?_
 rintro e w4 ⟨rfl, hb4⟩
 clear hAc0 hAf0 hAc1 hAf1 hAc2 hAf2
 replace hB := hB.after hb4
 replace hBW := bt hBW hb4
 clear hb4
 go_wp2_with fail
 refine (H4.out _).mono ?_
 rintro e w5 ⟨rfl, hb5⟩
 replace hB := hB.after hb5
 replace hBW := bt hBW hb5
 clear hb5
 go_wp2_with fail
 refine (H5.out _).mono ?_
 rintro e w6 ⟨rfl, hb6⟩
 replace hB := hB.after hb6
 replace hBW := bt hBW hb6
 clear hb6
 go_wp2_with fail
 refine (H6.out _).mono ?_
 rintro e w7 ⟨rfl, hb7⟩
 replace hB := hB.after hb7
 replace hBW := bt hBW hb7
 clear hb7
 have hBl := hB.lt
 obtain ⟨hBc0, hBf0, hBc1, hBf1⟩ := hB.x2
 go_wp2
 refine bodyPost_ret (v := .tuple #[.agg #[.string (E m2), .string (E t)], .int .i64 0]) ?_ rfl ⟨rfl, ?_⟩
 ·simp [results, Tryz.results102, go_sem, hBc0, hBc1, hBl]
 ·first | exact b2 _ _ _ | exact (hBW.setCell (by simp) _).setCell (by simp) _

/-- whether an integer of a variable is below a limit -/
def blw (b : Nat) (x : Int) (l : Nat) : Bool := decide (x.natAbs < l) && (!(vz b) || !(sg x))

theorem blw_ge {b l : Nat} {x : Int} (h : l ≤ x.natAbs) : blw b x l = false := by unfold blw; rw [decide_eq_false (by omega)]; rfl
theorem blw_pos {b l : Nat} {x : Int} (h : x.natAbs < l) (hb : 0 < b) : blw b x l = true := by unfold blw; rw [decide_eq_true h, vz_pos hb]; rfl
theorem blw_zero {l : Nat} {x : Int} (h : x.natAbs < l) : blw 0 x l = !(sg x) := by unfold blw; rw [decide_eq_true h]; rfl

set_option maxHeartbeats 1600000 in
theorem below_c (b : Nat) (x : Int) (l : Nat) (w : World) (hx : x.natAbs < 256 ^ 128) (hl : l < 256 ^ 128) :
  Calls Tryz.prog 67 #[.agg #[.string (E b)], .agg #[.bool (sg (x)), .string (E (x).natAbs)], .string (E l)] w fun e w' => e = .returned (.bool (blw b x l)) ∧ Below w.heap.size w w' := by
 have HX := Lib.hid hx
 have HL := Lib.hid hl
 have hA := blk2a w #[Value.string (E b)] #[.bool (sg x), .string (E x.natAbs)] 64 53
 have hB := blk2b w #[Value.string (E b)] #[.bool (sg x), .string (E x.natAbs)] 64 53
 have hBW := b2 w (.cells #[Value.string (E b)] 64) (.cells #[.bool (sg x), .string (E x.natAbs)] 53)
 clear hx hl
 rcases Nat.lt_or_ge x.natAbs l with hlt | hge
 ·have hc := cmp_neg _ _ hlt
  have HLT := Lib.hid hlt
  clear hlt
  rcases Nat.eq_zero_or_pos b with rfl | h0
  ·have HK := Lib.hid (fun w => kindV_c 0 0 w rfl)
   have HF := Lib.hid (blw_zero HLT.out)
   go_enter Tryz.func67, Tryz.ntmps67
   go_wp2_with fail
   refine (cmp_c _ _ _ HX.out HL.out).mono ?_
   rintro e w' ⟨rfl, rfl⟩
   go_wp2_with fail
   refine (HK.out _).mono ?_
   rintro e w1 ⟨rfl, hb1⟩
   replace hB := hB.after hb1
   replace hBW := bt hBW hb1
   clear hb1
   have hBl := hB.lt
   obtain ⟨hBc0, hBf0, hBc1, hBf1⟩ := hB.x2
   go_wp2
   go_ret
   exact ⟨by rw [HF.out]; rfl, hBW⟩
  ·have HK := Lib.hid (fun w => kindV_c b 1 w (if_neg (by omega)))
   have HF := Lib.hid (blw_pos HLT.out h0)
   clear h0
   go_enter Tryz.func67, Tryz.ntmps67
   go_wp2_with fail
   refine (cmp_c _ _ _ HX.out HL.out).mono ?_
   rintro e w' ⟨rfl, rfl⟩
   go_wp2_with fail
   refine (HK.out _).mono ?_
   rintro e w1 ⟨rfl, hb1⟩
   replace hB := hB.after hb1
   replace hBW := bt hBW hb1
   clear hb1
   have hBl := hB.lt
   obtain ⟨hBc0, hBf0, hBc1, hBf1⟩ := hB.x2
   go_wp2
   go_ret
   exact ⟨by rw [HF.out]; rfl, hBW⟩
 ·have hc := cmp_nneg _ _ hge
  have HF := Lib.hid (blw_ge (b := b) hge)
  clear hge
  go_enter Tryz.func67, Tryz.ntmps67
  go_wp2_with fail
  refine (cmp_c _ _ _ HX.out HL.out).mono ?_
  rintro e w' ⟨rfl, rfl⟩
  go_wp2
  go_ret
  exact ⟨by rw [HF.out]; rfl, hBW⟩

set_option maxHeartbeats 1600000 in
theorem rbelow_c (N : NSta) (v1 v2 v3 : Value) (j : Nat) (x : Int) (l : Nat) (w : World) (hm : NOk N) (hS : NAt w v1 v2 v3 N) (hj : j < N.vars.length) (hx : x.natAbs < 256 ^ 128) (hl : l < 256 ^ 128) :
  Calls Tryz.prog 82 #[.agg #[v1, v2, v3], .int .i64 (j : Int), .agg #[.bool (sg (x)), .string (E (x).natAbs)], .string (E l)] w fun e w' => e = .returned (.bool (blw (N.vars[j]'hj) x l)) ∧ Below w.heap.size w w' := by
 have HX := Lib.hid (szM hx)
 have HL := Lib.hid (szM hl)
 obtain ⟨b, hb⟩ : ∃ b, b = N.vars[j]'hj := ⟨_, rfl⟩
 rw [← hb]
 have HBV := Lib.hid hb
 have HJ := Lib.hid hj
 clear hx hl hb
 obtain ⟨a1, c1, a2, c2, a3, c3, rfl, rfl, rfl⟩ := hS.forms
 obtain ⟨n1, hn1⟩ : ∃ n, n = N.grps.length := ⟨_, rfl⟩
 obtain ⟨n2, hn2⟩ : ∃ n, n = N.vars.length := ⟨_, rfl⟩
 obtain ⟨n3, hn3⟩ : ∃ n, n = N.eqs.length := ⟨_, rfl⟩
 have HN1 := Lib.hid hn1
 have HN2 := Lib.hid hn2
 have HN3 := Lib.hid hn3
 have l1 : n1 ≤ 10 := by rw [hn1]; exact hm.ng
 have l2 : n2 ≤ 12 := by rw [hn2]; exact hm.nv
 have l3 : n3 ≤ 12 := by rw [hn3]; exact hm.ne
 have HM := Lib.hid hm
 rw [← hn1, ← hn2, ← hn3] at hS ⊢
 clear hm hn1 hn2 hn3
 have hP := blk2a w #[.slice a1 n1 c1, .slice a2 n2 c2, .slice a3 n3 c3] #[.bool (sg x), .string (E x.natAbs)] 29 53
 have hB := blk2b w #[.slice a1 n1 c1, .slice a2 n2 c2, .slice a3 n3 c3] #[.bool (sg x), .string (E x.natAbs)] 29 53
 have hBW := b2 w (.cells #[.slice a1 n1 c1, .slice a2 n2 c2, .slice a3 n3 c3] 29) (.cells #[.bool (sg x), .string (E x.natAbs)] 53)
 replace hS := hS.after hBW
 obtain ⟨bv, ov, rfl, hbv, y1⟩ := hS.vat HJ.out
 rw [← HBV.out] at y1
 have h0j : (0 : Int) ≤ (j : Int) := by omega
 have h1j : (j : Int) < (n2 : Int) := by rw [HN2.out]; omega
 clear HBV hj
 rcases Nat.lt_or_ge x.natAbs l with hlt | hge
 ·have hc := cmp_neg _ _ hlt
  have HLT := Lib.hid hlt
  clear hlt
  rcases Nat.eq_zero_or_pos b with rfl | h0
  ·have hz := zE (n := 0) rfl
   have HF := Lib.hid (blw_zero HLT.out)
   obtain ⟨hBc0, hBf0, hBc1, hBf1⟩ := hB.x2
   go_enter Tryz.func82, Tryz.ntmps82
   go_wp2_with fail
   refine (rorder_c _ _ _ HX.out HL.out).mono ?_
   rintro e w1 ⟨rfl, hb1⟩
   clear hBc0 hBf0 hBc1 hBf1
   have y2 := (hb1.cell (p := ⟨bv, ov + j, none⟩) hbv).trans y1
   have hbv2 := Nat.lt_of_lt_of_le hbv hb1.size
   replace hB := hB.after hb1
   replace hP := hP.after hb1
   replace hBW := bt hBW hb1
   clear hb1 y1 hbv
   have hBl := hB.lt
   have hPl := hP.lt
   obtain ⟨hBc0, hBf0, hBc1, hBf1⟩ := hB.x2
   obtain ⟨hPc0, hPf0, hPc1, hPf1, hPc2, hPf2⟩ := hP.x3
   go_wp2
   go_ret
   exact ⟨by rw [HF.out]; rfl, hBW⟩
  ·have hz := nzE h0
   have HF := Lib.hid (blw_pos HLT.out h0)
   clear h0
   obtain ⟨hBc0, hBf0, hBc1, hBf1⟩ := hB.x2
   go_enter Tryz.func82, Tryz.ntmps82
   go_wp2_with fail
   refine (rorder_c _ _ _ HX.out HL.out).mono ?_
   rintro e w1 ⟨rfl, hb1⟩
   clear hBc0 hBf0 hBc1 hBf1
   have y2 := (hb1.cell (p := ⟨bv, ov + j, none⟩) hbv).trans y1
   have hbv2 := Nat.lt_of_lt_of_le hbv hb1.size
   replace hB := hB.after hb1
   replace hP := hP.after hb1
   replace hBW := bt hBW hb1
   clear hb1 y1 hbv
   have hBl := hB.lt
   have hPl := hP.lt
   obtain ⟨hBc0, hBf0, hBc1, hBf1⟩ := hB.x2
   obtain ⟨hPc0, hPf0, hPc1, hPf1, hPc2, hPf2⟩ := hP.x3
   go_wp2
   go_ret
   exact ⟨by rw [HF.out]; rfl, hBW⟩
 ·have hc := cmp_nneg _ _ hge
  have HF := Lib.hid (blw_ge (b := b) hge)
  clear hge
  obtain ⟨hBc0, hBf0, hBc1, hBf1⟩ := hB.x2
  go_enter Tryz.func82, Tryz.ntmps82
  go_wp2_with fail
  refine (rorder_c _ _ _ HX.out HL.out).mono ?_
  rintro e w1 ⟨rfl, hb1⟩
  go_wp2
  go_ret
  exact ⟨by rw [HF.out]; rfl, bt hBW hb1⟩

set_option maxHeartbeats 1600000 in
theorem svalid_c (l : List (Bool × ByteArray)) (v : Value) (w : World) (hn : l.length ≤ 1000) (hs : ∀ x ∈ l, x.2.size ≤ 1000) (hR : IsAt w v l) :
  Calls Tryz.prog 66 #[v] w fun e w' => e = .returned (.bool (l.all fun x => ivB x.1 x.2)) ∧ Below w.heap.size w w' := by
 obtain ⟨r, hr⟩ : ∃ r : Bool, r = l.all fun x => ivB x.1 x.2 := ⟨_, rfl⟩
 have HRES := Lib.hid hr
 rw [← hr]
 clear hr
 obtain ⟨ao, c, rfl⟩ := RAt.form hR
 obtain ⟨n, hn'⟩ : ∃ n, n = l.length := ⟨_, rfl⟩
 have HN := Lib.hid hn'
 have HS := Lib.hid hs
 rw [← hn'] at hR hn ⊢
 clear hn' hs
 go_enter Tryz.func66, Tryz.ntmps66
 go_wp2
 go_loopw [7] (fun i wr => ∃ k : Nat, k ≤ n ∧ i = .int .i64 k ∧ Hid ((l.take k).all (fun x => ivB x.1 x.2) = true) ∧ Below w.heap.size w wr) (fun i _ => n - (intOf i).toNat)
 case atStart => exact ⟨0, by omega, rfl, rfl, Below.refl _ _⟩
 case round =>
  obtain ⟨k, hk, rfl, HA, hbr⟩ := hrel
  obtain ⟨wp, hwp⟩ : ∃ wp, wp = wr := ⟨_, rfl⟩
  subst hwp
  replace hR := IsAt.after hR hbr
  by_cases hlt : k < n
  ·have hkl : k < l.length := by rw [← HN.out]; exact hlt
   have HT := Lib.hid (all_take (fun x : Bool × ByteArray => ivB x.1 x.2) l k hkl)
   have HBAD : Hid (ivB (l[k]'hkl).1 (l[k]'hkl).2 = false → r = false) := fun h => by rw [HRES.out]; exact all_bad (fun x : Bool × ByteArray => ivB x.1 x.2) l k hkl h
   have HSZ := Lib.hid (HS.out _ (List.getElem_mem hkl))
   obtain ⟨b, o, rfl, hbl, x1, x2⟩ := IsAt.at_ hR hkl
   generalize (l[k]'hkl) = x at x1 x2 HT HBAD HSZ
   obtain ⟨y1, y2⟩ := x
   simp only [] at x1 x2
   have h0k : (0 : Int) ≤ (k : Int) := by omega
   have h1k : (k : Int) < (n : Int) := by omega
   clear hR
   cases hv : ivB y1 y2
   ·have HF : Hid (r = false) := HBAD.out hv
    have HV := Lib.hid hv
    clear hv HT HBAD
    go_wp2_with fail
    refine (ivalB_c y1 y2 false _ HSZ.out HV.out).mono ?_
    rintro e w2 ⟨rfl, hb2⟩
    go_wp2
    go_ret
    exact ⟨by rw [HF.out]; rfl, bt (ba hbr _) hb2⟩
   ·have HX : Hid ((l.take (k + 1)).all (fun x => ivB x.1 x.2) = true) := by rw [Hid, HT.out, HA.out]; exact hv
    have HV := Lib.hid hv
    clear hv HT HBAD
    go_wp2_with fail
    refine (ivalB_c y1 y2 true _ HSZ.out HV.out).mono ?_
    rintro e w2 ⟨rfl, hb2⟩
    go_wp2
    go_roundw
    case rel => exact ⟨k + 1, by omega, by go_num, HX, bt (ba hbr _) hb2⟩
    case measure => simp [intOf]; omega
  ·have HF : Hid (r = true) := by rw [Hid, HRES.out]; exact all_end _ l k (by rw [← HN.out]; omega) HA.out
   go_wp2
   go_ret
   exact ⟨by rw [HF.out]; rfl, hbr⟩

set_option maxHeartbeats 1600000 in
theorem rformed16_c (l : List (Bool × ByteArray)) (v : Value) (w : World) (hn : l.length ≤ 1000) (hs : ∀ x ∈ l, x.2.size ≤ 1000) (hR : IsAt w v l) :
  Calls Tryz.prog 81 #[v] w fun e w' => e = .returned (.bool (l.all fun x => ivB x.1 x.2)) ∧ Below w.heap.size w w' := by
 obtain ⟨r, hr⟩ : ∃ r : Bool, r = l.all fun x => ivB x.1 x.2 := ⟨_, rfl⟩
 have HRES := Lib.hid hr
 rw [← hr]
 clear hr
 obtain ⟨ao, c, rfl⟩ := RAt.form hR
 obtain ⟨n, hn'⟩ : ∃ n, n = l.length := ⟨_, rfl⟩
 have HN := Lib.hid hn'
 have HS := Lib.hid hs
 rw [← hn'] at hR hn ⊢
 clear hn' hs
 go_enter Tryz.func81, Tryz.ntmps81
 go_wp2
 go_loopw [3] (fun i wr => ∃ k : Nat, k ≤ n ∧ i = .int .i64 k ∧ Hid ((l.take k).all (fun x => ivB x.1 x.2) = true) ∧ Below w.heap.size w wr) (fun i _ => n - (intOf i).toNat)
 case atStart => exact ⟨0, by omega, rfl, rfl, Below.refl _ _⟩
 case round =>
  obtain ⟨k, hk, rfl, HA, hbr⟩ := hrel
  obtain ⟨wp, hwp⟩ : ∃ wp, wp = wr := ⟨_, rfl⟩
  subst hwp
  replace hR := IsAt.after hR hbr
  by_cases hlt : k < n
  ·have hkl : k < l.length := by rw [← HN.out]; exact hlt
   have HT := Lib.hid (all_take (fun x : Bool × ByteArray => ivB x.1 x.2) l k hkl)
   have HBAD : Hid (ivB (l[k]'hkl).1 (l[k]'hkl).2 = false → r = false) := fun h => by rw [HRES.out]; exact all_bad (fun x : Bool × ByteArray => ivB x.1 x.2) l k hkl h
   have HSZ := Lib.hid (HS.out _ (List.getElem_mem hkl))
   obtain ⟨b, o, rfl, hbl, x1, x2⟩ := IsAt.at_ hR hkl
   generalize (l[k]'hkl) = x at x1 x2 HT HBAD HSZ
   obtain ⟨y1, y2⟩ := x
   simp only [] at x1 x2
   have h0k : (0 : Int) ≤ (k : Int) := by omega
   have h1k : (k : Int) < (n : Int) := by omega
   clear hR
   cases hv : ivB y1 y2
   ·have HF : Hid (r = false) := HBAD.out hv
    have HV := Lib.hid hv
    clear hv HT HBAD
    go_wp2_with fail
    refine (rivalB_c y1 y2 false _ HSZ.out HV.out).mono ?_
    rintro e w2 ⟨rfl, hb2⟩
    go_wp2
    go_ret
    exact ⟨by rw [HF.out]; rfl, bt (hbr) hb2⟩
   ·have HX : Hid ((l.take (k + 1)).all (fun x => ivB x.1 x.2) = true) := by rw [Hid, HT.out, HA.out]; exact hv
    have HV := Lib.hid hv
    clear hv HT HBAD
    go_wp2_with fail
    refine (rivalB_c y1 y2 true _ HSZ.out HV.out).mono ?_
    rintro e w2 ⟨rfl, hb2⟩
    go_wp2
    go_roundw
    case rel => exact ⟨k + 1, by omega, by go_num, HX, bt (hbr) hb2⟩
    case measure => simp [intOf]; omega
  ·have HF : Hid (r = true) := by rw [Hid, HRES.out]; exact all_end _ l k (by rw [← HN.out]; omega) HA.out
   go_wp2
   go_ret
   exact ⟨by rw [HF.out]; rfl, hbr⟩

end Go.Proofs.YtehoiholhkfcpaaGreat
end

section
set_option linter.unusedVariables false
set_option linter.unusedSimpArgs false
set_option maxRecDepth 100000
namespace Go.Proofs.YtehoiholhkfcpaaGreat
open Go.RowKit Go.Shelf

def lim (q C K b : Nat) : Nat × Nat := if b = 0 then (q, q) else (K * C * b, K * C * b - (C - 1) * (b - 1))
def NSta.lims (N : NSta) (C K : Nat) : List (Nat × Nat) := N.vars.map (lim N.ord C K)
def lcs (L : List (Nat × Nat)) : List Value := L.flatMap fun x => [.string (E x.1), .string (E x.2)]
theorem lcs_app (a b : List (Nat × Nat)) : lcs a ++ lcs b = lcs (a ++ b) := by simp [lcs]
theorem lcs_get (L : List (Nat × Nat)) (j : Nat) (h : j < L.length) : (lcs L)[j * 2]? = some (.string (E L[j].1)) ∧ (lcs L)[j * 2 + 1]? = some (.string (E L[j].2)) := by
 induction L generalizing j with
 | nil => simp at h
 | cons x t ih =>
  cases j with
  | zero => exact ⟨rfl, rfl⟩
  | succ j =>
   have h' : j < t.length := by simpa using h
   have := ih j h'
   rw [show (j + 1) * 2 = j * 2 + 2 by omega]
   simpa [lcs] using this
def LmOwn (w : World) (base : Nat) (v : Value) (L : List (Nat × Nat)) : Prop := w.ownsRow base 100 2 v L.length (lcs L)
theorem LmOwn.after {w w' : World} {base : Nat} {v : Value} {L : List (Nat × Nat)} (h : LmOwn w base v L) (hb : Below w.heap.size w w') : LmOwn w' base v L := own_after h hb
theorem LmOwn.form {w : World} {base : Nat} {v : Value} {L : List (Nat × Nat)} (h : LmOwn w base v L) : ∃ ao c, v = .slice ao L.length c := by
 have k : w.ownsRow base 100 2 v L.length (lcs L) := h
 rcases k.2 with ⟨rfl, h2⟩ | ⟨g, cap, cur, rfl, _⟩
 ·exact ⟨none, 0, by rw [h2]⟩
 ·exact ⟨_, _, rfl⟩
theorem LmOwn.at_ {w : World} {base n c : Nat} {ao : Option Addr} {L : List (Nat × Nat)} (h : LmOwn w base (.slice ao n c) L) {j : Nat} (hj : j < L.length) :
  ∃ b, ao = some ⟨b, 0, none⟩ ∧ b < w.heap.size ∧ w.cell? ⟨b, j * 2, none⟩ = some (.string (E L[j].1)) ∧ w.cell? ⟨b, j * 2 + 1, none⟩ = some (.string (E L[j].2)) := by
 have k : w.ownsRow base 100 2 (.slice ao n c) L.length (lcs L) := h
 rcases k.2 with ⟨hv, h2⟩ | ⟨g, cap, cur, hv, h3, h4, _⟩
 ·omega
 ·injection hv with e1 e2 e3
  subst e1 e2 e3
  obtain ⟨q1, q2⟩ := lcs_get L j hj
  exact ⟨g, rfl, (Array.getElem?_eq_some_iff.1 h4).1, own_cellS k _ _ q1, own_cellS k _ _ q2⟩

theorem info_lim : (Tryz.prog.info? 100).map (fun i => (i.zero, i.size, i.bytes)) = some (some (.agg #[.string { data := #[] }, .string { data := #[] }]), 2, 32) := by kernel_rfl

set_option maxHeartbeats 1600000 in
theorem bounds_rule (C K : ByteArray) (v1 v2 v3 : Value) (w : World) (hC : C.size ≤ 1000) (hK : K.size ≤ 1000) (h : (vldB C && vldB K) = false) :
  Calls Tryz.prog 50 #[.agg #[.string C, .string K], .agg #[v1, v2, v3]] w fun e w' => e = .returned (.tuple #[.slice none 0 0, .int .i64 3]) ∧ Below w.heap.size w w' := by
 have HC := Lib.hid hC
 have HK := Lib.hid hK
 have hR := blk2a w #[Value.string C, Value.string K] #[v1, v2, v3] 24 29
 have hP := blk2b w #[Value.string C, Value.string K] #[v1, v2, v3] 24 29
 have hBW := b2 w (.cells #[Value.string C, Value.string K] 24) (.cells #[v1, v2, v3] 29)
 clear hC hK
 cases h1 : vldB C
 ·have HV := Lib.hid h1
  clear h1 h
  obtain ⟨hRc0, hRf0, hRc1, hRf1⟩ := hR.x2
  go_enter Tryz.func50, Tryz.ntmps50
  go_wp2_with fail
  refine (validV_c C false _ (by have := HC.out; omega) HV.out).mono ?_
  rintro e w' ⟨rfl, rfl⟩
  go_wp2
  go_ret2
  exact ⟨rfl, hBW⟩
 ·have h2 : vldB K = false := by rw [h1] at h; exact h
  have HV := Lib.hid h1
  have HV2 := Lib.hid h2
  clear h1 h2 h
  obtain ⟨hRc0, hRf0, hRc1, hRf1⟩ := hR.x2
  go_enter Tryz.func50, Tryz.ntmps50
  go_wp2_with fail
  refine (validV_c C true _ (by have := HC.out; omega) HV.out).mono ?_
  rintro e w' ⟨rfl, rfl⟩
  go_wp2_with fail
  refine (validV_c K false _ (by have := HK.out; omega) HV2.out).mono ?_
  rintro e w' ⟨rfl, rfl⟩
  go_wp2
  go_ret2
  exact ⟨rfl, hBW⟩

set_option maxHeartbeats 1600000 in
theorem bounds_chk (C K : Nat) (v1 v2 v3 : Value) (k : Nat) (w : World) (hC : C < 256 ^ 8) (hK : K < 256 ^ 8) (hk : k ≠ 0)
  (hch : ∀ w', Below w.heap.size w w' → Calls Tryz.prog 98 #[.agg #[v1, v2, v3]] w' fun e w'' => e = .returned (.int .i64 k) ∧ Below w'.heap.size w' w'') :
  Calls Tryz.prog 50 #[.agg #[.string (E C), .string (E K)], .agg #[v1, v2, v3]] w fun e w' => e = .returned (.tuple #[.slice none 0 0, .int .i64 k]) ∧ Below w.heap.size w w' := by
 have HC := Lib.hid (lt128 hC)
 have HK := Lib.hid (lt128 hK)
 have HCH := Lib.hid hch
 have hkb : ((k : Int) != 0) = true := by rw [bne_iff_ne]; omega
 have hR := blk2a w #[.string (E C), .string (E K)] #[v1, v2, v3] 24 29
 have hP := blk2b w #[.string (E C), .string (E K)] #[v1, v2, v3] 24 29
 have hBW := b2 w (.cells #[.string (E C), .string (E K)] 24) (.cells #[v1, v2, v3] 29)
 clear hC hK hch hk
 obtain ⟨hRc0, hRf0, hRc1, hRf1⟩ := hR.x2
 obtain ⟨hPc0, hPf0, hPc1, hPf1, hPc2, hPf2⟩ := hP.x3
 go_enter Tryz.func50, Tryz.ntmps50
 go_wp2_with fail
 refine (validE_c C _ HC.out).mono ?_
 rintro e w' ⟨rfl, rfl⟩
 go_wp2_with fail
 refine (validE_c K _ HK.out).mono ?_
 rintro e w' ⟨rfl, rfl⟩
 go_wp2_with fail
 refine (HCH.out _ hBW).mono ?_
 rintro e w2 ⟨rfl, hb2⟩
 go_wp2
 go_ret2
 exact ⟨rfl, bt hBW hb2⟩

/-- the setting in a box that a region has made -/
def SBox (w : World) (T : TypeId) (cs : List Value) (s8 : Value) (wx : World) : Prop := ∃ g, s8 = .pointer (some ⟨g, 0, none⟩) ∧ Blk wx g T cs ∧ w.heap.size ≤ g ∧ Below w.heap.size w wx

theorem chk0_c (N : NSta) (v1 v2 v3 : Value) (w : World) (hm : NOk N) (hS : NAt w v1 v2 v3 N) (hc : N.chk = 0) :
  ∀ w', Below w.heap.size w w' → Calls Tryz.prog 98 #[.agg #[v1, v2, v3]] w' fun e w'' => e = .returned (.int .i64 0) ∧ Below w'.heap.size w' w'' := fun w' hb' => by
 have h := check_c N v1 v2 v3 w' hm (hS.after hb')
 rw [hc] at h
 exact h

set_option maxHeartbeats 1600000 in
theorem bounds_two (N : NSta) (C K : Nat) (v1 v2 v3 : Value) (w : World) (hC : C < 256 ^ 8) (hK : K < 256 ^ 8) (h2 : C < 2 ∨ K < 2) (hm : NOk N) (hS : NAt w v1 v2 v3 N) (hc : N.chk = 0) :
  Calls Tryz.prog 50 #[.agg #[.string (E C), .string (E K)], .agg #[v1, v2, v3]] w fun e w' => e = .returned (.tuple #[.slice none 0 0, .int .i64 2]) ∧ Below w.heap.size w w' := by
 have HC := Lib.hid (lt128 hC)
 have HK := Lib.hid (lt128 hK)
 have HTWO := Lib.hid (fun w => ofK_c 2 2 w rfl (by decide))
 have HCK := Lib.hid hc
 obtain ⟨a1, c1, a2, c2, a3, c3, rfl, rfl, rfl⟩ := hS.forms
 obtain ⟨n1, hn1⟩ : ∃ n, n = N.grps.length := ⟨_, rfl⟩
 obtain ⟨n2, hn2⟩ : ∃ n, n = N.vars.length := ⟨_, rfl⟩
 obtain ⟨n3, hn3⟩ : ∃ n, n = N.eqs.length := ⟨_, rfl⟩
 have HN1 := Lib.hid hn1
 have HN2 := Lib.hid hn2
 have HN3 := Lib.hid hn3
 have l1 : n1 ≤ 10 := by rw [hn1]; exact hm.ng
 have l2 : n2 ≤ 12 := by rw [hn2]; exact hm.nv
 have l3 : n3 ≤ 12 := by rw [hn3]; exact hm.ne
 have HM := Lib.hid hm
 rw [← hn1, ← hn2, ← hn3] at hS ⊢
 clear hm hn1 hn2 hn3
 have HCHK := Lib.hid (chk0_c N _ _ _ w HM.out hS HCK.out)
 have hR := blk2a w #[.string (E C), .string (E K)] #[.slice a1 n1 c1, .slice a2 n2 c2, .slice a3 n3 c3] 24 29
 have hP := blk2b w #[.string (E C), .string (E K)] #[.slice a1 n1 c1, .slice a2 n2 c2, .slice a3 n3 c3] 24 29
 have hBW := b2 w (.cells #[.string (E C), .string (E K)] 24) (.cells #[.slice a1 n1 c1, .slice a2 n2 c2, .slice a3 n3 c3] 29)
 replace hS := hS.after hBW
 clear hC hK hc
 by_cases hc2 : C < 2
 ·have hlt := cmp_neg C 2 hc2
  clear hc2 h2
  obtain ⟨hRc0, hRf0, hRc1, hRf1⟩ := hR.x2
  obtain ⟨hPc0, hPf0, hPc1, hPf1, hPc2, hPf2⟩ := hP.x3
  go_enter Tryz.func50, Tryz.ntmps50
  go_wp2_with fail
  refine (validE_c C _ HC.out).mono ?_
  rintro e w' ⟨rfl, rfl⟩
  go_wp2_with fail
  refine (validE_c K _ HK.out).mono ?_
  rintro e w' ⟨rfl, rfl⟩
  go_wp2_with fail
  refine (HCHK.out _ hBW).mono ?_
  rintro e w2 ⟨rfl, hb2⟩
  clear hRc0 hRf0 hRc1 hRf1
  clear hPc0 hPf0 hPc1 hPf1 hPc2 hPf2
  replace hR := hR.after hb2
  replace hP := hP.after hb2
  replace hS := hS.after hb2
  replace hBW := bt hBW hb2
  clear hb2
  go_wp2_with fail
  refine (HTWO.out _).mono ?_
  rintro e w3 ⟨rfl, hb3⟩
  replace hR := hR.after hb3
  replace hP := hP.after hb3
  replace hS := hS.after hb3
  replace hBW := bt hBW hb3
  clear hb3
  have hRl := hR.lt
  have hPl := hP.lt
  obtain ⟨hRc0, hRf0, hRc1, hRf1⟩ := hR.x2
  go_wp2_with fail
  refine (cmp_c C 2 _ HC.out (by decide)).mono ?_
  rintro e w' ⟨rfl, rfl⟩
  go_wp2
  go_ret2
  exact ⟨rfl, hBW⟩
 ·have hnl := cmp_nneg C 2 (by omega)
  have hlt := cmp_neg K 2 (by omega)
  clear hc2 h2
  obtain ⟨hRc0, hRf0, hRc1, hRf1⟩ := hR.x2
  obtain ⟨hPc0, hPf0, hPc1, hPf1, hPc2, hPf2⟩ := hP.x3
  go_enter Tryz.func50, Tryz.ntmps50
  go_wp2_with fail
  refine (validE_c C _ HC.out).mono ?_
  rintro e w' ⟨rfl, rfl⟩
  go_wp2_with fail
  refine (validE_c K _ HK.out).mono ?_
  rintro e w' ⟨rfl, rfl⟩
  go_wp2_with fail
  refine (HCHK.out _ hBW).mono ?_
  rintro e w2 ⟨rfl, hb2⟩
  clear hRc0 hRf0 hRc1 hRf1
  clear hPc0 hPf0 hPc1 hPf1 hPc2 hPf2
  replace hR := hR.after hb2
  replace hP := hP.after hb2
  replace hS := hS.after hb2
  replace hBW := bt hBW hb2
  clear hb2
  go_wp2_with fail
  refine (HTWO.out _).mono ?_
  rintro e w3 ⟨rfl, hb3⟩
  replace hR := hR.after hb3
  replace hP := hP.after hb3
  replace hS := hS.after hb3
  replace hBW := bt hBW hb3
  clear hb3
  have hRl := hR.lt
  have hPl := hP.lt
  obtain ⟨hRc0, hRf0, hRc1, hRf1⟩ := hR.x2
  go_wp2_with fail
  refine (cmp_c C 2 _ HC.out (by decide)).mono ?_
  rintro e w' ⟨rfl, rfl⟩
  go_wp2_with fail
  refine (cmp_c K 2 _ HK.out (by decide)).mono ?_
  rintro e w' ⟨rfl, rfl⟩
  go_wp2
  go_ret2
  exact ⟨rfl, hBW⟩

theorem ord_lt {N : NSta} (hm : NOk N) : N.ord < 256 ^ 8 := by
 by_cases h : N.grps.all og = true
 ·rw [ord_none N h]; decide
 ·unfold NSta.ord
  cases hf : (N.grps.map (·.2)).find? (· != 0) with
  | none => exact Nat.pow_pos (by decide)
  | some q =>
   have := List.mem_of_find?_eq_some hf
   obtain ⟨g, hg, rfl⟩ := List.mem_map.1 this
   exact (hm.g g hg).2

set_option maxHeartbeats 2000000 in
theorem bounds_ord (N : NSta) (C K : Nat) (v1 v2 v3 : Value) (w : World) (hC : C < 256 ^ 8) (hK : K < 256 ^ 8) (h2 : 2 ≤ C) (h3 : 2 ≤ K) (hv : N.vars.any vz = true) (ho : N.ord < C) (hm : NOk N) (hS : NAt w v1 v2 v3 N) (hc : N.chk = 0) :
  Calls Tryz.prog 50 #[.agg #[.string (E C), .string (E K)], .agg #[v1, v2, v3]] w fun e w' => e = .returned (.tuple #[.slice none 0 0, .int .i64 2]) ∧ Below w.heap.size w w' := by
 have HC := Lib.hid (lt128 hC)
 have HK := Lib.hid (lt128 hK)
 have HO := Lib.hid ho
 have HV := Lib.hid hv
 have HTWO := Lib.hid (fun w => ofK_c 2 2 w rfl (by decide))
 have HCK := Lib.hid hc
 obtain ⟨a1, c1, a2, c2, a3, c3, rfl, rfl, rfl⟩ := hS.forms
 obtain ⟨n1, hn1⟩ : ∃ n, n = N.grps.length := ⟨_, rfl⟩
 obtain ⟨n2, hn2⟩ : ∃ n, n = N.vars.length := ⟨_, rfl⟩
 obtain ⟨n3, hn3⟩ : ∃ n, n = N.eqs.length := ⟨_, rfl⟩
 have HN1 := Lib.hid hn1
 have HN2 := Lib.hid hn2
 have HN3 := Lib.hid hn3
 have l1 : n1 ≤ 10 := by rw [hn1]; exact hm.ng
 have l2 : n2 ≤ 12 := by rw [hn2]; exact hm.nv
 have l3 : n3 ≤ 12 := by rw [hn3]; exact hm.ne
 have HM := Lib.hid hm
 rw [← hn1, ← hn2, ← hn3] at hS ⊢
 clear hm hn1 hn2 hn3
 have HCHK := Lib.hid (chk0_c N _ _ _ w HM.out hS HCK.out)
 have hR := blk2a w #[.string (E C), .string (E K)] #[.slice a1 n1 c1, .slice a2 n2 c2, .slice a3 n3 c3] 24 29
 have hP := blk2b w #[.string (E C), .string (E K)] #[.slice a1 n1 c1, .slice a2 n2 c2, .slice a3 n3 c3] 24 29
 have hBW := b2 w (.cells #[.string (E C), .string (E K)] 24) (.cells #[.slice a1 n1 c1, .slice a2 n2 c2, .slice a3 n3 c3] 29)
 replace hS := hS.after hBW
 have hnl := cmp_nneg C 2 h2
 have hnl2 := cmp_nneg K 2 h3
 clear hC hK hc h2 h3 hv ho
 obtain ⟨hRc0, hRf0, hRc1, hRf1⟩ := hR.x2
 obtain ⟨hPc0, hPf0, hPc1, hPf1, hPc2, hPf2⟩ := hP.x3
 go_enter Tryz.func50, Tryz.ntmps50
 go_wp2_with fail
 refine (validE_c C _ HC.out).mono ?_
 rintro e w' ⟨rfl, rfl⟩
 go_wp2_with fail
 refine (validE_c K _ HK.out).mono ?_
 rintro e w' ⟨rfl, rfl⟩
 go_wp2_with fail
 refine (HCHK.out _ hBW).mono ?_
 rintro e w2 ⟨rfl, hb2⟩
 clear hRc0 hRf0 hRc1 hRf1
 clear hPc0 hPf0 hPc1 hPf1 hPc2 hPf2
 replace hR := hR.after hb2
 replace hP := hP.after hb2
 replace hS := hS.after hb2
 replace hBW := bt hBW hb2
 clear hb2
 go_wp2_with fail
 refine (HTWO.out _).mono ?_
 rintro e w3 ⟨rfl, hb3⟩
 replace hR := hR.after hb3
 replace hP := hP.after hb3
 replace hS := hS.after hb3
 replace hBW := bt hBW hb3
 clear hb3
 have hRl := hR.lt
 have hPl := hP.lt
 obtain ⟨hRc0, hRf0, hRc1, hRf1⟩ := hR.x2
 go_wp2_with fail
 refine (cmp_c C 2 _ HC.out (by decide)).mono ?_
 rintro e w' ⟨rfl, rfl⟩
 go_wp2_with fail
 refine (cmp_c K 2 _ HK.out (by decide)).mono ?_
 rintro e w' ⟨rfl, rfl⟩
 clear hRc0 hRf0 hRc1 hRf1
 have hC5 : CA w3 [(⟨w.heap.size, 0, none⟩, .string (E C)), (⟨w.heap.size, 1, none⟩, .string (E K)), (⟨w.heap.size + 1, 0, none⟩, .slice a1 n1 c1), (⟨w.heap.size + 1, 1, none⟩, .slice a2 n2 c2), (⟨w.heap.size + 1, 2, none⟩, .slice a3 n3 c3)] := CA.cons hR.lt (hR.cell 0) (CA.cons hR.lt (hR.cell 1) (CA.cons hP.lt (hP.cell 0) (CA.cons hP.lt (hP.cell 1) (CA.cons hP.lt (hP.cell 2) (CA.nil _)))))
 have hneA := fun x hx => Nat.ne_of_lt (hC5 x hx).1
 have HORD : Hid (∀ w', Below w3.heap.size w3 w' → Calls Tryz.prog 99 #[.agg #[.slice a1 n1 c1, .slice a2 n2 c2, .slice a3 n3 c3]] w' fun e w'' => e = .returned (.string (E N.ord)) ∧ Below w'.heap.size w' w'') := fun w' hb' => sorder_c N _ _ _ w' HM.out (hS.after hb')
 go_upto_region 9 with fail
 go_cut [8] (fun s8 wx => SBox w3 137 [.string (E C), .string (E K), .string (E N.ord)] s8 wx)
 case first =>
  go_region_held3 (fun w' => w'.cell? ⟨w.heap.size, 0, none⟩ = some (.string (E C)) ∧ w'.cell? ⟨w.heap.size, 1, none⟩ = some (.string (E K)) ∧ w'.cell? ⟨w.heap.size + 1, 0, none⟩ = some (.slice a1 n1 c1) ∧ w'.cell? ⟨w.heap.size + 1, 1, none⟩ = some (.slice a2 n2 c2) ∧ w'.cell? ⟨w.heap.size + 1, 2, none⟩ = some (.slice a3 n3 c3)) ((refine CA.k5 ?_; repeat (first | (with_reducible exact hCf) | (with_reducible exact hC5) | (with_reducible refine CA.drew ?_) | (with_reducible refine CA.alloc ?_ _) | (refine CA.set ?_ _ _ _ hneA))))
   ((go_at_call 99; refine (HORD.out _ (by first | exact (Below.drew (Below.refl _ _)) | exact (b1 w3 _).drew)).mono ?_; rintro e wf ⟨rfl, hbf⟩; have hCf : CA wf [(⟨w.heap.size, 0, none⟩, .string (E C)), (⟨w.heap.size, 1, none⟩, .string (E K)), (⟨w.heap.size + 1, 0, none⟩, .slice a1 n1 c1), (⟨w.heap.size + 1, 1, none⟩, .slice a2 n2 c2), (⟨w.heap.size + 1, 2, none⟩, .slice a3 n3 c3)] := (by first | exact hC5.drew.after hbf | exact (hC5.alloc _).drew.after hbf | exact (hC5.drew.alloc _).after hbf); (try (have kA := (Blk.new w3 #[.string { data := #[] }, .string { data := #[] }, .string { data := #[] }] 137).drew.after hbf; have kA0 := kA.cell 0; have kA1 := kA.cell 1; have kA2 := kA.free 0; have kA3 := kA.free 1; have kA4 := kA.cell 2; have kA5 := kA.free 2))))
  all_goals
   go_wp2_with fail
   go_meet
   first
    | exact ⟨_, rfl, Blk.new _ _ _, hbf.size, ba ((Below.drew (Below.refl _ _)).trans hbf) _⟩
    | exact ⟨_, rfl, ((kA.set 0 _).set 1 _).set 2 _, Nat.le_refl _, (((bt ((b1 w3 _).drew) hbf).setCell (by simp) _).setCell (by simp) _).setCell (by simp) _⟩
 case rest =>
  obtain ⟨g8, rfl, h8, hg8, hbx⟩ := hcut
  obtain ⟨wx, hwx⟩ : ∃ wx, wx = wc := ⟨_, rfl⟩
  subst hwx
  replace hR := hR.after hbx
  replace hP := hP.after hbx
  replace hS := hS.after hbx
  replace hBW := bt hBW hbx
  clear hbx hC5 hneA HORD hRl hPl
  have hPl := hP.lt
  have hQD : Hid (N.ord < 256 ^ 128) := lt128 (ord_lt HM.out)
  obtain ⟨qd, hqd⟩ : ∃ q, q = N.ord := ⟨_, rfl⟩
  rw [← hqd] at h8
  have HQ := Lib.hid hqd
  clear hqd
  obtain ⟨hPc0, hPf0, hPc1, hPf1, hPc2, hPf2⟩ := hP.x3
  go_wp2
  clear hPc0 hPf0 hPc1 hPf1 hPc2 hPf2
  clear hPl
  go_loopw [52] (fun i wr => ∃ k : Nat, k ≤ n2 ∧ i = .int .i64 k ∧ Hid ((N.vars.take k).any vz = false) ∧ Below wx.heap.size wx wr) (fun i _ => n2 - (intOf i).toNat)
  case atStart => exact ⟨0, by omega, rfl, rfl, Below.refl _ _⟩
  case round =>
   obtain ⟨k, hk, rfl, HA, hbr⟩ := hrel
   obtain ⟨wp, hwp⟩ : ∃ wp, wp = wr := ⟨_, rfl⟩
   subst hwp
   replace hR := hR.after hbr
   replace hP := hP.after hbr
   replace hS := hS.after hbr
   replace h8 := h8.after hbr
   replace hBW := bt hBW hbr
   have hRl := hR.lt
   have h8l := h8.lt
   by_cases hlt : k < n2
   ·have hkl : k < N.vars.length := by rw [← HN2.out]; exact hlt
    obtain ⟨b, o, rfl, hbl, x1⟩ := hS.vat hkl
    have HVM : Hid ((N.vars[k]'hkl) ∈ N.vars) := List.getElem_mem hkl
    have HT := Lib.hid (any_take vz N.vars k hkl)
    generalize (N.vars[k]'hkl) = s1 at x1 HVM HT
    have h0k : (0 : Int) ≤ (k : Int) := by omega
    have h1k : (k : Int) < (n2 : Int) := by omega
    have hV := Blk.new wp #[.string (E s1)] 64
    rcases Nat.eq_zero_or_pos s1 with rfl | h0
    ·have HKD := Lib.hid (fun w => kindV_c 0 0 w rfl)
     go_wp2_with fail
     refine (HKD.out _).mono ?_
     rintro e w5 ⟨rfl, hb5⟩
     have hR5 := (hR.alloc (.cells #[.string (E 0)] 64)).after hb5
     have h85 := (h8.alloc (.cells #[.string (E 0)] 64)).after hb5
     have hR5l := hR5.lt
     have h85l := h85.lt
     obtain ⟨hR5c0, hR5f0⟩ := hR5.x1
     obtain ⟨h85c0, h85f0, h85c1, h85f1, h85c2, h85f2⟩ := h85.x3
     have hgt := cmp_pos C qd (by rw [HQ.out]; exact HO.out)
     go_wp2_with fail
     refine (cmp_c C qd _ HC.out (by rw [HQ.out]; exact hQD.out)).mono ?_
     rintro e w' ⟨rfl, rfl⟩
     go_wp2
     go_ret2
     exact ⟨rfl, bt (ba hBW _) hb5⟩
    ·have HKD := Lib.hid (fun w => kindV_c s1 1 w (if_neg (by omega)))
     have HX : Hid ((N.vars.take (k + 1)).any vz = (N.vars.take k).any vz) := by rw [Hid, HT.out, vz_pos h0, Bool.or_false]
     go_wp2_with fail
     refine (HKD.out _).mono ?_
     rintro e w5 ⟨rfl, hb5⟩
     go_wp2
     go_roundw
     case rel => exact ⟨k + 1, by omega, by go_num, by rw [Hid, HX.out]; exact HA.out, bt (ba hbr _) hb5⟩
     case measure => simp [intOf]; omega
   ·have hab : N.vars.any vz = false := any_end vz N.vars k (by rw [← HN2.out]; omega) HA.out
    exact absurd (hab.symm.trans HV.out) (by decide)

end Go.Proofs.YtehoiholhkfcpaaGreat
end

section
set_option linter.unusedVariables false
set_option linter.unusedSimpArgs false
set_option maxRecDepth 100000
namespace Go.Proofs.YtehoiholhkfcpaaGreat
open Go.RowKit Go.Shelf

@[go_sem] theorem run_store_func {P : Program} {w : World} {a : Addr} {m : Mode} (f : Fn) (b c : Array Value) : (store a (.func f b c) m).run P w = stored P w a (.func f b c) m := run_store P w a _ m rfl

def LBox (w : World) (l1 l2 : Nat) (s15 s16 : Value) (wx : World) : Prop := ∃ g, s15 = .pointer (some ⟨g, 0, none⟩) ∧ s16 = .int .i64 0 ∧ Blk wx g 100 [.string (E l1), .string (E l2)] ∧ w.heap.size ≤ g ∧ Below w.heap.size w wx

def BPost (w : World) (L : List (Nat × Nat)) (e : Ending) (w' : World) : Prop := ∃ v, e = .returned (.tuple #[v, .int .i64 0]) ∧ LmOwn w' w.heap.size v L ∧ Below w.heap.size w w'

theorem lims_step (N : NSta) (C K : Nat) (k : Nat) (h : k < N.vars.length) : (N.lims C K).take (k + 1) = (N.lims C K).take k ++ [lim N.ord C K N.vars[k]] := by
 unfold NSta.lims
 rw [← List.map_take, List.take_succ_eq_append_getElem h, List.map_append, List.map_take]; rfl

set_option maxHeartbeats 4000000 in
theorem bounds_ok (N : NSta) (C K : Nat) (v1 v2 v3 : Value) (w : World) (hC : C < 256 ^ 8) (hK : K < 256 ^ 8) (h2 : 2 ≤ C) (h3 : 2 ≤ K) (hv : N.vars.any vz = true → C ≤ N.ord) (hm : NOk N) (hS : NAt w v1 v2 v3 N) (hc : N.chk = 0) :
  Calls Tryz.prog 50 #[.agg #[.string (E C), .string (E K)], .agg #[v1, v2, v3]] w (BPost w (N.lims C K)) := by
 obtain ⟨i0, hi0, hz00, hz01, hz02⟩ := info_parts info_lim
 have HI0 := Lib.hid hi0
 have HA0 := Lib.hid hz00
 have HB0 := Lib.hid hz01
 have HC0 := Lib.hid hz02
 clear hi0 hz00 hz01 hz02
 have HC := Lib.hid (lt128 hC)
 have HK := Lib.hid (lt128 hK)
 have HC8 := Lib.hid hC
 have HK8 := Lib.hid hK
 have HC1 : Hid (1 ≤ C) := by unfold Hid; omega
 have HK1 : Hid (1 ≤ K) := by unfold Hid; omega
 have HV := Lib.hid hv
 have HTWO := Lib.hid (fun w => ofK_c 2 2 w rfl (by decide))
 have HCK := Lib.hid hc
 obtain ⟨a1, c1, a2, c2, a3, c3, rfl, rfl, rfl⟩ := hS.forms
 obtain ⟨n1, hn1⟩ : ∃ n, n = N.grps.length := ⟨_, rfl⟩
 obtain ⟨n2, hn2⟩ : ∃ n, n = N.vars.length := ⟨_, rfl⟩
 obtain ⟨n3, hn3⟩ : ∃ n, n = N.eqs.length := ⟨_, rfl⟩
 have HN1 := Lib.hid hn1
 have HN2 := Lib.hid hn2
 have HN3 := Lib.hid hn3
 have l1 : n1 ≤ 10 := by rw [hn1]; exact hm.ng
 have l2 : n2 ≤ 12 := by rw [hn2]; exact hm.nv
 have l3 : n3 ≤ 12 := by rw [hn3]; exact hm.ne
 have HM := Lib.hid hm
 rw [← hn1, ← hn2, ← hn3] at hS ⊢
 clear hm hn1 hn2 hn3
 have HCHK := Lib.hid (chk0_c N _ _ _ w HM.out hS HCK.out)
 have hR := blk2a w #[.string (E C), .string (E K)] #[.slice a1 n1 c1, .slice a2 n2 c2, .slice a3 n3 c3] 24 29
 have hP := blk2b w #[.string (E C), .string (E K)] #[.slice a1 n1 c1, .slice a2 n2 c2, .slice a3 n3 c3] 24 29
 have hBW := b2 w (.cells #[.string (E C), .string (E K)] 24) (.cells #[.slice a1 n1 c1, .slice a2 n2 c2, .slice a3 n3 c3] 29)
 replace hS := hS.after hBW
 have hnl := cmp_nneg C 2 h2
 have hnl2 := cmp_nneg K 2 h3
 clear hC hK hc h2 h3 hv
 obtain ⟨hRc0, hRf0, hRc1, hRf1⟩ := hR.x2
 obtain ⟨hPc0, hPf0, hPc1, hPf1, hPc2, hPf2⟩ := hP.x3
 go_enter Tryz.func50, Tryz.ntmps50
 go_wp2_with fail
 refine (validE_c C _ HC.out).mono ?_
 rintro e w' ⟨rfl, rfl⟩
 go_wp2_with fail
 refine (validE_c K _ HK.out).mono ?_
 rintro e w' ⟨rfl, rfl⟩
 go_wp2_with fail
 refine (HCHK.out _ hBW).mono ?_
 rintro e w2 ⟨rfl, hb2⟩
 clear hRc0 hRf0 hRc1 hRf1
 clear hPc0 hPf0 hPc1 hPf1 hPc2 hPf2
 replace hR := hR.after hb2
 replace hP := hP.after hb2
 replace hS := hS.after hb2
 replace hBW := bt hBW hb2
 clear hb2
 go_wp2_with fail
 refine (HTWO.out _).mono ?_
 rintro e w3 ⟨rfl, hb3⟩
 replace hR := hR.after hb3
 replace hP := hP.after hb3
 replace hS := hS.after hb3
 replace hBW := bt hBW hb3
 clear hb3
 have hRl := hR.lt
 have hPl := hP.lt
 obtain ⟨hRc0, hRf0, hRc1, hRf1⟩ := hR.x2
 go_wp2_with fail
 refine (cmp_c C 2 _ HC.out (by decide)).mono ?_
 rintro e w' ⟨rfl, rfl⟩
 go_wp2_with fail
 refine (cmp_c K 2 _ HK.out (by decide)).mono ?_
 rintro e w' ⟨rfl, rfl⟩
 clear hRc0 hRf0 hRc1 hRf1
 have hC5 : CA w3 [(⟨w.heap.size, 0, none⟩, .string (E C)), (⟨w.heap.size, 1, none⟩, .string (E K)), (⟨w.heap.size + 1, 0, none⟩, .slice a1 n1 c1), (⟨w.heap.size + 1, 1, none⟩, .slice a2 n2 c2), (⟨w.heap.size + 1, 2, none⟩, .slice a3 n3 c3)] := CA.cons hR.lt (hR.cell 0) (CA.cons hR.lt (hR.cell 1) (CA.cons hP.lt (hP.cell 0) (CA.cons hP.lt (hP.cell 1) (CA.cons hP.lt (hP.cell 2) (CA.nil _)))))
 have hneA := fun x hx => Nat.ne_of_lt (hC5 x hx).1
 have HORD : Hid (∀ w', Below w3.heap.size w3 w' → Calls Tryz.prog 99 #[.agg #[.slice a1 n1 c1, .slice a2 n2 c2, .slice a3 n3 c3]] w' fun e w'' => e = .returned (.string (E N.ord)) ∧ Below w'.heap.size w' w'') := fun w' hb' => sorder_c N _ _ _ w' HM.out (hS.after hb')
 go_upto_region 9 with fail
 go_cut [8] (fun s8 wx => SBox w3 137 [.string (E C), .string (E K), .string (E N.ord)] s8 wx)
 case first =>
  go_region_held3 (fun w' => w'.cell? ⟨w.heap.size, 0, none⟩ = some (.string (E C)) ∧ w'.cell? ⟨w.heap.size, 1, none⟩ = some (.string (E K)) ∧ w'.cell? ⟨w.heap.size + 1, 0, none⟩ = some (.slice a1 n1 c1) ∧ w'.cell? ⟨w.heap.size + 1, 1, none⟩ = some (.slice a2 n2 c2) ∧ w'.cell? ⟨w.heap.size + 1, 2, none⟩ = some (.slice a3 n3 c3)) ((refine CA.k5 ?_; repeat (first | (with_reducible exact hCf) | (with_reducible exact hC5) | (with_reducible refine CA.drew ?_) | (with_reducible refine CA.alloc ?_ _) | (refine CA.set ?_ _ _ _ hneA))))
   ((go_at_call 99; refine (HORD.out _ (by first | exact (Below.drew (Below.refl _ _)) | exact (b1 w3 _).drew)).mono ?_; rintro e wf ⟨rfl, hbf⟩; have hCf : CA wf [(⟨w.heap.size, 0, none⟩, .string (E C)), (⟨w.heap.size, 1, none⟩, .string (E K)), (⟨w.heap.size + 1, 0, none⟩, .slice a1 n1 c1), (⟨w.heap.size + 1, 1, none⟩, .slice a2 n2 c2), (⟨w.heap.size + 1, 2, none⟩, .slice a3 n3 c3)] := (by first | exact hC5.drew.after hbf | exact (hC5.alloc _).drew.after hbf | exact (hC5.drew.alloc _).after hbf); (try (have kA := (Blk.new w3 #[.string { data := #[] }, .string { data := #[] }, .string { data := #[] }] 137).drew.after hbf; have kA0 := kA.cell 0; have kA1 := kA.cell 1; have kA2 := kA.free 0; have kA3 := kA.free 1; have kA4 := kA.cell 2; have kA5 := kA.free 2))))
  all_goals
   go_wp2_with fail
   go_meet
   first
    | exact ⟨_, rfl, Blk.new _ _ _, hbf.size, ba ((Below.drew (Below.refl _ _)).trans hbf) _⟩
    | exact ⟨_, rfl, ((kA.set 0 _).set 1 _).set 2 _, Nat.le_refl _, (((bt ((b1 w3 _).drew) hbf).setCell (by simp) _).setCell (by simp) _).setCell (by simp) _⟩
 case rest =>
  obtain ⟨g8, rfl, h8, hg8, hbx⟩ := hcut
  obtain ⟨wx, hwx⟩ : ∃ wx, wx = wc := ⟨_, rfl⟩
  subst hwx
  replace hR := hR.after hbx
  replace hP := hP.after hbx
  replace hS := hS.after hbx
  replace hBW := bt hBW hbx
  clear hbx hC5 hneA HORD hRl hPl
  have hPl := hP.lt
  have hQD : Hid (N.ord < 256 ^ 128) := lt128 (ord_lt HM.out)
  obtain ⟨qd, hqd⟩ : ∃ q, q = N.ord := ⟨_, rfl⟩
  rw [← hqd] at h8
  have HQ := Lib.hid hqd
  clear hqd
  obtain ⟨hPc0, hPf0, hPc1, hPf1, hPc2, hPf2⟩ := hP.x3
  go_wp2
  clear hPc0 hPf0 hPc1 hPf1 hPc2 hPf2
  clear hPl
  go_loopw [52] (fun i wr => ∃ k : Nat, k ≤ n2 ∧ i = .int .i64 k ∧ Hid (0 ≤ k) ∧ Below wx.heap.size wx wr) (fun i _ => n2 - (intOf i).toNat)
  case atStart => exact ⟨0, by omega, rfl, Nat.zero_le _, Below.refl _ _⟩
  case round =>
   obtain ⟨k, hk, rfl, HA, hbr⟩ := hrel
   obtain ⟨wp, hwp⟩ : ∃ wp, wp = wr := ⟨_, rfl⟩
   subst hwp
   replace hR := hR.after hbr
   replace hP := hP.after hbr
   replace hS := hS.after hbr
   replace h8 := h8.after hbr
   replace hBW := bt hBW hbr
   have hRl := hR.lt
   have h8l := h8.lt
   by_cases hlt : k < n2
   ·have hkl : k < N.vars.length := by rw [← HN2.out]; exact hlt
    obtain ⟨b, o, rfl, hbl, x1⟩ := hS.vat hkl
    have HVM : Hid ((N.vars[k]'hkl) ∈ N.vars) := List.getElem_mem hkl
    have HT := Lib.hid (any_take vz N.vars k hkl)
    generalize (N.vars[k]'hkl) = s1 at x1 HVM HT
    have h0k : (0 : Int) ≤ (k : Int) := by omega
    have h1k : (k : Int) < (n2 : Int) := by omega
    have hV := Blk.new wp #[.string (E s1)] 64
    rcases Nat.eq_zero_or_pos s1 with rfl | h0
    ·have HKD := Lib.hid (fun w => kindV_c 0 0 w rfl)
     go_wp2_with fail
     refine (HKD.out _).mono ?_
     rintro e w5 ⟨rfl, hb5⟩
     have hR5 := (hR.alloc (.cells #[.string (E 0)] 64)).after hb5
     have h85 := (h8.alloc (.cells #[.string (E 0)] 64)).after hb5
     have hR5l := hR5.lt
     have h85l := h85.lt
     obtain ⟨hR5c0, hR5f0⟩ := hR5.x1
     obtain ⟨h85c0, h85f0, h85c1, h85f1, h85c2, h85f2⟩ := h85.x3
     have hgt := cmp_npos C qd (by rw [HQ.out]; exact HV.out (List.any_eq_true.2 ⟨_, HVM.out, rfl⟩))
     go_wp2_with fail
     refine (cmp_c C qd _ HC.out (by rw [HQ.out]; exact hQD.out)).mono ?_
     rintro e w' ⟨rfl, rfl⟩
     go_wp2
     go_roundw
     case rel => exact ⟨k + 1, by omega, by go_num, Nat.zero_le _, bt (ba hbr _) hb5⟩
     case measure => simp [intOf]; omega
    ·have HKD := Lib.hid (fun w => kindV_c s1 1 w (if_neg (by omega)))
     have HX : Hid ((N.vars.take (k + 1)).any vz = (N.vars.take k).any vz) := by rw [Hid, HT.out, vz_pos h0, Bool.or_false]
     go_wp2_with fail
     refine (HKD.out _).mono ?_
     rintro e w5 ⟨rfl, hb5⟩
     go_wp2
     go_roundw
     case rel => exact ⟨k + 1, by omega, by go_num, Nat.zero_le _, bt (ba hbr _) hb5⟩
     case measure => simp [intOf]; omega
   ·clear hbr HA
    have hPl := hP.lt
    obtain ⟨hPc0, hPf0, hPc1, hPf1, hPc2, hPf2⟩ := hP.x3
    obtain ⟨h8c0, h8f0, h8c1, h8f1, h8c2, h8f2⟩ := h8.x3
    go_wp2
    clear hPc0 hPf0 hPc1 hPf1 hPc2 hPf2
    clear h8c0 h8f0 h8c1 h8f1 h8c2 h8f2
    have hF := Blk.new wp #[.func (.func 101) #[.agg #[.string (E C), .string (E K), .string (E qd)]] #[], .func (.func 102) #[.agg #[.string (E C), .string (E K), .string (E qd)]] #[]] 140
    have hbF0 := b1 wp (.cells #[.func (.func 101) #[.agg #[.string (E C), .string (E K), .string (E qd)]] #[], .func (.func 102) #[.agg #[.string (E C), .string (E K), .string (E qd)]] #[]] 140)
    replace hP := hP.after hbF0
    replace hS := hS.after hbF0
    replace hBW := bt hBW hbF0
    clear hPl hRl h8l
    obtain ⟨g11, hg11⟩ : ∃ g, wp.heap.size = g := ⟨_, rfl⟩
    rw [hg11] at hF ⊢
    clear hg11 hbF0
    generalize wp.alloc (.cells #[.func (.func 101) #[.agg #[.string (E C), .string (E K), .string (E qd)]] #[], .func (.func 102) #[.agg #[.string (E C), .string (E K), .string (E qd)]] #[]] 140) = wF at hF hP hS hBW ⊢
    replace hF : Blk wF g11 140 [.func (.func 101) #[.agg #[.string (E C), .string (E K), .string (E qd)]] #[], .func (.func 102) #[.agg #[.string (E C), .string (E K), .string (E qd)]] #[]] := hF
    go_loopw [12, 76] (fun v12 i wr => ∃ k : Nat, k ≤ n2 ∧ i = .int .i64 k ∧ LmOwn wr wF.heap.size v12 ((N.lims C K).take k) ∧ Below wF.heap.size wF wr) (fun _ i _ => n2 - (intOf i).toNat)
    case atStart => exact ⟨0, by omega, rfl, World.ownsRow_nil _ _ _ _, Below.refl _ _⟩
    case round =>
     clear hlt hk
     obtain ⟨k, hk, rfl, hO, hbr⟩ := hrel
     obtain ⟨wq, hwq⟩ : ∃ wq, wq = wr := ⟨_, rfl⟩
     subst hwq
     have hS1 := hS.after hbr
     have hBW1 := bt hBW hbr
     by_cases hlt : k < n2
     ·have hkl : k < N.vars.length := by rw [← HN2.out]; exact hlt
      have HBZ := Lib.hid (HM.out.v _ (List.getElem_mem hkl))
      have HST := Lib.hid (lims_step N C K k hkl)
      obtain ⟨b0, o0, rfl, hbl, x1⟩ := hS1.vat hkl
      generalize (N.vars[k]'hkl) = b at x1 HBZ HST
      have h0k : (0 : Int) ≤ (k : Int) := by omega
      have h1k : (k : Int) < (n2 : Int) := by omega
      obtain ⟨l1', hl1⟩ : ∃ x, x = (lim N.ord C K b).1 := ⟨_, rfl⟩
      obtain ⟨l2', hl2⟩ : ∃ x, x = (lim N.ord C K b).2 := ⟨_, rfl⟩
      rw [show lim N.ord C K b = (l1', l2') by rw [hl1, hl2]] at HST
      have HL1 := Lib.hid hl1
      have HL2 := Lib.hid hl2
      clear hl1 hl2
      have h14 := Blk.new wq #[.string (E b)] 64
      have hb14 := b1 wq (.cells #[.string (E b)] 64)
      have hO1 := hO.after hb14
      have hF1 := (hF.after hbr).after hb14
      have hbr1 := bt hbr hb14
      clear hO hS1
      rcases Nat.eq_zero_or_pos b with rfl | h0
      ·have HE1 : Hid (l1' = qd) := by rw [Hid, HL1.out, HQ.out]; rfl
       have HE2 : Hid (l2' = qd) := by rw [Hid, HL2.out, HQ.out]; rfl
       have HKD : Hid (∀ w, Calls Tryz.prog 100 #[.agg #[.string (E 0)]] w fun e w' => e = .returned (.int .i64 0) ∧ Below w.heap.size w w') := fun w => kindV_c 0 0 w rfl
       have HDY : Hid (∀ w, Calls Tryz.prog 101 #[.agg #[.string (E C), .string (E K), .string (E qd)], .string (E 0)] w fun e w' => e = .returned (.tuple #[.agg #[.string (E l1'), .string (E l2')], .int .i64 0]) ∧ Below w.heap.size w w') := fun w => by
        rw [HE1.out, HE2.out]; exact modular_c _ _ _ _ w
       go_wp2_with fail
       generalize wq.alloc (.cells #[.string (E 0)] 64) = wA at h14 hO1 hF1 hbr1
       obtain ⟨g14, hg14⟩ : ∃ g, wq.heap.size = g := ⟨_, rfl⟩
       rw [hg14] at h14 ⊢
       clear hg14 hbr hb14 hbl x1
       obtain ⟨b, hb0⟩ : ∃ b, b = 0 := ⟨_, rfl⟩
       rw [← hb0] at h14
       replace h14 : Blk wA g14 64 [.string (E b)] := h14
       have HBEQ := Lib.hid hb0
       rw [← hb0] at HKD HDY
       clear hb0
       have hC : CA wA [(⟨g14, 0, none⟩, .string (E b)), (⟨g11, 0, none⟩, .func (.func 101) #[.agg #[.string (E C), .string (E K), .string (E qd)]] #[]), (⟨g11, 1, none⟩, .func (.func 102) #[.agg #[.string (E C), .string (E K), .string (E qd)]] #[])] := CA.cons h14.lt (h14.cell 0) (CA.cons hF1.lt (hF1.cell 0) (CA.cons hF1.lt (hF1.cell 1) (CA.nil _)))
       have hneA := fun x hx => Nat.ne_of_lt (hC x hx).1
       go_upto_region 21 with fail
       go_cut [15, 16] (fun s15 s16 wx => LBox wA l1' l2' s15 s16 wx)
       case first =>
        go_region_held3 (fun w' => w'.cell? ⟨g14, 0, none⟩ = some (.string (E b)) ∧ w'.cell? ⟨g11, 0, none⟩ = some (.func (.func 101) #[.agg #[.string (E C), .string (E K), .string (E qd)]] #[]) ∧ w'.cell? ⟨g11, 1, none⟩ = some (.func (.func 102) #[.agg #[.string (E C), .string (E K), .string (E qd)]] #[])) ((refine CA.k3 ?_; repeat (first | (with_reducible exact hCd) | (with_reducible exact hCf) | (with_reducible exact hC) | (with_reducible refine CA.drew ?_) | (with_reducible refine CA.alloc ?_ _) | (refine CA.set ?_ _ _ _ hneA) | (refine CA.set ?_ _ _ _ (fun x hx => Nat.ne_of_lt (hCf x hx).1)))))
         (first | (go_at_call 100; refine (HKD.out _).mono ?_; rintro e wf ⟨rfl, hbf⟩; have hCf : CA wf [(⟨g14, 0, none⟩, .string (E b)), (⟨g11, 0, none⟩, .func (.func 101) #[.agg #[.string (E C), .string (E K), .string (E qd)]] #[]), (⟨g11, 1, none⟩, .func (.func 102) #[.agg #[.string (E C), .string (E K), .string (E qd)]] #[])] := (by first | exact hC.drew.after hbf | exact (hC.alloc _).drew.after hbf | exact (hC.drew.alloc _).after hbf); (try (have hbF : Below wA.heap.size wA wf := (Below.drew (Below.refl _ _)).trans hbf)); (try (have hbF : Below wA.heap.size wA wf := bt ((b1 wA _).drew) hbf)); (try (have kA := (Blk.new wA #[.string { data := #[] }, .string { data := #[] }] 100).drew.after hbf))) | (go_at_call 101; refine (HDY.out _).mono ?_; rintro e wd ⟨rfl, hbd⟩; have hCd : CA wd [(⟨g14, 0, none⟩, .string (E b)), (⟨g11, 0, none⟩, .func (.func 101) #[.agg #[.string (E C), .string (E K), .string (E qd)]] #[]), (⟨g11, 1, none⟩, .func (.func 102) #[.agg #[.string (E C), .string (E K), .string (E qd)]] #[])] := (by first | exact hCf.after hbd | exact (hCf.alloc _).after hbd); (try (have hbD : Below wA.heap.size wA wd := bt hbF hbd)); (try (have hbD : Below wA.heap.size wA wd := bt (ba hbF _) hbd)); (try (have kD := kA.after hbd; have kA0 := kD.cell 0; have kA1 := kD.cell 1; have kA2 := kD.free 0; have kA3 := kD.free 1; have kl := kD.lt)); (try (have kB := (Blk.new wf #[.string { data := #[] }, .string { data := #[] }] 100).after hbd; have kB0 := kB.cell 0; have kB1 := kB.cell 1; have kB2 := kB.free 0; have kB3 := kB.free 1; have kbl := kB.lt))))
        all_goals
         go_wp2_with fail
         go_meet
         first
          | exact ⟨_, rfl, rfl, Blk.new _ _ _, hbD.size, ba hbD _⟩
          | exact ⟨_, rfl, rfl, (kD.set 0 _).set 1 _, Nat.le_refl _, (hbD.setCell (by simp) _).setCell (by simp) _⟩
          | exact ⟨_, rfl, rfl, (kB.set 0 _).set 1 _, hbF.size, (hbD.setCell (by have := hbF.size; simp; omega) _).setCell (by have := hbF.size; simp; omega) _⟩
     
       case rest =>
        obtain ⟨g15, rfl, rfl, h15, hg15, hbx⟩ := hcut
        obtain ⟨wy, hwy⟩ : ∃ wy, wy = wc := ⟨_, rfl⟩
        subst hwy
        clear hC hneA
        have hO2 := own_after hO1 hbx
        have hF2 := hF1.after hbx
        have hbr2 := bt hbr1 hbx
        have h15l := h15.lt
        have hLE : Hid (((N.lims C K).take k).length = k) := by rw [Hid, List.length_take, NSta.lims, List.length_map]; omega
        rw [hLE.out] at hO2
        clear hbx hO1
        have hszy := hbr2.size
        generalize (N.lims C K).take k = LI at hO2 HST hLE
        obtain ⟨h15c0, h15f0, h15c1, h15f1⟩ := h15.x2
        go_wp2_with (at_builtin; (refine wpList_append_lies _ rfl (.tmp 93) (.tmp 95) _ rfl wF.heap.size 100 i0 _ 2 32 Tryz.underlying96 HI0.out HA0.out HB0.out HC0.out rfl (by omega) u12 k (lcs LI) rfl (own_after hO2 (b1 _ (.cells #[.string (E l1'), .string (E l2')] 100))) ⟨wy.heap.size, 0, none⟩ 1 1 [.string (E l1'), .string (E l2')] rfl rfl (Blk.new wy #[.string (E l1'), .string (E l2')] 100).cells (by simp [Value.oneCell']) (by omega) (by simp only [maxLen]; omega) (by omega) (by rw [World.size_alloc]; omega) (wy.heap.size + 1) (by simp) ?_); intro ga ca wa hown hgrow hat hlt2)
        have hOA : LmOwn wa wF.heap.size (.slice (some ⟨ga, 0, none⟩) (k + 1) ca) (LI ++ [(l1', l2')]) := by rw [LmOwn, List.length_append, hLE.out, ← lcs_app]; exact hown
        rw [← HST.out] at hOA
        have hbA := (ba hbr2 (.cells #[.string (E l1'), .string (E l2')] 100)).grown hgrow (by rw [World.size_alloc]; omega) (fun x hx => (own_lt hO2 hx).2)
        clear hown hgrow hat hlt2 hO2 hbr2
        go_wp2
        go_roundw
        case rel => exact ⟨k + 1, by omega, by go_num, hOA, hbA⟩
        case measure => simp [intOf]; omega
      ·have HE1 : Hid (l1' = K * C * b) := by rw [Hid, HL1.out, lim, if_neg (by omega)]
       have HE2 : Hid (l2' = K * C * b - (C - 1) * (b - 1)) := by rw [Hid, HL2.out, lim, if_neg (by omega)]
       have HKD : Hid (∀ w, Calls Tryz.prog 100 #[.agg #[.string (E b)]] w fun e w' => e = .returned (.int .i64 1) ∧ Below w.heap.size w w') := fun w => kindV_c b 1 w (if_neg (by omega))
       have HDY : Hid (∀ w, Calls Tryz.prog 102 #[.agg #[.string (E C), .string (E K), .string (E qd)], .string (E b)] w fun e w' => e = .returned (.tuple #[.agg #[.string (E l1'), .string (E l2')], .int .i64 0]) ∧ Below w.heap.size w w') := fun w => by
        rw [HE1.out, HE2.out]; exact integral_c C K qd b w HC8.out HK8.out HBZ.out HC1.out HK1.out h0
       clear h0
       go_wp2_with fail
       generalize wq.alloc (.cells #[.string (E b)] 64) = wA at h14 hO1 hF1 hbr1
       obtain ⟨g14, hg14⟩ : ∃ g, wq.heap.size = g := ⟨_, rfl⟩
       rw [hg14] at h14 ⊢
       replace h14 : Blk wA g14 64 [.string (E b)] := h14
       clear hg14 hbr hb14 hbl x1
       have hC : CA wA [(⟨g14, 0, none⟩, .string (E b)), (⟨g11, 0, none⟩, .func (.func 101) #[.agg #[.string (E C), .string (E K), .string (E qd)]] #[]), (⟨g11, 1, none⟩, .func (.func 102) #[.agg #[.string (E C), .string (E K), .string (E qd)]] #[])] := CA.cons h14.lt (h14.cell 0) (CA.cons hF1.lt (hF1.cell 0) (CA.cons hF1.lt (hF1.cell 1) (CA.nil _)))
       have hneA := fun x hx => Nat.ne_of_lt (hC x hx).1
       go_upto_region 21 with fail
       go_cut [15, 16] (fun s15 s16 wx => LBox wA l1' l2' s15 s16 wx)
       case first =>
        go_region_held3 (fun w' => w'.cell? ⟨g14, 0, none⟩ = some (.string (E b)) ∧ w'.cell? ⟨g11, 0, none⟩ = some (.func (.func 101) #[.agg #[.string (E C), .string (E K), .string (E qd)]] #[]) ∧ w'.cell? ⟨g11, 1, none⟩ = some (.func (.func 102) #[.agg #[.string (E C), .string (E K), .string (E qd)]] #[])) ((refine CA.k3 ?_; repeat (first | (with_reducible exact hCd) | (with_reducible exact hCf) | (with_reducible exact hC) | (with_reducible refine CA.drew ?_) | (with_reducible refine CA.alloc ?_ _) | (refine CA.set ?_ _ _ _ hneA) | (refine CA.set ?_ _ _ _ (fun x hx => Nat.ne_of_lt (hCf x hx).1)))))
         (first | (go_at_call 100; refine (HKD.out _).mono ?_; rintro e wf ⟨rfl, hbf⟩; have hCf : CA wf [(⟨g14, 0, none⟩, .string (E b)), (⟨g11, 0, none⟩, .func (.func 101) #[.agg #[.string (E C), .string (E K), .string (E qd)]] #[]), (⟨g11, 1, none⟩, .func (.func 102) #[.agg #[.string (E C), .string (E K), .string (E qd)]] #[])] := (by first | exact hC.drew.after hbf | exact (hC.alloc _).drew.after hbf | exact (hC.drew.alloc _).after hbf); (try (have hbF : Below wA.heap.size wA wf := (Below.drew (Below.refl _ _)).trans hbf)); (try (have hbF : Below wA.heap.size wA wf := bt ((b1 wA _).drew) hbf)); (try (have kA := (Blk.new wA #[.string { data := #[] }, .string { data := #[] }] 100).drew.after hbf))) | (go_at_call 102; refine (HDY.out _).mono ?_; rintro e wd ⟨rfl, hbd⟩; have hCd : CA wd [(⟨g14, 0, none⟩, .string (E b)), (⟨g11, 0, none⟩, .func (.func 101) #[.agg #[.string (E C), .string (E K), .string (E qd)]] #[]), (⟨g11, 1, none⟩, .func (.func 102) #[.agg #[.string (E C), .string (E K), .string (E qd)]] #[])] := (by first | exact hCf.after hbd | exact (hCf.alloc _).after hbd); (try (have hbD : Below wA.heap.size wA wd := bt hbF hbd)); (try (have hbD : Below wA.heap.size wA wd := bt (ba hbF _) hbd)); (try (have kD := kA.after hbd; have kA0 := kD.cell 0; have kA1 := kD.cell 1; have kA2 := kD.free 0; have kA3 := kD.free 1; have kl := kD.lt)); (try (have kB := (Blk.new wf #[.string { data := #[] }, .string { data := #[] }] 100).after hbd; have kB0 := kB.cell 0; have kB1 := kB.cell 1; have kB2 := kB.free 0; have kB3 := kB.free 1; have kbl := kB.lt))))
        all_goals
         go_wp2_with fail
         go_meet
         first
          | exact ⟨_, rfl, rfl, Blk.new _ _ _, hbD.size, ba hbD _⟩
          | exact ⟨_, rfl, rfl, (kD.set 0 _).set 1 _, Nat.le_refl _, (hbD.setCell (by simp) _).setCell (by simp) _⟩
          | exact ⟨_, rfl, rfl, (kB.set 0 _).set 1 _, hbF.size, (hbD.setCell (by have := hbF.size; simp; omega) _).setCell (by have := hbF.size; simp; omega) _⟩
     
       case rest =>
        obtain ⟨g15, rfl, rfl, h15, hg15, hbx⟩ := hcut
        obtain ⟨wy, hwy⟩ : ∃ wy, wy = wc := ⟨_, rfl⟩
        subst hwy
        clear hC hneA
        have hO2 := own_after hO1 hbx
        have hF2 := hF1.after hbx
        have hbr2 := bt hbr1 hbx
        have h15l := h15.lt
        have hLE : Hid (((N.lims C K).take k).length = k) := by rw [Hid, List.length_take, NSta.lims, List.length_map]; omega
        rw [hLE.out] at hO2
        clear hbx hO1
        have hszy := hbr2.size
        generalize (N.lims C K).take k = LI at hO2 HST hLE
        obtain ⟨h15c0, h15f0, h15c1, h15f1⟩ := h15.x2
        go_wp2_with (at_builtin; (refine wpList_append_lies _ rfl (.tmp 93) (.tmp 95) _ rfl wF.heap.size 100 i0 _ 2 32 Tryz.underlying96 HI0.out HA0.out HB0.out HC0.out rfl (by omega) u12 k (lcs LI) rfl (own_after hO2 (b1 _ (.cells #[.string (E l1'), .string (E l2')] 100))) ⟨wy.heap.size, 0, none⟩ 1 1 [.string (E l1'), .string (E l2')] rfl rfl (Blk.new wy #[.string (E l1'), .string (E l2')] 100).cells (by simp [Value.oneCell']) (by omega) (by simp only [maxLen]; omega) (by omega) (by rw [World.size_alloc]; omega) (wy.heap.size + 1) (by simp) ?_); intro ga ca wa hown hgrow hat hlt2)
        have hOA : LmOwn wa wF.heap.size (.slice (some ⟨ga, 0, none⟩) (k + 1) ca) (LI ++ [(l1', l2')]) := by rw [LmOwn, List.length_append, hLE.out, ← lcs_app]; exact hown
        rw [← HST.out] at hOA
        have hbA := (ba hbr2 (.cells #[.string (E l1'), .string (E l2')] 100)).grown hgrow (by rw [World.size_alloc]; omega) (fun x hx => (own_lt hO2 hx).2)
        clear hown hgrow hat hlt2 hO2 hbr2
        go_wp2
        go_roundw
        case rel => exact ⟨k + 1, by omega, by go_num, hOA, hbA⟩
        case measure => simp [intOf]; omega
     ·have HTK : Hid ((N.lims C K).take k = N.lims C K) := List.take_of_length_le (by rw [NSta.lims, List.length_map, ← HN2.out]; omega)
      rw [HTK.out] at hO
      have hs1 := hBW.size
      go_wp2
      go_ret2
      exact ⟨_, rfl, own_mono hO hs1, hBW1⟩

end Go.Proofs.YtehoiholhkfcpaaGreat
end

section
set_option linter.unusedVariables false
set_option linter.unusedSimpArgs false
set_option maxRecDepth 100000
namespace Go.Proofs.YtehoiholhkfcpaaGreat
open Go.RowKit Go.Shelf

theorem rorder2_c (p : Nat) (w : World) (h1 : (E p).size ≤ 1000000) :
  Calls Tryz.prog 29 #[.string (E p), .string { data := #[2] }] w fun e w' => e = .returned (.int .i64 (cmpN p 2)) ∧ Below w.heap.size w w' :=
 rorder_c p 2 w h1 (by decide)

/-- what a function that returns two lists of numbers returns -/
def B2Post (w : World) (L : List (Nat × Nat)) (e : Ending) (w' : World) : Prop := ∃ v u, e = .returned (.tuple #[v, u, .int .i64 0]) ∧ NOwn w' w.heap.size v (L.map (·.1)) ∧ NOwn w' w.heap.size u (L.map (·.2)) ∧ Below w.heap.size w w'

set_option maxHeartbeats 1600000 in
theorem rbounds_rule (C K : ByteArray) (v1 v2 v3 : Value) (w : World) (hC : C.size ≤ 1000) (hK : K.size ≤ 1000) (h : (vldB C && vldB K) = false) :
  Calls Tryz.prog 26 #[.agg #[.string C, .string K], .agg #[v1, v2, v3]] w fun e w' => e = .returned (.tuple #[.slice none 0 0, .slice none 0 0, .int .i64 3]) ∧ Below w.heap.size w w' := by
 have HC := Lib.hid hC
 have HK := Lib.hid hK
 have hR := blk2a w #[Value.string C, Value.string K] #[v1, v2, v3] 24 29
 have hP := blk2b w #[Value.string C, Value.string K] #[v1, v2, v3] 24 29
 have hBW := b2 w (.cells #[Value.string C, Value.string K] 24) (.cells #[v1, v2, v3] 29)
 clear hC hK
 cases h1 : vldB C
 ·have HV := Lib.hid h1
  clear h1 h
  obtain ⟨hRc0, hRf0, hRc1, hRf1⟩ := hR.x2
  go_enter Tryz.func26, Tryz.ntmps26
  go_wp2_with fail
  refine (rvalidV_c C false _ (by have := HC.out; omega) HV.out).mono ?_
  rintro e w' ⟨rfl, rfl⟩
  go_wp2
  go_ret3
  exact ⟨rfl, hBW⟩
 ·have h2 : vldB K = false := by rw [h1] at h; exact h
  have HV := Lib.hid h1
  have HV2 := Lib.hid h2
  clear h1 h2 h
  obtain ⟨hRc0, hRf0, hRc1, hRf1⟩ := hR.x2
  go_enter Tryz.func26, Tryz.ntmps26
  go_wp2_with fail
  refine (rvalidV_c C true _ (by have := HC.out; omega) HV.out).mono ?_
  rintro e w' ⟨rfl, rfl⟩
  go_wp2_with fail
  refine (rvalidV_c K false _ (by have := HK.out; omega) HV2.out).mono ?_
  rintro e w' ⟨rfl, rfl⟩
  go_wp2
  go_ret3
  exact ⟨rfl, hBW⟩

set_option maxHeartbeats 1600000 in
theorem rbounds_chk (C K : Nat) (v1 v2 v3 : Value) (k : Nat) (w : World) (hC : C < 256 ^ 8) (hK : K < 256 ^ 8) (hk : k ≠ 0)
  (hch : ∀ w', Below w.heap.size w w' → Calls Tryz.prog 58 #[.agg #[v1, v2, v3]] w' fun e w'' => e = .returned (.int .i64 k) ∧ Below w'.heap.size w' w'') :
  Calls Tryz.prog 26 #[.agg #[.string (E C), .string (E K)], .agg #[v1, v2, v3]] w fun e w' => e = .returned (.tuple #[.slice none 0 0, .slice none 0 0, .int .i64 k]) ∧ Below w.heap.size w w' := by
 have HC := Lib.hid (lt128 hC)
 have HK := Lib.hid (lt128 hK)
 have HCH := Lib.hid hch
 have hkb : ((k : Int) != 0) = true := by rw [bne_iff_ne]; omega
 have hR := blk2a w #[.string (E C), .string (E K)] #[v1, v2, v3] 24 29
 have hP := blk2b w #[.string (E C), .string (E K)] #[v1, v2, v3] 24 29
 have hBW := b2 w (.cells #[.string (E C), .string (E K)] 24) (.cells #[v1, v2, v3] 29)
 clear hC hK hch hk
 obtain ⟨hRc0, hRf0, hRc1, hRf1⟩ := hR.x2
 obtain ⟨hPc0, hPf0, hPc1, hPf1, hPc2, hPf2⟩ := hP.x3
 go_enter Tryz.func26, Tryz.ntmps26
 go_wp2_with fail
 refine (rvalidE_c C _ HC.out).mono ?_
 rintro e w' ⟨rfl, rfl⟩
 go_wp2_with fail
 refine (rvalidE_c K _ HK.out).mono ?_
 rintro e w' ⟨rfl, rfl⟩
 go_wp2_with fail
 refine (HCH.out _ hBW).mono ?_
 rintro e w2 ⟨rfl, hb2⟩
 go_wp2
 go_ret3
 exact ⟨rfl, bt hBW hb2⟩

theorem rchk0_c (N : NSta) (v1 v2 v3 : Value) (w : World) (hm : NOk N) (hS : NAt w v1 v2 v3 N) (hc : N.chk = 0) :
  ∀ w', Below w.heap.size w w' → Calls Tryz.prog 58 #[.agg #[v1, v2, v3]] w' fun e w'' => e = .returned (.int .i64 0) ∧ Below w'.heap.size w' w'' := fun w' hb' => by
 have h := rCheck_c N v1 v2 v3 w' hm (hS.after hb')
 rw [hc] at h
 exact h

set_option maxHeartbeats 1600000 in
theorem rbounds_two (N : NSta) (C K : Nat) (v1 v2 v3 : Value) (w : World) (hC : C < 256 ^ 8) (hK : K < 256 ^ 8) (h2 : C < 2 ∨ K < 2) (hm : NOk N) (hS : NAt w v1 v2 v3 N) (hc : N.chk = 0) :
  Calls Tryz.prog 26 #[.agg #[.string (E C), .string (E K)], .agg #[v1, v2, v3]] w fun e w' => e = .returned (.tuple #[.slice none 0 0, .slice none 0 0, .int .i64 2]) ∧ Below w.heap.size w w' := by
 have HC := Lib.hid (lt128 hC)
 have HK := Lib.hid (lt128 hK)
 have HCK := Lib.hid hc
 obtain ⟨a1, c1, a2, c2, a3, c3, rfl, rfl, rfl⟩ := hS.forms
 obtain ⟨n1, hn1⟩ : ∃ n, n = N.grps.length := ⟨_, rfl⟩
 obtain ⟨n2, hn2⟩ : ∃ n, n = N.vars.length := ⟨_, rfl⟩
 obtain ⟨n3, hn3⟩ : ∃ n, n = N.eqs.length := ⟨_, rfl⟩
 have HN1 := Lib.hid hn1
 have HN2 := Lib.hid hn2
 have HN3 := Lib.hid hn3
 have l1 : n1 ≤ 10 := by rw [hn1]; exact hm.ng
 have l2 : n2 ≤ 12 := by rw [hn2]; exact hm.nv
 have l3 : n3 ≤ 12 := by rw [hn3]; exact hm.ne
 have HM := Lib.hid hm
 rw [← hn1, ← hn2, ← hn3] at hS ⊢
 clear hm hn1 hn2 hn3
 have HCHK := Lib.hid (rchk0_c N _ _ _ w HM.out hS HCK.out)
 have hR := blk2a w #[.string (E C), .string (E K)] #[.slice a1 n1 c1, .slice a2 n2 c2, .slice a3 n3 c3] 24 29
 have hP := blk2b w #[.string (E C), .string (E K)] #[.slice a1 n1 c1, .slice a2 n2 c2, .slice a3 n3 c3] 24 29
 have hBW := b2 w (.cells #[.string (E C), .string (E K)] 24) (.cells #[.slice a1 n1 c1, .slice a2 n2 c2, .slice a3 n3 c3] 29)
 replace hS := hS.after hBW
 clear hC hK hc
 by_cases hc2 : C < 2
 ·have hlt := cmp_neg C 2 hc2
  clear hc2 h2
  obtain ⟨hRc0, hRf0, hRc1, hRf1⟩ := hR.x2
  obtain ⟨hPc0, hPf0, hPc1, hPf1, hPc2, hPf2⟩ := hP.x3
  go_enter Tryz.func26, Tryz.ntmps26
  go_wp2_with fail
  refine (rvalidE_c C _ HC.out).mono ?_
  rintro e w' ⟨rfl, rfl⟩
  go_wp2_with fail
  refine (rvalidE_c K _ HK.out).mono ?_
  rintro e w' ⟨rfl, rfl⟩
  go_wp2_with fail
  refine (HCHK.out _ hBW).mono ?_
  rintro e w2 ⟨rfl, hb2⟩
  clear hRc0 hRf0 hRc1 hRf1
  clear hPc0 hPf0 hPc1 hPf1 hPc2 hPf2
  replace hR := hR.after hb2
  replace hP := hP.after hb2
  replace hS := hS.after hb2
  replace hBW := bt hBW hb2
  clear hb2
  have hRl := hR.lt
  have hPl := hP.lt
  obtain ⟨hRc0, hRf0, hRc1, hRf1⟩ := hR.x2
  go_wp2_with fail
  refine (rorder2_c C _ (szM HC.out)).mono ?_
  rintro e w3 ⟨rfl, hb3⟩
  clear hRc0 hRf0 hRc1 hRf1
  replace hR := hR.after hb3
  replace hP := hP.after hb3
  replace hS := hS.after hb3
  replace hBW := bt hBW hb3
  clear hb3 hRl hPl
  have hRl := hR.lt
  have hPl := hP.lt
  go_wp2
  go_ret3
  exact ⟨rfl, hBW⟩
 ·have hnl := cmp_nneg C 2 (by omega)
  have hlt := cmp_neg K 2 (by omega)
  clear hc2 h2
  obtain ⟨hRc0, hRf0, hRc1, hRf1⟩ := hR.x2
  obtain ⟨hPc0, hPf0, hPc1, hPf1, hPc2, hPf2⟩ := hP.x3
  go_enter Tryz.func26, Tryz.ntmps26
  go_wp2_with fail
  refine (rvalidE_c C _ HC.out).mono ?_
  rintro e w' ⟨rfl, rfl⟩
  go_wp2_with fail
  refine (rvalidE_c K _ HK.out).mono ?_
  rintro e w' ⟨rfl, rfl⟩
  go_wp2_with fail
  refine (HCHK.out _ hBW).mono ?_
  rintro e w2 ⟨rfl, hb2⟩
  clear hRc0 hRf0 hRc1 hRf1
  clear hPc0 hPf0 hPc1 hPf1 hPc2 hPf2
  replace hR := hR.after hb2
  replace hP := hP.after hb2
  replace hS := hS.after hb2
  replace hBW := bt hBW hb2
  clear hb2
  have hRl := hR.lt
  have hPl := hP.lt
  obtain ⟨hRc0, hRf0, hRc1, hRf1⟩ := hR.x2
  go_wp2_with fail
  refine (rorder2_c C _ (szM HC.out)).mono ?_
  rintro e w3 ⟨rfl, hb3⟩
  clear hRc0 hRf0 hRc1 hRf1
  replace hR := hR.after hb3
  replace hP := hP.after hb3
  replace hS := hS.after hb3
  replace hBW := bt hBW hb3
  clear hb3 hRl hPl
  have hRl := hR.lt
  have hPl := hP.lt
  obtain ⟨hRc0, hRf0, hRc1, hRf1⟩ := hR.x2
  go_wp2_with fail
  refine (rorder2_c K _ (szM HK.out)).mono ?_
  rintro e w4 ⟨rfl, hb4⟩
  clear hRc0 hRf0 hRc1 hRf1
  replace hR := hR.after hb4
  replace hP := hP.after hb4
  replace hS := hS.after hb4
  replace hBW := bt hBW hb4
  clear hb4 hRl hPl
  have hRl := hR.lt
  have hPl := hP.lt
  go_wp2
  go_ret3
  exact ⟨rfl, hBW⟩

set_option maxHeartbeats 4000000 in
theorem rbounds_ord (N : NSta) (C K : Nat) (v1 v2 v3 : Value) (w : World) (hC : C < 256 ^ 8) (hK : K < 256 ^ 8) (h2 : 2 ≤ C) (h3 : 2 ≤ K) (hv : N.vars.any vz = true) (ho : N.ord < C) (hm : NOk N) (hS : NAt w v1 v2 v3 N) (hc : N.chk = 0) :
  Calls Tryz.prog 26 #[.agg #[.string (E C), .string (E K)], .agg #[v1, v2, v3]] w fun e w' => e = .returned (.tuple #[.slice none 0 0, .slice none 0 0, .int .i64 2]) ∧ Below w.heap.size w w' := by
 have HC := Lib.hid (lt128 hC)
 have HK := Lib.hid (lt128 hK)
 have HO := Lib.hid ho
 have HV := Lib.hid hv
 have HCK := Lib.hid hc
 obtain ⟨a1, c1, a2, c2, a3, c3, rfl, rfl, rfl⟩ := hS.forms
 obtain ⟨n1, hn1⟩ : ∃ n, n = N.grps.length := ⟨_, rfl⟩
 obtain ⟨n2, hn2⟩ : ∃ n, n = N.vars.length := ⟨_, rfl⟩
 obtain ⟨n3, hn3⟩ : ∃ n, n = N.eqs.length := ⟨_, rfl⟩
 have HN1 := Lib.hid hn1
 have HN2 := Lib.hid hn2
 have HN3 := Lib.hid hn3
 have l1 : n1 ≤ 10 := by rw [hn1]; exact hm.ng
 have l2 : n2 ≤ 12 := by rw [hn2]; exact hm.nv
 have l3 : n3 ≤ 12 := by rw [hn3]; exact hm.ne
 have HM := Lib.hid hm
 rw [← hn1, ← hn2, ← hn3] at hS ⊢
 clear hm hn1 hn2 hn3
 have HCHK := Lib.hid (rchk0_c N _ _ _ w HM.out hS HCK.out)
 have hR := blk2a w #[.string (E C), .string (E K)] #[.slice a1 n1 c1, .slice a2 n2 c2, .slice a3 n3 c3] 24 29
 have hP := blk2b w #[.string (E C), .string (E K)] #[.slice a1 n1 c1, .slice a2 n2 c2, .slice a3 n3 c3] 24 29
 have hBW := b2 w (.cells #[.string (E C), .string (E K)] 24) (.cells #[.slice a1 n1 c1, .slice a2 n2 c2, .slice a3 n3 c3] 29)
 replace hS := hS.after hBW
 have hnl := cmp_nneg C 2 h2
 have hnl2 := cmp_nneg K 2 h3
 clear hC hK hc h2 h3 hv ho
 obtain ⟨hRc0, hRf0, hRc1, hRf1⟩ := hR.x2
 obtain ⟨hPc0, hPf0, hPc1, hPf1, hPc2, hPf2⟩ := hP.x3
 go_enter Tryz.func26, Tryz.ntmps26
 go_wp2_with fail
 refine (rvalidE_c C _ HC.out).mono ?_
 rintro e w' ⟨rfl, rfl⟩
 go_wp2_with fail
 refine (rvalidE_c K _ HK.out).mono ?_
 rintro e w' ⟨rfl, rfl⟩
 go_wp2_with fail
 refine (HCHK.out _ hBW).mono ?_
 rintro e w2 ⟨rfl, hb2⟩
 clear hRc0 hRf0 hRc1 hRf1
 clear hPc0 hPf0 hPc1 hPf1 hPc2 hPf2
 replace hR := hR.after hb2
 replace hP := hP.after hb2
 replace hS := hS.after hb2
 replace hBW := bt hBW hb2
 clear hb2
 have hRl := hR.lt
 have hPl := hP.lt
 obtain ⟨hRc0, hRf0, hRc1, hRf1⟩ := hR.x2
 go_wp2_with fail
 refine (rorder2_c C _ (szM HC.out)).mono ?_
 rintro e w3 ⟨rfl, hb3⟩
 clear hRc0 hRf0 hRc1 hRf1
 replace hR := hR.after hb3
 replace hP := hP.after hb3
 replace hS := hS.after hb3
 replace hBW := bt hBW hb3
 clear hb3 hRl hPl
 have hRl := hR.lt
 have hPl := hP.lt
 obtain ⟨hRc0, hRf0, hRc1, hRf1⟩ := hR.x2
 go_wp2_with fail
 refine (rorder2_c K _ (szM HK.out)).mono ?_
 rintro e w4 ⟨rfl, hb4⟩
 clear hRc0 hRf0 hRc1 hRf1
 replace hR := hR.after hb4
 replace hP := hP.after hb4
 replace hS := hS.after hb4
 replace hBW := bt hBW hb4
 clear hb4 hRl hPl
 have hRl := hR.lt
 have hPl := hP.lt
 obtain ⟨hPc0, hPf0, hPc1, hPf1, hPc2, hPf2⟩ := hP.x3
 go_wp2_with fail
 refine (rorder16_c N _ _ _ _ HM.out hS).mono ?_
 rintro e wx ⟨rfl, hb5⟩
 clear hPc0 hPf0 hPc1 hPf1 hPc2 hPf2
 replace hR := hR.after hb5
 replace hP := hP.after hb5
 replace hS := hS.after hb5
 replace hBW := bt hBW hb5
 clear hb5 hRl hPl
 have HQD := Lib.hid (ord_lt HM.out)
 obtain ⟨qd, hqd⟩ : ∃ q, q = N.ord := ⟨_, rfl⟩
 rw [← hqd]
 have HQ := Lib.hid hqd
 rw [← hqd] at HQD
 clear hqd
 go_wp2
 go_loopw [9] (fun i wr => ∃ k : Nat, k ≤ n2 ∧ i = .int .i64 k ∧ Hid ((N.vars.take k).any vz = false) ∧ Below wx.heap.size wx wr) (fun i _ => n2 - (intOf i).toNat)
 case atStart => exact ⟨0, by omega, rfl, rfl, Below.refl _ _⟩
 case round =>
  obtain ⟨k, hk, rfl, HA, hbr⟩ := hrel
  obtain ⟨wp, hwp⟩ : ∃ wp, wp = wr := ⟨_, rfl⟩
  subst hwp
  replace hR := hR.after hbr
  replace hP := hP.after hbr
  replace hS := hS.after hbr
  replace hBW := bt hBW hbr
  have hRl := hR.lt
  have hPl := hP.lt
  by_cases hlt : k < n2
  ·have hkl : k < N.vars.length := by rw [← HN2.out]; exact hlt
   obtain ⟨b, o, rfl, hbl, x1⟩ := hS.vat hkl
   have HVM : Hid ((N.vars[k]'hkl) ∈ N.vars) := List.getElem_mem hkl
   have HT := Lib.hid (any_take vz N.vars k hkl)
   generalize (N.vars[k]'hkl) = s1 at x1 HVM HT
   have h0k : (0 : Int) ≤ (k : Int) := by omega
   have h1k : (k : Int) < (n2 : Int) := by omega
   rcases Nat.eq_zero_or_pos s1 with rfl | h0
   ·have hz := zE (n := 0) rfl
    obtain ⟨hPc0, hPf0, hPc1, hPf1, hPc2, hPf2⟩ := hP.x3
    obtain ⟨hRc0, hRf0, hRc1, hRf1⟩ := hR.x2
    have hgt := cmp_pos C qd (by rw [HQ.out]; exact HO.out)
    go_wp2_with fail
    refine (rorder_c C qd _ (szM HC.out) (szM (lt128 HQD.out))).mono ?_
    rintro e w6 ⟨rfl, hb6⟩
    go_wp2
    go_ret3
    exact ⟨rfl, bt hBW hb6⟩
   ·have hz := nzE h0
    have HX : Hid ((N.vars.take (k + 1)).any vz = (N.vars.take k).any vz) := by rw [Hid, HT.out, vz_pos h0, Bool.or_false]
    obtain ⟨hPc0, hPf0, hPc1, hPf1, hPc2, hPf2⟩ := hP.x3
    obtain ⟨hRc0, hRf0, hRc1, hRf1⟩ := hR.x2
    go_wp2
    go_roundw
    case rel => exact ⟨k + 1, by omega, by go_num, by rw [Hid, HX.out]; exact HA.out, hbr⟩
    case measure => simp [intOf]; omega
  ·have hab : N.vars.any vz = false := any_end vz N.vars k (by rw [← HN2.out]; omega) HA.out
   exact absurd (hab.symm.trans HV.out) (by decide)

/-- between two rounds of the second loop of 'Bounds' -/
structure RRel (wF : World) (L : List (Nat × Nat)) (v10 v11 : Value) (wr : World) : Prop where
 a : NOwn wr wF.heap.size v10 (L.map (·.1))
 z : NOwn wr wF.heap.size v11 (L.map (·.2))
 d : ∀ g, v10.ownBlock = some g → v11.ownBlock ≠ some g
 b : Below wF.heap.size wF wr

theorem szk {n k : Nat} (h : n < 256 ^ k) (hk : k ≤ 1000) : (E n).size ≤ 1000 := Nat.le_trans ((E_size_le n k).2 h) hk
theorem sz8 {n : Nat} (h : n < 256 ^ 8) : (E n).size ≤ 1000 := szk h (by decide)

set_option maxHeartbeats 4000000 in
theorem rbounds_ok (N : NSta) (C K : Nat) (v1 v2 v3 : Value) (w : World) (hC : C < 256 ^ 8) (hK : K < 256 ^ 8) (h2 : 2 ≤ C) (h3 : 2 ≤ K) (hv : N.vars.any vz = true → C ≤ N.ord) (hm : NOk N) (hS : NAt w v1 v2 v3 N) (hc : N.chk = 0) :
  Calls Tryz.prog 26 #[.agg #[.string (E C), .string (E K)], .agg #[v1, v2, v3]] w (B2Post w (N.lims C K)) := by
 obtain ⟨i0, hi0, hz00, hz01, hz02⟩ := info_parts info_nat
 have HI0 := Lib.hid hi0
 have HA0 := Lib.hid hz00
 have HB0 := Lib.hid hz01
 have HC0 := Lib.hid hz02
 clear hi0 hz00 hz01 hz02
 have HC := Lib.hid (lt128 hC)
 have HK := Lib.hid (lt128 hK)
 have HC8 := Lib.hid hC
 have HK8 := Lib.hid hK
 have HC1 : Hid (1 ≤ C) := by unfold Hid; omega
 have HK1 : Hid (1 ≤ K) := by unfold Hid; omega
 have HV := Lib.hid hv
 have HCK := Lib.hid hc
 obtain ⟨a1, c1, a2, c2, a3, c3, rfl, rfl, rfl⟩ := hS.forms
 obtain ⟨n1, hn1⟩ : ∃ n, n = N.grps.length := ⟨_, rfl⟩
 obtain ⟨n2, hn2⟩ : ∃ n, n = N.vars.length := ⟨_, rfl⟩
 obtain ⟨n3, hn3⟩ : ∃ n, n = N.eqs.length := ⟨_, rfl⟩
 have HN1 := Lib.hid hn1
 have HN2 := Lib.hid hn2
 have HN3 := Lib.hid hn3
 have l1 : n1 ≤ 10 := by rw [hn1]; exact hm.ng
 have l2 : n2 ≤ 12 := by rw [hn2]; exact hm.nv
 have l3 : n3 ≤ 12 := by rw [hn3]; exact hm.ne
 have HM := Lib.hid hm
 rw [← hn1, ← hn2, ← hn3] at hS ⊢
 clear hm hn1 hn2 hn3
 have HCHK := Lib.hid (rchk0_c N _ _ _ w HM.out hS HCK.out)
 have hR := blk2a w #[.string (E C), .string (E K)] #[.slice a1 n1 c1, .slice a2 n2 c2, .slice a3 n3 c3] 24 29
 have hP := blk2b w #[.string (E C), .string (E K)] #[.slice a1 n1 c1, .slice a2 n2 c2, .slice a3 n3 c3] 24 29
 have hBW := b2 w (.cells #[.string (E C), .string (E K)] 24) (.cells #[.slice a1 n1 c1, .slice a2 n2 c2, .slice a3 n3 c3] 29)
 replace hS := hS.after hBW
 have hnl := cmp_nneg C 2 h2
 have hnl2 := cmp_nneg K 2 h3
 clear hC hK hc h2 h3 hv
 obtain ⟨hRc0, hRf0, hRc1, hRf1⟩ := hR.x2
 obtain ⟨hPc0, hPf0, hPc1, hPf1, hPc2, hPf2⟩ := hP.x3
 go_enter Tryz.func26, Tryz.ntmps26
 go_wp2_with fail
 refine (rvalidE_c C _ HC.out).mono ?_
 rintro e w' ⟨rfl, rfl⟩
 go_wp2_with fail
 refine (rvalidE_c K _ HK.out).mono ?_
 rintro e w' ⟨rfl, rfl⟩
 go_wp2_with fail
 refine (HCHK.out _ hBW).mono ?_
 rintro e w2 ⟨rfl, hb2⟩
 clear hRc0 hRf0 hRc1 hRf1
 clear hPc0 hPf0 hPc1 hPf1 hPc2 hPf2
 replace hR := hR.after hb2
 replace hP := hP.after hb2
 replace hS := hS.after hb2
 replace hBW := bt hBW hb2
 clear hb2
 have hRl := hR.lt
 have hPl := hP.lt
 obtain ⟨hRc0, hRf0, hRc1, hRf1⟩ := hR.x2
 go_wp2_with fail
 refine (rorder2_c C _ (szM HC.out)).mono ?_
 rintro e w3 ⟨rfl, hb3⟩
 clear hRc0 hRf0 hRc1 hRf1
 replace hR := hR.after hb3
 replace hP := hP.after hb3
 replace hS := hS.after hb3
 replace hBW := bt hBW hb3
 clear hb3 hRl hPl
 have hRl := hR.lt
 have hPl := hP.lt
 obtain ⟨hRc0, hRf0, hRc1, hRf1⟩ := hR.x2
 go_wp2_with fail
 refine (rorder2_c K _ (szM HK.out)).mono ?_
 rintro e w4 ⟨rfl, hb4⟩
 clear hRc0 hRf0 hRc1 hRf1
 replace hR := hR.after hb4
 replace hP := hP.after hb4
 replace hS := hS.after hb4
 replace hBW := bt hBW hb4
 clear hb4 hRl hPl
 have hRl := hR.lt
 have hPl := hP.lt
 obtain ⟨hPc0, hPf0, hPc1, hPf1, hPc2, hPf2⟩ := hP.x3
 go_wp2_with fail
 refine (rorder16_c N _ _ _ _ HM.out hS).mono ?_
 rintro e wx ⟨rfl, hb5⟩
 clear hPc0 hPf0 hPc1 hPf1 hPc2 hPf2
 replace hR := hR.after hb5
 replace hP := hP.after hb5
 replace hS := hS.after hb5
 replace hBW := bt hBW hb5
 clear hb5 hRl hPl
 have HQD := Lib.hid (ord_lt HM.out)
 obtain ⟨qd, hqd⟩ : ∃ q, q = N.ord := ⟨_, rfl⟩
 rw [← hqd]
 have HQ := Lib.hid hqd
 rw [← hqd] at HQD
 clear hqd
 go_wp2
 go_loopw [9] (fun i wr => ∃ k : Nat, k ≤ n2 ∧ i = .int .i64 k ∧ Hid (0 ≤ k) ∧ Below wx.heap.size wx wr) (fun i _ => n2 - (intOf i).toNat)
 case atStart => exact ⟨0, by omega, rfl, Nat.zero_le _, Below.refl _ _⟩
 case round =>
  obtain ⟨k, hk, rfl, HA, hbr⟩ := hrel
  obtain ⟨wp, hwp⟩ : ∃ wp, wp = wr := ⟨_, rfl⟩
  subst hwp
  replace hR := hR.after hbr
  replace hP := hP.after hbr
  replace hS := hS.after hbr
  replace hBW := bt hBW hbr
  have hRl := hR.lt
  have hPl := hP.lt
  by_cases hlt : k < n2
  ·have hkl : k < N.vars.length := by rw [← HN2.out]; exact hlt
   obtain ⟨b, o, rfl, hbl, x1⟩ := hS.vat hkl
   have HVM : Hid ((N.vars[k]'hkl) ∈ N.vars) := List.getElem_mem hkl
   have HT := Lib.hid (any_take vz N.vars k hkl)
   generalize (N.vars[k]'hkl) = s1 at x1 HVM HT
   have h0k : (0 : Int) ≤ (k : Int) := by omega
   have h1k : (k : Int) < (n2 : Int) := by omega
   rcases Nat.eq_zero_or_pos s1 with rfl | h0
   ·have hz := zE (n := 0) rfl
    obtain ⟨hPc0, hPf0, hPc1, hPf1, hPc2, hPf2⟩ := hP.x3
    obtain ⟨hRc0, hRf0, hRc1, hRf1⟩ := hR.x2
    have hgt := cmp_npos C qd (by rw [HQ.out]; exact HV.out (List.any_eq_true.2 ⟨_, HVM.out, rfl⟩))
    go_wp2_with fail
    refine (rorder_c C qd _ (szM HC.out) (szM (lt128 HQD.out))).mono ?_
    rintro e w6 ⟨rfl, hb6⟩
    go_wp2
    go_roundw
    case rel => exact ⟨k + 1, by omega, by go_num, Nat.zero_le _, bt hbr hb6⟩
    case measure => simp [intOf]; omega
   ·have hz := nzE h0
    have HX : Hid ((N.vars.take (k + 1)).any vz = (N.vars.take k).any vz) := by rw [Hid, HT.out, vz_pos h0, Bool.or_false]
    obtain ⟨hPc0, hPf0, hPc1, hPf1, hPc2, hPf2⟩ := hP.x3
    obtain ⟨hRc0, hRf0, hRc1, hRf1⟩ := hR.x2
    go_wp2
    go_roundw
    case rel => exact ⟨k + 1, by omega, by go_num, Nat.zero_le _, hbr⟩
    case measure => simp [intOf]; omega
  ·clear hbr HA
   obtain ⟨hPc0, hPf0, hPc1, hPf1, hPc2, hPf2⟩ := hP.x3
   obtain ⟨hRc0, hRf0, hRc1, hRf1⟩ := hR.x2
   go_wp2
   clear hPc0 hPf0 hPc1 hPf1 hPc2 hPf2
   clear hRc0 hRf0 hRc1 hRf1
   clear hRl hPl
   obtain ⟨wF, hwF⟩ : ∃ wF, wF = wp := ⟨_, rfl⟩
   rw [← hwF] at hR hP hS hBW ⊢
   clear hwF
   go_loopw [10, 11, 12] (fun v10 v11 i wr => ∃ k : Nat, k ≤ n2 ∧ i = .int .i64 k ∧ RRel wF ((N.lims C K).take k) v10 v11 wr) (fun _ _ i _ => n2 - (intOf i).toNat)
   case atStart => exact ⟨0, by omega, rfl, ⟨World.ownsRow_nil _ _ _ _, World.ownsRow_nil _ _ _ _, fun g h => by simp [Value.ownBlock] at h, Below.refl _ _⟩⟩
   case round =>
    clear hlt hk
    obtain ⟨k, hk, rfl, hI⟩ := hrel
    obtain ⟨wq, hwq⟩ : ∃ wq, wq = wr := ⟨_, rfl⟩
    subst hwq
    have hbr := hI.b
    have hS1 := hS.after hbr
    have hP1 := hP.after hbr
    have hR1 := hR.after hbr
    have hBW1 := bt hBW hbr
    have hPl := hP1.lt
    have hRl := hR1.lt
    by_cases hlt : k < n2
    ·have hkl : k < N.vars.length := by rw [← HN2.out]; exact hlt
     have HBZ := Lib.hid (HM.out.v _ (List.getElem_mem hkl))
     have HST := Lib.hid (lims_step N C K k hkl)
     obtain ⟨b0, o0, rfl, hbl, x1⟩ := hS1.vat hkl
     generalize (N.vars[k]'hkl) = b at x1 HBZ HST
     have h0k : (0 : Int) ≤ (k : Int) := by omega
     have h1k : (k : Int) < (n2 : Int) := by omega
     obtain ⟨l1', hl1⟩ : ∃ x, x = (lim N.ord C K b).1 := ⟨_, rfl⟩
     obtain ⟨l2', hl2⟩ : ∃ x, x = (lim N.ord C K b).2 := ⟨_, rfl⟩
     have HST1 : Hid (((N.lims C K).take (k + 1)).map (·.1) = ((N.lims C K).take k).map (·.1) ++ [l1']) := by rw [Hid, HST.out, List.map_append, hl1]; rfl
     have HST2 : Hid (((N.lims C K).take (k + 1)).map (·.2) = ((N.lims C K).take k).map (·.2) ++ [l2']) := by rw [Hid, HST.out, List.map_append, hl2]; rfl
     have HL1 := Lib.hid hl1
     have HL2 := Lib.hid hl2
     clear hl1 hl2 HST
     have hla : (((N.lims C K).take k).map (·.1)).length = k := by rw [List.length_map, List.length_take, NSta.lims, List.length_map]; omega
     have hlb : (((N.lims C K).take k).map (·.2)).length = k := by rw [List.length_map, List.length_take, NSta.lims, List.length_map]; omega
     have hOA0 : wq.ownsRow wF.heap.size 22 1 u10 k (strs (((N.lims C K).take k).map (·.1))) := by have h : wq.ownsRow _ _ _ _ _ _ := hI.a; rw [hla] at h; exact h
     have hOB0 : wq.ownsRow wF.heap.size 22 1 u11 k (strs (((N.lims C K).take k).map (·.2))) := by have h : wq.ownsRow _ _ _ _ _ _ := hI.z; rw [hlb] at h; exact h
     have HDJ := Lib.hid hI.d
     have HLA := Lib.hid hla
     have HLB := Lib.hid hlb
     clear hI hla hlb
     generalize ((N.lims C K).take k).map (·.1) = LA at hOA0 HST1 HLA
     generalize ((N.lims C K).take k).map (·.2) = LB at hOB0 HST2 HLB
     have hszq := hbr.size
     rcases Nat.eq_zero_or_pos b with rfl | h0
     ·have hz := zE (n := 0) rfl
      have HE1 : Hid (l1' = qd) := by rw [Hid, HL1.out, HQ.out]; rfl
      have HE2 : Hid (l2' = qd) := by rw [Hid, HL2.out, HQ.out]; rfl
      rw [HE1.out] at HST1
      rw [HE2.out] at HST2
      obtain ⟨hP1c0, hP1f0, hP1c1, hP1f1, hP1c2, hP1f2⟩ := hP1.x3
      obtain ⟨hR1c0, hR1f0, hR1c1, hR1f1⟩ := hR1.x2
      go_wp2_with (first | (at_builtin; refine wpList_append_lies _ rfl (.tmp 79) (.tmp 81) _ rfl wF.heap.size 22 i0 _ 1 16 Tryz.underlying31 HI0.out HA0.out HB0.out HC0.out rfl (by omega) u10 k (strs LA) rfl (own_after hOA0 (b1 _ (.cells #[.string (E qd)] 22))) ⟨wq.heap.size, 0, none⟩ 1 1 [.string (E qd)] rfl rfl (Blk.new wq #[.string (E qd)] 22).cells (by simp [Value.oneCell']) (by omega) (by simp only [maxLen]; omega) (by omega) (by rw [World.size_alloc]; omega) (wq.heap.size + 1) (by simp) ?_; intro ga ca wa hownA hgrowA hatA hltA; have hOBa : wa.ownsRow wF.heap.size 22 1 u11 k (strs LB) := own_keep (own_after hOB0 (b1 _ (.cells #[.string (E qd)] 22))) (fun g hv => hgrowA.block g (Nat.lt_of_lt_of_le (own_lt hOB0 hv).1 (b1 wq _).size) (fun e => HDJ.out g e.symm hv)); have hBa : Below wF.heap.size wF wa := Below.grown (ba hbr (.cells #[.string (E qd)] 22)) hgrowA (by rw [World.size_alloc]; omega) (fun g hg => (own_lt hOA0 hg).2); have hsa := hBa.size; have HDA : Hid (∀ g, u11.ownBlock = some g → g ≠ ga) := (fun g hg e => by subst e; rcases hatA with h | h; exact HDJ.out _ h hg; exact absurd (own_lt hOB0 hg).1 (by omega)); clear hatA hltA hgrowA) | (at_builtin; refine wpList_append_lies _ rfl (.tmp 83) (.tmp 85) _ rfl wF.heap.size 22 i0 _ 1 16 Tryz.underlying31 HI0.out HA0.out HB0.out HC0.out rfl (by omega) u11 k (strs LB) rfl (own_after hOBa (b1 _ (.cells #[.string (E qd)] 22))) ⟨wa.heap.size, 0, none⟩ 1 1 [.string (E qd)] rfl rfl (Blk.new wa #[.string (E qd)] 22).cells (by simp [Value.oneCell']) (by omega) (by simp only [maxLen]; omega) (by omega) (by rw [World.size_alloc]; omega) (wa.heap.size + 1) (by simp) ?_; intro gb cb wb hownB hgrowB hatB hltB))
      clear hP1c0 hP1f0 hP1c1 hP1f1 hP1c2 hP1f2
      clear hR1c0 hR1f0 hR1c1 hR1f1
      have hAb : wb.ownsRow wF.heap.size 22 1 (.slice (some ⟨ga, 0, none⟩) (k + 1) ca) (k + 1) (strs LA ++ [.string (E qd)]) := own_keep (own_after hownA (b1 _ (.cells #[.string (E qd)] 22))) (fun g hv => hgrowB.block g (Nat.lt_of_lt_of_le (own_lt hownA hv).1 (b1 _ _).size) (fun e => by have e1 : ga = g := (by simpa [Value.ownBlock] using hv); exact HDA.out g e.symm e1.symm))
      have hBb : Below wF.heap.size wF wb := Below.grown (ba hBa (.cells #[.string (E qd)] 22)) hgrowB (by rw [World.size_alloc]; omega) (fun g hg => (own_lt hOBa hg).2)
      have HDB : Hid (∀ g, (Value.slice (some ⟨ga, 0, none⟩) (k + 1) ca).ownBlock = some g → (Value.slice (some ⟨gb, 0, none⟩) (k + 1) cb).ownBlock ≠ some g) := by
       intro g h1 h2
       have e1 : ga = g := by simpa [Value.ownBlock] using h1
       have e2 : gb = g := by simpa [Value.ownBlock] using h2
       have hlA := (own_lt hownA h1).1
       rcases hatB with h | h
       ·exact HDA.out gb h (e2.trans e1.symm)
       ·omega
      clear hatB hltB hgrowB
      have hRA : NOwn wb wF.heap.size (.slice (some ⟨ga, 0, none⟩) (k + 1) ca) (LA ++ [qd]) := by rw [NOwn, List.length_append, HLA.out, ← strs_app]; exact hAb
      have hRB : NOwn wb wF.heap.size (.slice (some ⟨gb, 0, none⟩) (k + 1) cb) (LB ++ [qd]) := by rw [NOwn, List.length_append, HLB.out, ← strs_app]; exact hownB
      rw [show LA ++ [qd] = ((N.lims C K).take (k + 1)).map (·.1) by rw [HST1.out]] at hRA
      rw [show LB ++ [qd] = ((N.lims C K).take (k + 1)).map (·.2) by rw [HST2.out]] at hRB
      clear hAb hownB hownA
      go_wp2
      go_roundw
      case rel => exact ⟨k + 1, by omega, by go_num, ⟨hRA, hRB, HDB.out, hBb⟩⟩
      case measure => simp [intOf]; omega
     ·have hz := nzE h0
      have HE1 : Hid (l1' = K * C * b) := by rw [Hid, HL1.out, lim, if_neg (by omega)]
      have HE2 : Hid (l2' = K * C * b - (C - 1) * (b - 1)) := by rw [Hid, HL2.out, lim, if_neg (by omega)]
      have H3 := Lib.hid (lt_mul3 HC8.out HK8.out HBZ.out)
      have HCB := Lib.hid (mul_cb (C := C) (b := b) HK1.out)
      have HB0' : Hid (1 ≤ b) := h0
      clear h0
      obtain ⟨m1, hm1⟩ : ∃ m, m = K * C := ⟨_, rfl⟩
      rw [← hm1] at H3 HCB HE1 HE2
      obtain ⟨m2, hm2⟩ : ∃ m, m = m1 * b := ⟨_, rfl⟩
      rw [← hm2] at H3 HCB HE1 HE2
      obtain ⟨e1, he1⟩ : ∃ m, m = (C - 1) * (b - 1) := ⟨_, rfl⟩
      rw [← he1] at HCB HE2
      have HT1 : Hid (∀ w, Calls Tryz.prog 60 #[.string (E K), .string (E C)] w fun e w' => e = .returned (.string (E m1)) ∧ Below w.heap.size w w') := fun w => by rw [hm1]; exact rtimes_c K C w (sz8 HK8.out) (sz8 HC8.out)
      have HT2 : Hid (∀ w, Calls Tryz.prog 60 #[.string (E m1), .string (E b)] w fun e w' => e = .returned (.string (E m2)) ∧ Below w.heap.size w w') := fun w => by rw [hm2]; exact rtimes_c m1 b w (szk H3.out.1 (by decide)) (szk HBZ.out (by decide))
      have HT3 : Hid (∀ w, Calls Tryz.prog 60 #[.string (E (C - 1)), .string (E (b - 1))] w fun e w' => e = .returned (.string (E e1)) ∧ Below w.heap.size w w') := fun w => by rw [he1]; exact rtimes_c (C - 1) (b - 1) w (szk (Nat.lt_of_le_of_lt (Nat.sub_le _ _) HC8.out) (by decide)) (szk (Nat.lt_of_le_of_lt (Nat.sub_le _ _) HBZ.out) (by decide))
      have HM2 : Hid (m2 < 256 ^ 128) := lt128' H3.out.2 (by decide)
      clear hm1 hm2 he1
      generalize hc1 : C - 1 = c1 at HT3
      generalize hd1 : b - 1 = d1 at HT3
      have HN1' : Hid (∀ w, Calls Tryz.prog 48 #[.string (E C), .string { data := #[1] }] w fun e w' => e = .returned (.string (E c1)) ∧ Below w.heap.size w w') := fun w => by rw [← hc1]; exact rminus1_c C w (szM HC.out) HC1.out
      have HN2' : Hid (∀ w, Calls Tryz.prog 48 #[.string (E b), .string { data := #[1] }] w fun e w' => e = .returned (.string (E d1)) ∧ Below w.heap.size w w') := fun w => by rw [← hd1]; exact rminus1_c b w (szM (lt128' HBZ.out (by decide))) HB0'.out
      have HN3' : Hid (∀ w, Calls Tryz.prog 48 #[.string (E m2), .string (E e1)] w fun e w' => e = .returned (.string (E (m2 - e1))) ∧ Below w.heap.size w w') := fun w => rminus_c m2 e1 w (szM HM2.out) HCB.out
      generalize hdf : m2 - e1 = df at HN3' HE2
      have HDF := Lib.hid hdf
      clear hc1 hd1 hdf
      rw [HE1.out] at HST1
      rw [HE2.out] at HST2
      clear HE1 HE2 HL1 HL2 HCB H3
      obtain ⟨hP1c0, hP1f0, hP1c1, hP1f1, hP1c2, hP1f2⟩ := hP1.x3
      obtain ⟨hR1c0, hR1f0, hR1c1, hR1f1⟩ := hR1.x2
      go_wp2_with fail
      refine (HT1.out _).mono ?_
      rintro e y1 ⟨rfl, hy1⟩
      go_wp2_with fail
      refine (HT2.out _).mono ?_
      rintro e y2 ⟨rfl, hy2⟩
      clear hP1c0 hP1f0 hP1c1 hP1f1 hP1c2 hP1f2
      clear hR1c0 hR1f0 hR1c1 hR1f1
      have hbe := bt hy1 hy2
      replace hR1 := hR1.after hbe
      replace hP1 := hP1.after hbe
      replace hbr := bt hbr hbe
      replace hOA0 := own_after hOA0 hbe
      replace hOB0 := own_after hOB0 hbe
      replace hBW1 := bt hBW1 hbe
      clear hy1 hy2 hbe hRl hPl x1 hbl hS1
      have hRl := hR1.lt
      obtain ⟨hR1c0, hR1f0, hR1c1, hR1f1⟩ := hR1.x2
      go_wp2_with fail
      refine (HN1'.out _).mono ?_
      rintro e y3 ⟨rfl, hy3⟩
      go_wp2_with fail
      refine (HN2'.out _).mono ?_
      rintro e y4 ⟨rfl, hy4⟩
      go_wp2_with fail
      refine (HT3.out _).mono ?_
      rintro e y5 ⟨rfl, hy5⟩
      go_wp2_with fail
      refine (rvalidV_c (E m2) true _ (by have := szM HM2.out; omega) (vldB_E m2 HM2.out)).mono ?_
      rintro e w' ⟨rfl, rfl⟩
      clear hR1c0 hR1f0 hR1c1 hR1f1
      have hbe := bt (bt hy3 hy4) hy5
      replace hbr := bt hbr hbe
      replace hOA0 := own_after hOA0 hbe
      replace hOB0 := own_after hOB0 hbe
      replace hBW1 := bt hBW1 hbe
      replace hszq := hbr.size
      clear hy3 hy4 hy5 hbe hRl hR1 hP1 HT1 HT2 HT3 HN1' HN2'
      obtain ⟨wq, hwq⟩ : ∃ wq, wq = y5 := ⟨_, rfl⟩
      subst hwq
      go_wp2_with (at_builtin; refine wpList_append_lies _ rfl (.tmp 103) (.tmp 105) _ rfl wF.heap.size 22 i0 _ 1 16 Tryz.underlying31 HI0.out HA0.out HB0.out HC0.out rfl (by omega) u10 k (strs LA) rfl (own_after hOA0 (b1 _ (.cells #[.string (E m2)] 22))) ⟨wq.heap.size, 0, none⟩ 1 1 [.string (E m2)] rfl rfl (Blk.new wq #[.string (E m2)] 22).cells (by simp [Value.oneCell']) (by omega) (by simp only [maxLen]; omega) (by omega) (by rw [World.size_alloc]; omega) (wq.heap.size + 1) (by simp) ?_; intro ga ca wa hownA hgrowA hatA hltA; have hOBa : wa.ownsRow wF.heap.size 22 1 u11 k (strs LB) := own_keep (own_after hOB0 (b1 _ (.cells #[.string (E m2)] 22))) (fun g hv => hgrowA.block g (Nat.lt_of_lt_of_le (own_lt hOB0 hv).1 (b1 wq _).size) (fun e => HDJ.out g e.symm hv)); have hBa : Below wF.heap.size wF wa := Below.grown (ba hbr (.cells #[.string (E m2)] 22)) hgrowA (by rw [World.size_alloc]; omega) (fun g hg => (own_lt hOA0 hg).2); have hsa := hBa.size; have HDA : Hid (∀ g, u11.ownBlock = some g → g ≠ ga) := (fun g hg e => by subst e; rcases hatA with h | h; exact HDJ.out _ h hg; exact absurd (own_lt hOB0 hg).1 (by omega)); clear hatA hltA hgrowA)
      refine (HN3'.out _).mono ?_
      rintro e wm ⟨rfl, hym⟩
      have hAm := own_after hownA hym
      have hOBm := own_after hOBa hym
      have hBm := bt hBa hym
      have hsm := hBm.size
      clear hym
      go_wp2_with (at_builtin; refine wpList_append_lies _ rfl (.tmp 107) (.tmp 111) _ rfl wF.heap.size 22 i0 _ 1 16 Tryz.underlying31 HI0.out HA0.out HB0.out HC0.out rfl (by omega) u11 k (strs LB) rfl (own_after hOBm (b1 _ (.cells #[.string (E df)] 22))) ⟨wm.heap.size, 0, none⟩ 1 1 [.string (E df)] rfl rfl (Blk.new wm #[.string (E df)] 22).cells (by simp [Value.oneCell']) (by omega) (by simp only [maxLen]; omega) (by omega) (by rw [World.size_alloc]; omega) (wm.heap.size + 1) (by simp) ?_; intro gb cb wb hownB hgrowB hatB hltB)
      have hAb : wb.ownsRow wF.heap.size 22 1 (.slice (some ⟨ga, 0, none⟩) (k + 1) ca) (k + 1) (strs LA ++ [.string (E m2)]) := own_keep (own_after hAm (b1 _ (.cells #[.string (E df)] 22))) (fun g hv => hgrowB.block g (Nat.lt_of_lt_of_le (own_lt hAm hv).1 (b1 _ _).size) (fun e => by have e1 : ga = g := (by simpa [Value.ownBlock] using hv); exact HDA.out g e.symm e1.symm))
      have hBb : Below wF.heap.size wF wb := Below.grown (ba hBm (.cells #[.string (E df)] 22)) hgrowB (by rw [World.size_alloc]; omega) (fun g hg => (own_lt hOBm hg).2)
      have HDB : Hid (∀ g, (Value.slice (some ⟨ga, 0, none⟩) (k + 1) ca).ownBlock = some g → (Value.slice (some ⟨gb, 0, none⟩) (k + 1) cb).ownBlock ≠ some g) := by
       intro g h1 h2
       have e1 : ga = g := by simpa [Value.ownBlock] using h1
       have e2 : gb = g := by simpa [Value.ownBlock] using h2
       have hlA := (own_lt hAm h1).1
       rcases hatB with h | h
       ·exact HDA.out gb h (e2.trans e1.symm)
       ·omega
      clear hatB hltB hgrowB
      have hRA : NOwn wb wF.heap.size (.slice (some ⟨ga, 0, none⟩) (k + 1) ca) (LA ++ [m2]) := by rw [NOwn, List.length_append, HLA.out, ← strs_app]; exact hAb
      have hRB : NOwn wb wF.heap.size (.slice (some ⟨gb, 0, none⟩) (k + 1) cb) (LB ++ [df]) := by rw [NOwn, List.length_append, HLB.out, ← strs_app]; exact hownB
      rw [show LA ++ [m2] = ((N.lims C K).take (k + 1)).map (·.1) by rw [HST1.out]] at hRA
      rw [show LB ++ [df] = ((N.lims C K).take (k + 1)).map (·.2) by rw [HST2.out]] at hRB
      clear hAb hownB hownA
      go_wp2
      go_roundw
      case rel => exact ⟨k + 1, by omega, by go_num, ⟨hRA, hRB, HDB.out, hBb⟩⟩
      case measure => simp [intOf]; omega
    ·have HTK : Hid ((N.lims C K).take k = N.lims C K) := List.take_of_length_le (by rw [NSta.lims, List.length_map, ← HN2.out]; omega)
     have ha := hI.a
     have hz' := hI.z
     rw [HTK.out] at ha hz'
     have hs1 := hBW.size
     obtain ⟨hP1c0, hP1f0, hP1c1, hP1f1, hP1c2, hP1f2⟩ := hP1.x3
     go_wp2
     go_ret3
     exact ⟨_, _, rfl, own_mono ha hs1, own_mono hz' hs1, hBW1⟩

end Go.Proofs.YtehoiholhkfcpaaGreat
end
