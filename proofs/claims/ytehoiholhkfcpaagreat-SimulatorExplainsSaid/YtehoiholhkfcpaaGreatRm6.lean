import Derived.Test.YtehoiholhkfcpaaGreatSm4
import Derived.Test.YtehoiholhkfcpaaGreatRm4
import Derived.Test.YtehoiholhkfcpaaGreatLck6
section
set_option linter.unusedVariables false
set_option linter.unusedSimpArgs false
set_option maxRecDepth 100000
namespace Go.Proofs.YtehoiholhkfcpaaGreat
open Go.RowKit Go.Shelf

set_option maxHeartbeats 1600000 in
theorem ready6_c (N : NSta) (Z : List Int) (v1 v2 v3 v4 : Value) (w : World) (hm : NOk N) (hS : NAt w v1 v2 v3 N) (hZ : ZsAt w v4 Z) (hz : ∀ z ∈ Z, z.natAbs < 256 ^ 128) (hl : Z.length ≠ N.vars.length) (hl2 : Z.length ≤ 1000) (hc : N.chk = 0) :
  Calls Tryz.prog 70 #[.agg #[v1, v2, v3], v4] w fun e w' => e = .returned (.int .i64 6) ∧ Below w.heap.size w w' := by
 obtain ⟨a4, c4, rfl⟩ := hZ.form
 obtain ⟨nz, hnz⟩ : ∃ n, n = Z.length := ⟨_, rfl⟩
 have HNZ := Lib.hid hnz
 rw [← hnz] at hl2 hl hZ ⊢
 have HZZ := Lib.hid hz
 have HCK := Lib.hid hc
 clear hz hc hnz
 obtain ⟨a1, c1, a2, c2, a3, c3, rfl, rfl, rfl⟩ := hS.forms
 obtain ⟨n1, hn1⟩ : ∃ n, n = N.grps.length := ⟨_, rfl⟩
 obtain ⟨n2, hn2⟩ : ∃ n, n = N.vars.length := ⟨_, rfl⟩
 obtain ⟨n3, hn3⟩ : ∃ n, n = N.eqs.length := ⟨_, rfl⟩
 have HN1 := Lib.hid hn1
 have HN2 := Lib.hid hn2
 have HN3 := Lib.hid hn3
 have l1 : n1 ≤ 10 := by rw [hn1]; exact hm.ng
 have l2 : n2 ≤ 12 := by rw [hn2]; exact hm.nv
 have l3 : n3 ≤ 12 := by rw [hn3]; exact hm.ne
 have HM := Lib.hid hm
 rw [← hn2] at hl
 have hl3 : ¬ (nz : Int) = (n2 : Int) := by omega
 rw [← hn1, ← hn2, ← hn3] at hS ⊢
 clear hm hn1 hn2 hn3 hl
 have hP := Blk.new w #[.slice a1 n1 c1, .slice a2 n2 c2, .slice a3 n3 c3] 29
 have hBW := b1 w (.cells #[.slice a1 n1 c1, .slice a2 n2 c2, .slice a3 n3 c3] 29)
 replace hS := hS.after hBW
 replace hZ := hZ.after (b1 w (.cells #[.slice a1 n1 c1, .slice a2 n2 c2, .slice a3 n3 c3] 29))
 obtain ⟨hPc0, hPf0, hPc1, hPf1, hPc2, hPf2⟩ := hP.x3
 go_enter Tryz.func70, Tryz.ntmps70
 go_wp2_with fail
 refine (form0_c N _ _ _ _ HM.out hS).mono ?_
 rintro e w2 ⟨rfl, hb2⟩
 clear hPc0 hPf0 hPc1 hPf1 hPc2 hPf2
 replace hP := hP.after hb2
 replace hS := hS.after hb2
 replace hZ := hZ.after hb2
 replace hBW := bt hBW hb2
 clear hb2
 have hPl := hP.lt
 have HCI : Hid (Calls Tryz.prog 51 #[.slice a4 nz c4, .func (.func 124) #[] #[]] w2 fun e w'' => e = .returned (.bool false) ∧ Below w2.heap.size w2 w'') := by
  refine cont_rdi (Z.map zI) (fun _ => false) _ _ w2 (by rw [List.length_map, ← HNZ.out]; exact hl2) hZ (any_false _) ?_
  intro k hk w5 hb5
  have hk' : k < Z.length := by simpa using hk
  simp only [List.getElem_map, zI]
  exact rdi1_c _ _ (HZZ.out _ (List.getElem_mem hk'))
 obtain ⟨hPc0, hPf0, hPc1, hPf1, hPc2, hPf2⟩ := hP.x3
 go_wp2_with fail
 refine HCI.out.mono ?_
 rintro e w3 ⟨rfl, hb3⟩
 clear hPc0 hPf0 hPc1 hPf1 hPc2 hPf2
 clear HCI
 replace hP := hP.after hb3
 replace hS := hS.after hb3
 replace hBW := bt hBW hb3
 clear hb3 hPl
 have hPl := hP.lt
 have HCC : Hid (Calls Tryz.prog 98 #[.agg #[.slice a1 n1 c1, .slice a2 n2 c2, .slice a3 n3 c3]] w3 fun e w' => e = .returned (.int .i64 0) ∧ Below w3.heap.size w3 w') := by
  have h := check_c N _ _ _ w3 HM.out hS
  rw [HCK.out] at h
  exact h
 obtain ⟨hPc0, hPf0, hPc1, hPf1, hPc2, hPf2⟩ := hP.x3
 go_wp2_with fail
 refine HCC.out.mono ?_
 rintro e w4 ⟨rfl, hb4⟩
 clear hPc0 hPf0 hPc1 hPf1 hPc2 hPf2
 replace hP := hP.after hb4
 have hPl2 := hP.lt
 obtain ⟨hPc0, hPf0, hPc1, hPf1, hPc2, hPf2⟩ := hP.x3
 go_wp2
 go_ret
 exact ⟨rfl, bt hBW hb4⟩


/-- a witness is in range -/
def inJ (N : NSta) (Z : List Int) (j : Nat) : Bool := blw (N.vars.getD j 0) (Z.getD j 0) (if N.vars.getD j 0 = 0 then N.ord else N.vars.getD j 0)
theorem inJ_at (N : NSta) (Z : List Int) (j : Nat) (h : j < N.vars.length) (h2 : j < Z.length) : inJ N Z j = blw N.vars[j] Z[j] (if N.vars[j] = 0 then N.ord else N.vars[j]) := by
 unfold inJ; simp only [List.getD_eq_getElem?_getD, List.getElem?_eq_getElem h, List.getElem?_eq_getElem h2, Option.getD_some]

set_option maxHeartbeats 4000000 in
theorem inRange_c (N : NSta) (Z : List Int) (v1 v2 v3 v4 : Value) (w : World) (hm : NOk N) (hS : NAt w v1 v2 v3 N) (hZ : ZsAt w v4 Z) (hz : ∀ z ∈ Z, z.natAbs < 256 ^ 64) (hl : Z.length = N.vars.length) :
  Calls Tryz.prog 71 #[.agg #[v1, v2, v3], v4] w fun e w' => e = .returned (.bool (ra N.vars.length (inJ N Z))) ∧ Below w.heap.size w w' := by
 obtain ⟨r, hr⟩ : ∃ r : Bool, r = ra N.vars.length (inJ N Z) := ⟨_, rfl⟩
 have HRES := Lib.hid hr
 rw [← hr]
 clear hr
 have HOR : Hid (∀ w', Below w.heap.size w w' → Calls Tryz.prog 125 #[.agg #[v1, v2, v3]] w' fun e w'' => e = .returned (.string (E N.ord)) ∧ Below w'.heap.size w' w'') := fun w' hb => order_c N v1 v2 v3 w' hm (hS.after hb)
 have HQ := Lib.hid (ord_lt hm)
 have HVS := Lib.hid hm.v
 have HZZ := Lib.hid hz
 obtain ⟨qo, hqo⟩ : ∃ q, q = N.ord := ⟨_, rfl⟩
 have HQO := Lib.hid hqo
 rw [← hqo] at HOR HQ
 obtain ⟨a4, c4, rfl⟩ := hZ.form
 rw [hl] at hZ ⊢
 have HL := Lib.hid hl
 obtain ⟨a1, c1, a2, c2, a3, c3, rfl, rfl, rfl⟩ := hS.forms
 obtain ⟨n1, hn1⟩ : ∃ n, n = N.grps.length := ⟨_, rfl⟩
 obtain ⟨n2, hn2⟩ : ∃ n, n = N.vars.length := ⟨_, rfl⟩
 obtain ⟨n3, hn3⟩ : ∃ n, n = N.eqs.length := ⟨_, rfl⟩
 have HN2 := Lib.hid hn2
 have l2 : n2 ≤ 12 := by rw [hn2]; exact hm.nv
 rw [← hn1, ← hn2, ← hn3] at hS HOR ⊢
 rw [← hn2] at hZ
 clear hm hn1 hn2 hn3 hz hl hqo
 have hP := Blk.new w #[.slice a1 n1 c1, .slice a2 n2 c2, .slice a3 n3 c3] 29
 have hBW := b1 w (.cells #[.slice a1 n1 c1, .slice a2 n2 c2, .slice a3 n3 c3] 29)
 replace hS := hS.after hBW
 replace hZ := hZ.after hBW
 obtain ⟨hPc0, hPf0, hPc1, hPf1, hPc2, hPf2⟩ := hP.x3
 go_enter Tryz.func71, Tryz.ntmps71
 go_wp2
 clear hPc0 hPf0 hPc1 hPf1 hPc2 hPf2
 generalize hw1 : w.alloc (.cells #[.slice a1 n1 c1, .slice a2 n2 c2, .slice a3 n3 c3] 29) = w1 at hP hBW hS hZ
 replace hP : Blk w1 w.heap.size 29 [.slice a1 n1 c1, .slice a2 n2 c2, .slice a3 n3 c3] := hP
 clear hw1
 go_loopw [11] (fun i wr => ∃ k : Nat, k ≤ n2 ∧ i = .int .i64 k ∧ Hid (ra k (inJ N Z) = true) ∧ Below w1.heap.size w1 wr) (fun i _ => n2 - (intOf i).toNat)
 case atStart => exact ⟨0, by omega, rfl, rfl, Below.refl _ _⟩
 case round =>
  obtain ⟨k, hk, rfl, HAL, hbr⟩ := hrel
  obtain ⟨wp, hwp⟩ : ∃ wp, wp = wr := ⟨_, rfl⟩
  subst hwp
  have hBW1 := bt hBW hbr
  have hP1 := hP.after hbr
  by_cases hlt : k < n2
  ·have hkl : k < N.vars.length := by rw [← HN2.out]; exact hlt
   have hkZ : k < Z.length := by rw [HL.out]; exact hkl
   obtain ⟨bv, ov, rfl, hbv, x1⟩ := (hS.after hbr).vat hkl
   obtain ⟨bz, oz, rfl, hbz, z1, z2⟩ := (hZ.after hbr).at_ hkZ
   have HZL := Lib.hid (HZZ.out _ (List.getElem_mem hkZ))
   have HVL := Lib.hid (HVS.out _ (List.getElem_mem hkl))
   have HIJ := Lib.hid (inJ_at N Z k hkl hkZ)
   rw [← HQO.out] at HIJ
   have HRS : Hid (ra (k + 1) (inJ N Z) = inJ N Z k) := by rw [Hid, ra_succ, HAL.out]; rfl
   have HRB : Hid (inJ N Z k = false → ra N.vars.length (inJ N Z) = false) := fun h => ra_false hkl h
   generalize (N.vars[k]'hkl) = vb at x1 HIJ HVL
   generalize (Z[k]'hkZ) = lz at z1 z2 HIJ HZL
   generalize inJ N Z k = bl at HIJ HRS HRB
   have h0k : (0 : Int) ≤ (k : Int) := by omega
   have h1k : (k : Int) < (n2 : Int) := by omega
   have hV := Blk.new wp #[.string (E vb)] 64
   have hbV := b1 wp (.cells #[.string (E vb)] 64)
   have zz1 := (hbV.cell (p := ⟨bz, oz + k * 2, none⟩) hbz).trans z1
   have zz2 := (hbV.cell (p := ⟨bz, oz + k * 2 + 1, none⟩) hbz).trans z2
   have hPV := hP1.after hbV
   have hbz2 := Nat.lt_of_lt_of_le hbz hbV.size
   by_cases hv0 : vb = 0
   ·have hzv := zE hv0
    have HIK : Hid (bl = blw 0 lz qo) := by rw [Hid, HIJ.out, if_pos hv0, hv0]
    clear hv0 HIJ
    obtain ⟨hVc0, hVf0⟩ := hV.x1
    obtain ⟨hPVc0, hPVf0, hPVc1, hPVf1, hPVc2, hPVf2⟩ := hPV.x3
    go_wp2_with fail
    refine (HOR.out _ (bt hBW1 hbV)).mono ?_
    rintro e w2 ⟨rfl, hb2⟩
    clear hVc0 hVf0
    clear hPVc0 hPVf0 hPVc1 hPVf1 hPVc2 hPVf2
    have hbe := bt (bt hbr hbV) hb2
    have q1 := (hb2.cell (p := ⟨bz, oz + k * 2, none⟩) hbz2).trans zz1
    have q2 := (hb2.cell (p := ⟨bz, oz + k * 2 + 1, none⟩) hbz2).trans zz2
    have hbz3 := Nat.lt_of_lt_of_le hbz2 hb2.size
    clear x1 z1 z2 zz1 zz2 hV hPV hbV hb2 hP1 hbv hbz hbz2
    obtain ⟨s, hs⟩ : ∃ s, s = sg lz := ⟨_, rfl⟩
    have HS := Lib.hid hs
    rw [← hs] at q1
    clear hs
    cases s
    ·have HCM : Hid (∀ w, Calls Tryz.prog 23 #[.string (E lz.natAbs), .string (E qo)] w fun e w' => e = .returned (.int .i64 (cmpN lz.natAbs qo)) ∧ w = w') := fun w => cmp_c _ _ w (lt64 HZL.out) (lt128 HQ.out)
     obtain ⟨c1', hc1'⟩ : ∃ q : Int, q = cmpN lz.natAbs qo := ⟨_, rfl⟩
     rw [← hc1'] at HCM
     by_cases hll : lz.natAbs < qo
     ·have hd : decide (0 ≤ c1') = false := decide_eq_false (by rw [hc1']; have := cmp_neg _ _ hll; omega)
      have HIT : Hid (bl = true) := by rw [Hid, HIK.out, blw_zero hll, ← HS.out]; rfl
      clear hll hc1' HIK HS
      go_wp2_with fail
      refine (HCM.out _).mono ?_
      rintro e w' ⟨rfl, rfl⟩
      go_wp2
      go_roundw
      case rel => exact ⟨k + 1, by omega, by go_num, by rw [Hid, HRS.out, HIT.out], hbe⟩
      case measure => simp [intOf]; omega
     ·have hd : decide (0 ≤ c1') = true := decide_eq_true (by rw [hc1']; have := cmp_nneg lz.natAbs qo (by omega); omega)
      have HRF : Hid (r = false) := by rw [Hid, HRES.out]; exact HRB.out (by rw [HIK.out]; exact blw_ge (by omega))
      clear hll hc1' HIK HS
      go_wp2_with fail
      refine (HCM.out _).mono ?_
      rintro e w' ⟨rfl, rfl⟩
      go_wp2
      go_ret
      rw [HRF.out]
      exact ⟨rfl, bt hBW hbe⟩
    ·have HRF : Hid (r = false) := by
      rw [Hid, HRES.out]
      refine HRB.out ?_
      rw [HIK.out]
      unfold blw
      rw [← HS.out, show vz 0 = true from rfl]
      simp
     clear HIK HS
     go_wp2
     go_ret
     rw [HRF.out]
     exact ⟨rfl, bt hBW hbe⟩
   ·have hzv := nzE (Nat.pos_of_ne_zero hv0)
    have HIK : Hid (bl = blw vb lz vb) := by rw [Hid, HIJ.out, if_neg hv0]
    have HV0 : Hid (0 < vb) := Nat.pos_of_ne_zero hv0
    clear hv0 HIJ
    have HCM : Hid (∀ w, Calls Tryz.prog 23 #[.string (E lz.natAbs), .string (E vb)] w fun e w' => e = .returned (.int .i64 (cmpN lz.natAbs vb)) ∧ w = w') := fun w => cmp_c _ _ w (lt64 HZL.out) (Nat.lt_of_lt_of_le HVL.out (Nat.pow_le_pow_right (by decide) (by decide)))
    obtain ⟨c1', hc1'⟩ : ∃ q : Int, q = cmpN lz.natAbs vb := ⟨_, rfl⟩
    rw [← hc1'] at HCM
    have hbe := bt hbr hbV
    by_cases hll : lz.natAbs < vb
    ·have hd : decide (0 ≤ c1') = false := decide_eq_false (by rw [hc1']; have := cmp_neg _ _ hll; omega)
     have HIT : Hid (bl = true) := by rw [Hid, HIK.out]; exact blw_pos hll HV0.out
     clear hll hc1' HIK
     obtain ⟨hVc0, hVf0⟩ := hV.x1
     obtain ⟨hPVc0, hPVf0, hPVc1, hPVf1, hPVc2, hPVf2⟩ := hPV.x3
     go_wp2_with fail
     refine (HCM.out _).mono ?_
     rintro e w' ⟨rfl, rfl⟩
     go_wp2
     go_roundw
     case rel => exact ⟨k + 1, by omega, by go_num, by rw [Hid, HRS.out, HIT.out], hbe⟩
     case measure => simp [intOf]; omega
    ·have hd : decide (0 ≤ c1') = true := decide_eq_true (by rw [hc1']; have := cmp_nneg lz.natAbs vb (by omega); omega)
     have HRF : Hid (r = false) := by rw [Hid, HRES.out]; exact HRB.out (by rw [HIK.out]; exact blw_ge (by omega))
     clear hll hc1' HIK
     obtain ⟨hVc0, hVf0⟩ := hV.x1
     obtain ⟨hPVc0, hPVf0, hPVc1, hPVf1, hPVc2, hPVf2⟩ := hPV.x3
     go_wp2_with fail
     refine (HCM.out _).mono ?_
     rintro e w' ⟨rfl, rfl⟩
     go_wp2
     go_ret
     rw [HRF.out]
     exact ⟨rfl, bt hBW hbe⟩
  ·obtain rfl : n2 = k := by omega
   have HRF : Hid (r = true) := by rw [Hid, HRES.out, ← HN2.out]; exact HAL.out
   go_wp2
   go_ret
   rw [HRF.out]
   exact ⟨rfl, hBW1⟩

/-- the answer of Holds -/
def NSta.hldE (N : NSta) (Z : List Int) : Nat := if Z.length ≠ N.vars.length then 6 else 0
def NSta.hldB (N : NSta) (Z : List Int) : Bool := decide (Z.length = N.vars.length) && (ra N.vars.length (inJ N Z) && decide (N.imgs Z = N.eqs.map (·.tgt)))

set_option maxHeartbeats 4000000 in
theorem holds_c (N : NSta) (Z : List Int) (v1 v2 v3 v4 : Value) (w : World) (hm : NOk N) (hS : NAt w v1 v2 v3 N) (hZ : ZsAt w v4 Z) (hz : ∀ z ∈ Z, z.natAbs < 256 ^ 64) (hzl : Z.length ≤ 1000) (hc : N.chk = 0) :
  Calls Tryz.prog 34 #[.agg #[v1, v2, v3], v4] w fun e w' => e = .returned (.tuple #[.bool (N.hldB Z), .int .i64 (N.hldE Z : Nat)]) ∧ Below w.heap.size w w' := by
 have hP := Blk.new w #[v1, v2, v3] 29
 have hBW := b1 w (.cells #[v1, v2, v3] 29)
 by_cases hl : Z.length = N.vars.length
 ·have HE0 : N.hldE Z = 0 := if_neg (fun h => h hl)
  rw [HE0]
  clear HE0
  obtain ⟨r, hr⟩ : ∃ r : Bool, r = N.hldB Z := ⟨_, rfl⟩
  have HRES := Lib.hid hr
  rw [← hr]
  clear hr
  have HRD : Hid (∀ w', Below w.heap.size w w' → Calls Tryz.prog 70 #[.agg #[v1, v2, v3], v4] w' fun e w'' => e = .returned (.int .i64 0) ∧ Below w'.heap.size w' w'') := fun w' hb => ready_c N Z v1 v2 v3 v4 w' hm (hS.after hb) (hZ.after hb) (fun z h => lt64 (hz z h)) hl hc
  have HIR : Hid (∀ w', Below w.heap.size w w' → Calls Tryz.prog 71 #[.agg #[v1, v2, v3], v4] w' fun e w'' => e = .returned (.bool (ra N.vars.length (inJ N Z))) ∧ Below w'.heap.size w' w'') := fun w' hb => inRange_c N Z v1 v2 v3 v4 w' hm (hS.after hb) (hZ.after hb) hz hl
  have HIM : Hid (∀ w', Below w.heap.size w w' → Calls Tryz.prog 72 #[.agg #[v1, v2, v3], v4] w' (LPost w' (N.imgs Z))) := fun w' hb' => images_c N Z v1 v2 v3 v4 w' hm (hS.after hb') (hZ.after hb') hz hl hc
  have HBD : Hid (N.hldB Z = (ra N.vars.length (inJ N Z) && decide (N.imgs Z = N.eqs.map (·.tgt)))) := by rw [Hid, NSta.hldB, decide_eq_true hl, Bool.true_and]
  have HS0 := Lib.hid hS
  obtain ⟨a4, c4, rfl⟩ := hZ.form
  obtain ⟨a1, c1, a2, c2, a3, c3, rfl, rfl, rfl⟩ := hS.forms
  obtain ⟨n1, hn1⟩ : ∃ n, n = N.grps.length := ⟨_, rfl⟩
  obtain ⟨n2, hn2⟩ : ∃ n, n = N.vars.length := ⟨_, rfl⟩
  obtain ⟨n3, hn3⟩ : ∃ n, n = N.eqs.length := ⟨_, rfl⟩
  have HN3 := Lib.hid hn3
  have l3 : n3 ≤ 12 := by rw [hn3]; exact hm.ne
  generalize Z.length = nz at HRD HIR HIM
  rw [← hn1, ← hn2, ← hn3] at HRD HIR HIM HS0 hP hBW ⊢
  rw [← hn2] at HBD
  clear hm hn1 hn2 hn3 hz hl hzl hS hZ hc
  obtain ⟨hPc0, hPf0, hPc1, hPf1, hPc2, hPf2⟩ := hP.x3
  go_enter Tryz.func34, Tryz.ntmps34
  go_wp2_with fail
  refine (HRD.out _ hBW).mono ?_
  rintro e w2 ⟨rfl, hb2⟩
  clear hPc0 hPf0 hPc1 hPf1 hPc2 hPf2
  replace hP := hP.after hb2
  replace hBW := bt hBW hb2
  clear hb2
  have hPl := hP.lt
  obtain ⟨hPc0, hPf0, hPc1, hPf1, hPc2, hPf2⟩ := hP.x3
  go_wp2_with fail
  refine (HIR.out _ hBW).mono ?_
  rintro e w3 ⟨rfl, hb3⟩
  clear hPc0 hPf0 hPc1 hPf1 hPc2 hPf2
  replace hP := hP.after hb3
  replace hBW := bt hBW hb3
  clear hb3 hPl
  generalize ra n2 (inJ N Z) = ri at HBD
  cases ri
  ·have HF : Hid (r = false) := by rw [Hid, HRES.out, HBD.out]; rfl
   go_wp2
   go_ret2
   rw [HF.out]
   exact ⟨rfl, hBW⟩
  ·have hPl := hP.lt
   obtain ⟨hPc0, hPf0, hPc1, hPf1, hPc2, hPf2⟩ := hP.x3
   go_wp2_with fail
   refine (HIM.out _ hBW).mono ?_
   rintro e w8 ⟨iv, rfl, hIO, hb8⟩
   clear hPc0 hPf0 hPc1 hPf1 hPc2 hPf2
   replace hP := hP.after hb8
   replace hBW := bt hBW hb8
   clear hb8 hPl HIM
   have hIs := hIO.ss
   clear hIO
   obtain ⟨a7, c7, rfl⟩ := RAt.form hIs
   have HIL : Hid (((N.imgs Z).map E).length = n3) := by rw [Hid, List.length_map, NSta.imgs, List.length_map, HN3.out]
   rw [HIL.out] at hIs ⊢
   have hPl := hP.lt
   have hszF := hBW.size
   obtain ⟨hPc0, hPf0, hPc1, hPf1, hPc2, hPf2⟩ := hP.x3
   go_wp2
   clear hPc0 hPf0 hPc1 hPf1 hPc2 hPf2
   go_loopw [33] (fun i wr => ∃ k : Nat, k ≤ n3 ∧ i = .int .i64 k ∧ Hid (∀ j, j < k → (N.imgs Z)[j]? = (N.eqs.map (·.tgt))[j]?) ∧ Below w8.heap.size w8 wr) (fun i _ => n3 - (intOf i).toNat)
   case atStart => exact ⟨0, by omega, rfl, fun j h => absurd h (Nat.not_lt_zero _), Below.refl _ _⟩
   case round =>
    obtain ⟨k, hk, rfl, HA, hbs⟩ := hrel
    obtain ⟨wu, hwu⟩ : ∃ wp, wp = wr := ⟨_, rfl⟩
    subst hwu
    have hBW2 := bt hBW hbs
    replace hIs := SsAt.after hIs hbs
    by_cases hlt : k < n3
    ·have hkl : k < N.eqs.length := by rw [← HN3.out]; exact hlt
     have hki : k < ((N.imgs Z).map E).length := by rw [HIL.out]; exact hlt
     have hS1 := HS0.out.after hBW2
     have HE1 : Hid ((N.imgs Z)[k]? = some (imgV N Z (N.eqs[k]'hkl))) := by rw [Hid, NSta.imgs, List.getElem?_map, List.getElem?_eq_getElem hkl]; rfl
     have HE2 : Hid ((N.eqs.map (·.tgt))[k]? = some (N.eqs[k]'hkl).tgt) := by rw [Hid, List.getElem?_map, List.getElem?_eq_getElem hkl]; rfl
     obtain ⟨b, o, tv, rfl, hbl, x1, x2, x3, hTs⟩ := NAt.eat hS1 hkl
     obtain ⟨b7, o7, rfl, hbl7, i1'⟩ := SsAt.at_ hIs hki
     rw [show ((N.imgs Z).map E)[k] = E (imgV N Z (N.eqs[k]'hkl)) by simp [NSta.imgs]] at i1'
     obtain ⟨to_, tc, rfl⟩ := hTs.form
     generalize (N.eqs[k]'hkl).trms.length = n4 at x3
     generalize (N.eqs[k]'hkl).grp = qg at x1
     generalize imgV N Z (N.eqs[k]'hkl) = iq at i1' HE1
     generalize (N.eqs[k]'hkl).tgt = qt at x2 HE2
     have h0k : (0 : Int) ≤ (k : Int) := by omega
     have h1k : (k : Int) < (n3 : Int) := by omega
     have hQb := Blk.new wu #[.int .i64 (qg : Int), .string (E qt), .slice to_ n4 tc] 95
     have hbq := b1 wu (.cells #[.int .i64 (qg : Int), .string (E qt), .slice to_ n4 tc] 95)
     have i2 := (hbq.cell (p := ⟨b7, o7 + k, none⟩) hbl7).trans i1'
     have g1 := gcl (a := ⟨b7, o7 + k, none⟩) (Nat.lt_of_lt_of_le hbl7 hbq.size) i2
     clear hTs hS1
     go_upto_region 12 with fail
     generalize wu.alloc (.cells #[.int .i64 (qg : Int), .string (E qt), .slice to_ n4 tc] 95) = wv at hQb hbq i2 g1 ⊢
     replace hQb : Blk wv wu.heap.size 95 [.int .i64 (qg : Int), .string (E qt), .slice to_ n4 tc] := hQb
     by_cases hyi : iq = qt
     ·have h1 := eqT hyi
      have h2 := eqE hyi
      have HX : Hid (∀ j, j < k + 1 → (N.imgs Z)[j]? = (N.eqs.map (·.tgt))[j]?) := fun j hj => by
       by_cases e : j = k
       ·rw [e, HE1.out, HE2.out, hyi]
       ·exact HA.out j (by omega)
      clear hyi
      obtain ⟨hQbc0, hQbf0, hQbc1, hQbf1, hQbc2, hQbf2⟩ := hQb.x3
      have hQbg0 := hQb.gcell 0
      have hQbg1 := hQb.gcell 1
      have hQbg2 := hQb.gcell 2
      go_wp2_with fail
      refine wp_region_gw (by kernel_rfl) (by kernel_rfl) ?_
      repeat (go_big_quiet_step (first | (fail)))
      refine wpQuiet_nil ?_
      rintro w9 ⟨xw9, rfl⟩
      have hb9 := gw_below xw9
      generalize gw xw9 = w9 at hb9
      go_wp2
      go_roundw
      case rel => exact ⟨k + 1, by omega, by go_num, HX, bt (bt hbs hbq) hb9⟩
      case measure => simp [intOf]; omega
     ·have h1 := eqF hyi
      have h2 := neE hyi
      have HF : Hid (r = false) := by rw [Hid, HRES.out, HBD.out, Bool.true_and]; exact decide_eq_false (fun e => hyi (by have h3 := HE1.out; rw [e, HE2.out] at h3; exact (Option.some.inj h3).symm))
      clear hyi
      obtain ⟨hQbc0, hQbf0, hQbc1, hQbf1, hQbc2, hQbf2⟩ := hQb.x3
      have hQbg0 := hQb.gcell 0
      have hQbg1 := hQb.gcell 1
      have hQbg2 := hQb.gcell 2
      go_wp2_with fail
      refine wp_region_gw (by kernel_rfl) (by kernel_rfl) ?_
      repeat (go_big_quiet_step (first | (fail)))
      refine wpQuiet_nil ?_
      rintro w9 ⟨xw9, rfl⟩
      have hb9 := gw_below xw9
      generalize gw xw9 = w9 at hb9
      go_wp2
      go_ret2
      rw [HF.out]
      exact ⟨rfl, bt (bt hBW2 hbq) hb9⟩
    ·have HF : Hid (r = true) := by
      rw [Hid, HRES.out, HBD.out, Bool.true_and]
      refine decide_eq_true (List.ext_getElem? fun j => by
       by_cases hj : j < k
       ·exact HA.out j hj
       ·rw [List.getElem?_eq_none (by rw [NSta.imgs, List.length_map, ← HN3.out]; omega), List.getElem?_eq_none (by rw [List.length_map, ← HN3.out]; omega)])
     go_wp2
     go_ret2
     rw [HF.out]
     exact ⟨rfl, hBW2⟩
 ·have HE0 : N.hldE Z = 6 := if_pos hl
  have HB0 : N.hldB Z = false := by unfold NSta.hldB; rw [decide_eq_false hl]; rfl
  rw [HE0, HB0]
  clear HE0 HB0
  have HRD : Hid (∀ w', Below w.heap.size w w' → Calls Tryz.prog 70 #[.agg #[v1, v2, v3], v4] w' fun e w'' => e = .returned (.int .i64 6) ∧ Below w'.heap.size w' w'') := fun w' hb => ready6_c N Z v1 v2 v3 v4 w' hm (hS.after hb) (hZ.after hb) (fun z h => lt64 (hz z h)) hl hzl hc
  clear hm hS hZ hz hl hzl hc
  obtain ⟨hPc0, hPf0, hPc1, hPf1, hPc2, hPf2⟩ := hP.x3
  go_enter Tryz.func34, Tryz.ntmps34
  go_wp2_with fail
  refine (HRD.out _ hBW).mono ?_
  rintro e w2 ⟨rfl, hb2⟩
  go_wp2
  go_ret2
  exact ⟨rfl, bt hBW hb2⟩

end Go.Proofs.YtehoiholhkfcpaaGreat
end

section
set_option linter.unusedVariables false
set_option linter.unusedSimpArgs false
set_option maxRecDepth 100000
namespace Go.Proofs.YtehoiholhkfcpaaGreat
open Go.RowKit Go.Shelf

/-- what a function returns that returns a list of integers or an error -/
def EPost (w : World) (k : Nat) (L : List Int) (e : Ending) (w' : World) : Prop := ∃ v, e = .returned (.tuple #[v, .int .i64 k]) ∧ ZOwn w' w.heap.size v L ∧ Below w.heap.size w w'
theorem epost_err {w w' : World} {k : Nat} {L : List Int} (hL : L = []) (h : Below w.heap.size w w') : EPost w k L (.returned (.tuple #[.slice none 0 0, .int .i64 k])) w' := ⟨_, rfl, by rw [hL]; exact World.ownsRow_nil _ _ _ _, h⟩

/-- the mask of a variable -/
def expI (q b c : Nat) (y z : Int) : Int := if b = 0 then ((subM y.natAbs (c * z.natAbs % q) q : Nat) : Int) else y - (c : Int) * z
def expJ (N : NSta) (c : Nat) (Y Z : List Int) (j : Nat) : Int := expI N.ord (N.vars.getD j 0) c (Y.getD j 0) (Z.getD j 0)
def NSta.expL (N : NSta) (c : Nat) (Y Z : List Int) : List Int := (List.range N.vars.length).map (expJ N c Y Z)
theorem exp_step (N : NSta) (c : Nat) (Y Z : List Int) (k : Nat) (h : k < N.vars.length) (h2 : k < Y.length) (h3 : k < Z.length) : (N.expL c Y Z).take (k + 1) = (N.expL c Y Z).take k ++ [expI N.ord N.vars[k] c Y[k] Z[k]] := by
 unfold NSta.expL
 rw [← List.map_take, List.take_succ_eq_append_getElem (by simpa using h), List.map_append, List.map_take]
 simp only [List.getElem_range, List.map_cons, List.map_nil, expJ, List.getD_eq_getElem?_getD, List.getElem?_eq_getElem h, List.getElem?_eq_getElem h2, List.getElem?_eq_getElem h3, Option.getD_some]
def NSta.exE (N : NSta) (Z : List Int) : Nat := if N.hldE Z ≠ 0 then N.hldE Z else if N.hldB Z = false then 18 else 0
def NSta.exL (N : NSta) (c : Nat) (Y Z : List Int) : List Int := if N.exE Z = 0 then N.expL c Y Z else []
theorem ex_a {N : NSta} {c : Nat} {Y Z : List Int} (h : N.hldE Z ≠ 0) : N.exE Z = N.hldE Z ∧ N.exL c Y Z = [] := by
 have : N.exE Z = N.hldE Z := by unfold NSta.exE; rw [if_pos h]
 exact ⟨this, by unfold NSta.exL; rw [this, if_neg h]⟩
theorem ex_b {N : NSta} {c : Nat} {Y Z : List Int} (h : N.hldE Z = 0) (h2 : N.hldB Z = false) : N.exE Z = 18 ∧ N.exL c Y Z = [] := by
 have : N.exE Z = 18 := by unfold NSta.exE; rw [if_neg (by omega), if_pos h2]
 exact ⟨this, by unfold NSta.exL; rw [this]; rfl⟩
theorem ex_c {N : NSta} {c : Nat} {Y Z : List Int} (h : N.hldE Z = 0) (h2 : N.hldB Z = true) : N.exE Z = 0 ∧ N.exL c Y Z = N.expL c Y Z := by
 have : N.exE Z = 0 := by unfold NSta.exE; rw [if_neg (by omega), if_neg (by rw [h2]; decide)]
 exact ⟨this, by unfold NSta.exL; rw [this]; rfl⟩
theorem hld_inv {N : NSta} {Z : List Int} (h : N.hldB Z = true) : Z.length = N.vars.length ∧ ra N.vars.length (inJ N Z) = true := by
 unfold NSta.hldB at h
 simp only [Bool.and_eq_true, decide_eq_true_eq] at h
 exact ⟨h.1, h.2.1⟩

/-- a box of an integer that was made behind a world -/
def ZBx (w : World) (a b : Value) (s : Value) (wx : World) : Prop := ∃ g, s = .pointer (some ⟨g, 0, none⟩) ∧ Blk wx g 53 [a, b] ∧ w.heap.size ≤ g ∧ Below w.heap.size w wx

theorem lt71 {c n : Nat} (h1 : c < 256 ^ 8) (h2 : n < 256 ^ 63) : c * n < 256 ^ 71 := by
 have h := Nat.mul_lt_mul'' h1 h2
 rwa [← Nat.pow_add] at h
theorem sub71 {y p : Int} (h1 : y.natAbs < 256 ^ 64) (h2 : p.natAbs < 256 ^ 71) : (y - p).natAbs < 256 ^ 128 := by
 have : (256 : Nat) ^ 64 + 256 ^ 71 ≤ 256 ^ 128 := by decide
 omega

set_option maxHeartbeats 1600000 in
theorem sexp_err (C K : ByteArray) (v1 v2 v3 v4 f ch rs : Value) (k : Nat) (w : World) (hk : k ≠ 0)
  (hch : ∀ w', Below w.heap.size w w' → Calls Tryz.prog 20 #[.agg #[.string C, .string K], .agg #[v1, v2, v3]] w' fun e w'' => e = .returned (.tuple #[.slice none 0 0, .slice none 0 0, .int .i64 k]) ∧ Below w'.heap.size w' w'') :
  Calls Tryz.prog 12 #[.agg #[.string C, .string K], .agg #[v1, v2, v3], v4, .agg #[f, ch, rs]] w (EPost w k []) := by
 have HCH := Lib.hid hch
 have hkb : ((k : Int) != 0) = true := by rw [bne_iff_ne]; omega
 have hR := blk3a w #[.string C, .string K] #[v1, v2, v3] #[f, ch, rs] 24 29 45
 have hP := blk3b w #[.string C, .string K] #[v1, v2, v3] #[f, ch, rs] 24 29 45
 have hF := blk3c w #[.string C, .string K] #[v1, v2, v3] #[f, ch, rs] 24 29 45
 have hBW := b3 w (.cells #[.string C, .string K] 24) (.cells #[v1, v2, v3] 29) (.cells #[f, ch, rs] 45)
 clear hch hk
 obtain ⟨hRc0, hRf0, hRc1, hRf1⟩ := hR.x2
 obtain ⟨hPc0, hPf0, hPc1, hPf1, hPc2, hPf2⟩ := hP.x3
 go_enter Tryz.func12, Tryz.ntmps12
 go_wp2_with fail
 refine (HCH.out _ hBW).mono ?_
 rintro e w2 ⟨rfl, hb2⟩
 go_wp2
 go_ret2
 exact epost_err rfl (bt hBW hb2)

set_option maxHeartbeats 1600000 in
theorem sexp_form (C K : ByteArray) (l : List (Bool × ByteArray)) (L : List (Nat × Nat)) (v1 v2 v3 v4 f ch rs : Value) (w : World) (hn : l.length ≤ 1000) (hs : ∀ x ∈ l, x.2.size ≤ 1000) (hR : IsAt w v4 l) (hf : ivsB l = false)
  (hch : ∀ w', Below w.heap.size w w' → Calls Tryz.prog 20 #[.agg #[.string C, .string K], .agg #[v1, v2, v3]] w' (B2Post w' L)) :
  Calls Tryz.prog 12 #[.agg #[.string C, .string K], .agg #[v1, v2, v3], v4, .agg #[f, ch, rs]] w (EPost w 3 []) := by
 have HCH := Lib.hid hch
 have HI : Hid (∀ w', Below w.heap.size w w' → Calls Tryz.prog 22 #[v4] w' fun e w'' => e = .returned (.bool false) ∧ Below w'.heap.size w' w'') := fun w' hb => by rw [← hf]; exact sints_c l v4 w' hn hs (IsAt.after hR hb)
 clear hn hs hR hch hf
 have hR := blk3a w #[.string C, .string K] #[v1, v2, v3] #[f, ch, rs] 24 29 45
 have hP := blk3b w #[.string C, .string K] #[v1, v2, v3] #[f, ch, rs] 24 29 45
 have hF := blk3c w #[.string C, .string K] #[v1, v2, v3] #[f, ch, rs] 24 29 45
 have hBW := b3 w (.cells #[.string C, .string K] 24) (.cells #[v1, v2, v3] 29) (.cells #[f, ch, rs] 45)
 obtain ⟨hRc0, hRf0, hRc1, hRf1⟩ := hR.x2
 obtain ⟨hPc0, hPf0, hPc1, hPf1, hPc2, hPf2⟩ := hP.x3
 go_enter Tryz.func12, Tryz.ntmps12
 go_wp2_with fail
 refine (HCH.out _ hBW).mono ?_
 rintro e w2 ⟨mv, uv, rfl, hMO, hUO, hb2⟩
 clear hRc0 hRf0 hRc1 hRf1
 clear hPc0 hPf0 hPc1 hPf1 hPc2 hPf2
 clear hMO hUO
 replace hBW := bt hBW hb2
 clear hb2
 go_wp2_with fail
 refine (HI.out _ hBW).mono ?_
 rintro e w3 ⟨rfl, hb3⟩
 go_wp2
 go_ret2
 exact epost_err rfl (bt hBW hb3)

set_option maxHeartbeats 1600000 in
theorem sexp_ver (C K : ByteArray) (l : List (Bool × ByteArray)) (L : List (Nat × Nat)) (v1 v2 v3 v4 f ch rs : Value) (k : Nat) (w : World) (hk : k ≠ 0) (hn : l.length ≤ 1000) (hs : ∀ x ∈ l, x.2.size ≤ 1000) (hR : IsAt w v4 l) (hf : ivsB l = true)
  (hch : ∀ w', Below w.heap.size w w' → Calls Tryz.prog 20 #[.agg #[.string C, .string K], .agg #[v1, v2, v3]] w' (B2Post w' L))
  (hv : ∀ w', Below w.heap.size w w' → Calls Tryz.prog 33 #[.agg #[.string C, .string K], .agg #[v1, v2, v3], .agg #[f, ch, rs]] w' fun e w'' => e = .returned (.int .i64 k) ∧ Below w'.heap.size w' w'') :
  Calls Tryz.prog 12 #[.agg #[.string C, .string K], .agg #[v1, v2, v3], v4, .agg #[f, ch, rs]] w (EPost w k []) := by
 have HCH := Lib.hid hch
 have HV := Lib.hid hv
 have hkb : ((k : Int) != 0) = true := by rw [bne_iff_ne]; omega
 have HI : Hid (∀ w', Below w.heap.size w w' → Calls Tryz.prog 22 #[v4] w' fun e w'' => e = .returned (.bool true) ∧ Below w'.heap.size w' w'') := fun w' hb => by rw [← hf]; exact sints_c l v4 w' hn hs (IsAt.after hR hb)
 clear hn hs hR hch hf hv hk
 have hR := blk3a w #[.string C, .string K] #[v1, v2, v3] #[f, ch, rs] 24 29 45
 have hP := blk3b w #[.string C, .string K] #[v1, v2, v3] #[f, ch, rs] 24 29 45
 have hF := blk3c w #[.string C, .string K] #[v1, v2, v3] #[f, ch, rs] 24 29 45
 have hBW := b3 w (.cells #[.string C, .string K] 24) (.cells #[v1, v2, v3] 29) (.cells #[f, ch, rs] 45)
 obtain ⟨hRc0, hRf0, hRc1, hRf1⟩ := hR.x2
 obtain ⟨hPc0, hPf0, hPc1, hPf1, hPc2, hPf2⟩ := hP.x3
 go_enter Tryz.func12, Tryz.ntmps12
 go_wp2_with fail
 refine (HCH.out _ hBW).mono ?_
 rintro e w2 ⟨mv, uv, rfl, hMO, hUO, hb2⟩
 clear hRc0 hRf0 hRc1 hRf1
 clear hPc0 hPf0 hPc1 hPf1 hPc2 hPf2
 clear hMO hUO
 replace hBW := bt hBW hb2
 replace hR := hR.after hb2
 replace hP := hP.after hb2
 replace hF := hF.after hb2
 clear hb2
 go_wp2_with fail
 refine (HI.out _ hBW).mono ?_
 rintro e w3 ⟨rfl, hb3⟩
 replace hBW := bt hBW hb3
 replace hR := hR.after hb3
 replace hP := hP.after hb3
 replace hF := hF.after hb3
 clear hb3
 obtain ⟨hRc0, hRf0, hRc1, hRf1⟩ := hR.x2
 obtain ⟨hPc0, hPf0, hPc1, hPf1, hPc2, hPf2⟩ := hP.x3
 obtain ⟨hFc0, hFf0, hFc1, hFf1, hFc2, hFf2⟩ := hF.x3
 go_wp2_with fail
 refine (HV.out _ hBW).mono ?_
 rintro e w4 ⟨rfl, hb4⟩
 clear hRc0 hRf0 hRc1 hRf1
 clear hPc0 hPf0 hPc1 hPf1 hPc2 hPf2
 clear hFc0 hFf0 hFc1 hFf1 hFc2 hFf2
 go_wp2
 go_ret2
 exact epost_err rfl (bt hBW hb4)

set_option maxHeartbeats 8000000 in
theorem sexp_num (N : NSta) (C K c : Nat) (Y Z : List Int) (v1 v2 v3 v4 f rs : Value) (w : World) (hC : C < 256 ^ 8) (hK : K < 256 ^ 8) (hm : NOk N) (hS : NAt w v1 v2 v3 N) (h0 : N.chk = 0) (hZ : ZsAt w v4 Z) (hz : ∀ z ∈ Z, z.natAbs < 256 ^ 63) (hzl : Z.length ≤ 1000)
  (hc8 : c < 256 ^ 8) (hY : ZsAt w rs Y) (hyl : Y.length = N.vars.length) (hy : ∀ y ∈ Y, y.natAbs < 256 ^ 64) (hyq : ∀ (j : Nat) (h : j < N.vars.length) (h2 : j < Y.length), N.vars[j] = 0 → 0 < N.ord ∧ Y[j].natAbs < 256 ^ 8)
  (hch : ∀ w', Below w.heap.size w w' → Calls Tryz.prog 20 #[.agg #[.string (E C), .string (E K)], .agg #[v1, v2, v3]] w' (B2Post w' (N.lims C K)))
  (hv : ∀ w', Below w.heap.size w w' → Calls Tryz.prog 33 #[.agg #[.string (E C), .string (E K)], .agg #[v1, v2, v3], .agg #[f, .string (E c), rs]] w' fun e w'' => e = .returned (.int .i64 0) ∧ Below w'.heap.size w' w'') :
  Calls Tryz.prog 12 #[.agg #[.string (E C), .string (E K)], .agg #[v1, v2, v3], v4, .agg #[f, .string (E c), rs]] w (EPost w (N.exE Z) (N.exL c Y Z)) := by
 obtain ⟨i1, hi1, hz10, hz11, hz12⟩ := info_parts info_Int
 have HI1 := Lib.hid hi1
 have HA1 := Lib.hid hz10
 have HB1 := Lib.hid hz11
 have HC1 := Lib.hid hz12
 clear hi1 hz10 hz11 hz12
 obtain ⟨r, hr⟩ : ∃ r : Nat, r = N.exE Z := ⟨_, rfl⟩
 obtain ⟨rl, hrl⟩ : ∃ r, r = N.exL c Y Z := ⟨_, rfl⟩
 have HRES := Lib.hid hr
 have HRL := Lib.hid hrl
 rw [← hr, ← hrl]
 clear hr hrl
 have hz64 : ∀ z ∈ Z, z.natAbs < 256 ^ 64 := fun z h => Nat.lt_of_lt_of_le (hz z h) (Nat.pow_le_pow_right (by decide) (by decide))
 have HCH := Lib.hid hch
 have HV := Lib.hid hv
 have HIN : Hid (∀ w', Below w.heap.size w w' → Calls Tryz.prog 22 #[v4] w' fun e w'' => e = .returned (.bool true) ∧ Below w'.heap.size w' w'') := fun w' hb => by
  have h := sints_c (Z.map zI) v4 w' (by simpa using hzl) (by
   intro x hx
   obtain ⟨z, hz1, rfl⟩ := List.mem_map.1 hx
   have := sz z.natAbs (lt64 (hz64 z hz1))
   simp only [zI]; omega) (hZ.after hb)
  rwa [sints_num Z (fun z hz1 => lt64 (hz64 z hz1))] at h
 have HHO : Hid (∀ w', Below w.heap.size w w' → Calls Tryz.prog 34 #[.agg #[v1, v2, v3], v4] w' fun e w'' => e = .returned (.tuple #[.bool (N.hldB Z), .int .i64 (N.hldE Z : Nat)]) ∧ Below w'.heap.size w' w'') := fun w' hb => holds_c N Z v1 v2 v3 v4 w' hm (hS.after hb) (hZ.after hb) hz64 hzl h0
 have HZZ := Lib.hid hz
 have HYY := Lib.hid hy
 have HYQ := Lib.hid hyq
 have HC8 := Lib.hid hc8
 have HQL := Lib.hid (ord_lt hm)
 obtain ⟨a4, c4, rfl⟩ := hZ.form
 obtain ⟨a5, c5, rfl⟩ := hY.form
 obtain ⟨nz, hnz⟩ : ∃ n, n = Z.length := ⟨_, rfl⟩
 have HNZ := Lib.hid hnz
 rw [← hnz] at hZ hzl HIN HHO ⊢
 have HYL := Lib.hid hyl
 rw [hyl] at hY HV ⊢
 obtain ⟨a1, c1, a2, c2, a3, c3, rfl, rfl, rfl⟩ := hS.forms
 obtain ⟨n1, hn1⟩ : ∃ n, n = N.grps.length := ⟨_, rfl⟩
 obtain ⟨n2, hn2⟩ : ∃ n, n = N.vars.length := ⟨_, rfl⟩
 obtain ⟨n3, hn3⟩ : ∃ n, n = N.eqs.length := ⟨_, rfl⟩
 have HN2 := Lib.hid hn2
 have l2 : n2 ≤ 12 := by rw [hn2]; exact hm.nv
 rw [← hn1, ← hn2, ← hn3] at hS HCH HHO HV ⊢
 rw [← hn2] at hY
 clear hm hn1 hn2 hn3 hnz hC hK h0 hz hz64 hch hv hy hyq hyl hc8
 have hR := blk3a w #[.string (E C), .string (E K)] #[.slice a1 n1 c1, .slice a2 n2 c2, .slice a3 n3 c3] #[f, .string (E c), .slice a5 n2 c5] 24 29 45
 have hP := blk3b w #[.string (E C), .string (E K)] #[.slice a1 n1 c1, .slice a2 n2 c2, .slice a3 n3 c3] #[f, .string (E c), .slice a5 n2 c5] 24 29 45
 have hF := blk3c w #[.string (E C), .string (E K)] #[.slice a1 n1 c1, .slice a2 n2 c2, .slice a3 n3 c3] #[f, .string (E c), .slice a5 n2 c5] 24 29 45
 have hBW := b3 w (.cells #[.string (E C), .string (E K)] 24) (.cells #[.slice a1 n1 c1, .slice a2 n2 c2, .slice a3 n3 c3] 29) (.cells #[f, .string (E c), .slice a5 n2 c5] 45)
 replace hS := hS.after hBW
 replace hZ := hZ.after hBW
 replace hY := hY.after hBW
 obtain ⟨hRc0, hRf0, hRc1, hRf1⟩ := hR.x2
 obtain ⟨hPc0, hPf0, hPc1, hPf1, hPc2, hPf2⟩ := hP.x3
 go_enter Tryz.func12, Tryz.ntmps12
 go_wp2_with fail
 refine (HCH.out _ hBW).mono ?_
 rintro e w2 ⟨mv, uv, rfl, hMO, hUO, hb2⟩
 clear hRc0 hRf0 hRc1 hRf1
 clear hPc0 hPf0 hPc1 hPf1 hPc2 hPf2
 have hUs := hMO.ss
 clear hMO hUO
 obtain ⟨a6, c6, rfl⟩ := RAt.form hUs
 have HUL : Hid ((((N.lims C K).map (·.1)).map E).length = n2) := by rw [Hid, List.length_map, List.length_map, NSta.lims, List.length_map, HN2.out]
 rw [HUL.out] at hUs ⊢
 replace hR := hR.after hb2
 replace hP := hP.after hb2
 replace hF := hF.after hb2
 replace hS := hS.after hb2
 replace hZ := hZ.after hb2
 replace hY := hY.after hb2
 replace hBW := bt hBW hb2
 clear hb2
 go_wp2_with fail
 refine (HIN.out _ hBW).mono ?_
 rintro e w3 ⟨rfl, hb3⟩
 replace hUs := SsAt.after hUs hb3
 replace hR := hR.after hb3
 replace hP := hP.after hb3
 replace hF := hF.after hb3
 replace hS := hS.after hb3
 replace hZ := hZ.after hb3
 replace hY := hY.after hb3
 replace hBW := bt hBW hb3
 clear hb3
 clear HIN
 obtain ⟨hRc0, hRf0, hRc1, hRf1⟩ := hR.x2
 obtain ⟨hPc0, hPf0, hPc1, hPf1, hPc2, hPf2⟩ := hP.x3
 obtain ⟨hFc0, hFf0, hFc1, hFf1, hFc2, hFf2⟩ := hF.x3
 go_wp2_with fail
 refine (HV.out _ hBW).mono ?_
 rintro e w4 ⟨rfl, hb4⟩
 clear hRc0 hRf0 hRc1 hRf1
 clear hPc0 hPf0 hPc1 hPf1 hPc2 hPf2
 clear hFc0 hFf0 hFc1 hFf1 hFc2 hFf2
 replace hUs := SsAt.after hUs hb4
 replace hR := hR.after hb4
 replace hP := hP.after hb4
 replace hF := hF.after hb4
 replace hS := hS.after hb4
 replace hZ := hZ.after hb4
 replace hY := hY.after hb4
 replace hBW := bt hBW hb4
 clear hb4
 clear HV
 obtain ⟨hPc0, hPf0, hPc1, hPf1, hPc2, hPf2⟩ := hP.x3
 go_wp2_with fail
 refine (HHO.out _ hBW).mono ?_
 rintro e w5 ⟨rfl, hb5⟩
 clear hPc0 hPf0 hPc1 hPf1 hPc2 hPf2
 replace hUs := SsAt.after hUs hb5
 replace hR := hR.after hb5
 replace hP := hP.after hb5
 replace hF := hF.after hb5
 replace hS := hS.after hb5
 replace hZ := hZ.after hb5
 replace hY := hY.after hb5
 replace hBW := bt hBW hb5
 clear hb5
 clear HHO hR
 by_cases hh0 : N.hldE Z = 0
 ·cases hhb : N.hldB Z
  ·have HX := Lib.hid (ex_b (c := c) (Y := Y) hh0 hhb)
   rw [hh0]
   clear hh0 hhb
   go_wp2
   go_ret2
   rw [HRES.out, HRL.out, HX.out.1, HX.out.2]
   exact epost_err rfl hBW
  ·have HX := Lib.hid (ex_c (c := c) (Y := Y) hh0 hhb)
   have HIV := Lib.hid (hld_inv hhb)
   rw [hh0]
   clear hh0 hhb
   have hnn : nz = n2 := by rw [HNZ.out, HN2.out]; exact HIV.out.1
   subst hnn
   obtain ⟨hPc0, hPf0, hPc1, hPf1, hPc2, hPf2⟩ := hP.x3
   go_wp2
   clear hPc0 hPf0 hPc1 hPf1 hPc2 hPf2
   go_loopw [15, 57] (fun v15 i wr => ∃ k : Nat, k ≤ nz ∧ i = .int .i64 k ∧ ZOwn wr w5.heap.size v15 ((N.expL c Y Z).take k) ∧ Below w5.heap.size w5 wr) (fun _ i _ => nz - (intOf i).toNat)
   case atStart => exact ⟨0, by omega, rfl, World.ownsRow_nil _ _ _ _, Below.refl _ _⟩
   case round =>
    obtain ⟨k, hk, rfl, hO, hbr⟩ := hrel
    obtain ⟨wp, hwp⟩ : ∃ wp, wp = wr := ⟨_, rfl⟩
    subst hwp
    have hBW1 := bt hBW hbr
    have hP1 := hP.after hbr
    have hF1 := hF.after hbr
    by_cases hlt : k < nz
    ·have hkl : k < N.vars.length := by rw [← HN2.out]; exact hlt
     have hkZ : k < Z.length := by rw [← HNZ.out]; exact hlt
     have hkY : k < Y.length := by rw [HYL.out]; exact hkl
     have hkU : k < (((N.lims C K).map (·.1)).map E).length := by rw [HUL.out]; exact hlt
     have HST := Lib.hid (exp_step N c Y Z k hkl hkY hkZ)
     obtain ⟨bv, ov, rfl, hbv, x1⟩ := (hS.after hbr).vat hkl
     obtain ⟨bz, oz, rfl, hbz, z1, z2⟩ := (hZ.after hbr).at_ hkZ
     obtain ⟨by_, oy, rfl, hby, y1, y2⟩ := (hY.after hbr).at_ hkY
     obtain ⟨bu, ou, rfl, hbu, u1⟩ := SsAt.at_ (SsAt.after hUs hbr) hkU
     rw [show (((N.lims C K).map (·.1)).map E)[k] = E (lim N.ord C K (N.vars[k]'hkl)).1 by simp [NSta.lims]] at u1
     have HZL := Lib.hid (HZZ.out _ (List.getElem_mem hkZ))
     have HYS := Lib.hid (HYY.out _ (List.getElem_mem hkY))
     have HYM := Lib.hid (HYQ.out k hkl hkY)
     have HIJ : Hid (inJ N Z k = true) := ra_at HIV.out.2 hkl
     rw [inJ_at N Z k hkl hkZ] at HIJ
     have HLI : Hid (N.vars[k]'hkl = 0 → (lim N.ord C K (N.vars[k]'hkl)).1 = N.ord) := fun h => by rw [lim, if_pos h]
     generalize (lim N.ord C K (N.vars[k]'hkl)).1 = mk at u1 HLI
     generalize (N.vars[k]'hkl) = vb at x1 HST HYM HIJ HLI
     generalize (Z[k]'hkZ) = lz at z1 z2 HZL HST HIJ
     generalize (Y[k]'hkY) = ly at y1 y2 HYS HST HYM
     have hLE : Hid (((N.expL c Y Z).take k).length = k) := by rw [Hid, List.length_take, NSta.expL, List.length_map, List.length_range]; omega
     generalize (N.expL c Y Z).take k = LI at hO HST hLE
     replace hO : wp.ownsRow w5.heap.size 53 2 u15 k (ics (LI.map zI)) := by have h : wp.ownsRow _ _ _ _ _ _ := hO; rw [hLE.out] at h; exact h
     have h0k : (0 : Int) ≤ (k : Int) := by omega
     have h1k : (k : Int) < (nz : Int) := by omega
     have hVA := Blk.new wp #[.string (E vb)] 64
     have hbV := b1 wp (.cells #[.string (E vb)] 64)
     have hFV := hF1.after hbV
     have hO1 := own_after hO hbV
     have zz1 := (hbV.cell (p := ⟨bz, oz + k * 2, none⟩) hbz).trans z1
     have zz2 := (hbV.cell (p := ⟨bz, oz + k * 2 + 1, none⟩) hbz).trans z2
     have yy1 := (hbV.cell (p := ⟨by_, oy + k * 2, none⟩) hby).trans y1
     have yy2 := (hbV.cell (p := ⟨by_, oy + k * 2 + 1, none⟩) hby).trans y2
     have uu1 := (hbV.cell (p := ⟨bu, ou + k, none⟩) hbu).trans u1
     have kz := Nat.lt_of_lt_of_le hbz hbV.size
     have ky := Nat.lt_of_lt_of_le hby hbV.size
     have ku := Nat.lt_of_lt_of_le hbu hbV.size
     have hbx := bt hbr hbV
     by_cases hv0 : vb = 0
     ·have hzv := zE hv0
      have hq := HLI.out hv0
      subst hq
      have HYM2 := Lib.hid (HYM.out hv0)
      have HIJ2 : Hid (lz.natAbs < N.ord) := by
       have h := HIJ.out
       rw [if_pos hv0] at h
       simp only [blw, Bool.and_eq_true, decide_eq_true_eq] at h
       exact h.1
      obtain ⟨q, hq⟩ : ∃ q, q = N.ord := ⟨_, rfl⟩
      have HQQ : Hid (q < 256 ^ 8) := by rw [Hid, hq]; exact HQL.out
      rw [← hq] at uu1 HYM2 HIJ2 HST
      have HMU : Hid (∀ w, Calls Tryz.prog 38 #[.string (E c), .string (E lz.natAbs), .string (E q)] w fun e w' => e = .returned (.tuple #[.string (E (c * lz.natAbs % q)), .int .i64 0]) ∧ Below w.heap.size w w') := fun w => mmul_c _ _ _ w HC8.out (Nat.lt_trans HIJ2.out HQQ.out) HQQ.out HYM2.out.1
      have HSU : Hid (∀ w, Calls Tryz.prog 39 #[.string (E ly.natAbs), .string (E (c * lz.natAbs % q)), .string (E q)] w fun e w' => e = .returned (.tuple #[.string (E (subM ly.natAbs (c * lz.natAbs % q) q)), .int .i64 0]) ∧ Below w.heap.size w w') := fun w => msub_c _ _ _ w HYM2.out.2 (Nat.lt_trans (Nat.mod_lt _ HYM2.out.1) HQQ.out) HQQ.out HYM2.out.1
      have HSL : Hid (subM ly.natAbs (c * lz.natAbs % q) q < 256 ^ 128) := lt128 (Nat.lt_trans (Nat.mod_lt _ HYM2.out.1) HQQ.out)
      have HXI : Hid (expI q vb c ly lz = ((subM ly.natAbs (c * lz.natAbs % q) q : Nat) : Int)) := if_pos hv0
      rw [HXI.out] at HST
      generalize subM ly.natAbs (c * lz.natAbs % q) q = sx at HSU HSL HST
      generalize c * lz.natAbs % q = mx at HMU HSU
      have HFR : Hid (∀ w, Calls Tryz.prog 36 #[.string (E sx)] w fun e w' => e = .returned (.agg #[.bool false, .string (E sx)]) ∧ Below w.heap.size w w') := fun w => fromN sx w HSL.out
      clear hv0 HIJ2 HYM2 HXI hq HQQ
      have g1 := gcl (a := ⟨bz, oz + k * 2 + 1, none⟩) kz zz2
      have hFVl := hFV.lt
      obtain ⟨hVAc0, hVAf0⟩ := hVA.x1
      go_upto_region 23 with fail
      clear hVAc0 hVAf0
      clear x1 z1 z2 y1 y2 u1 hbv hbz hby hbu hO hF1 hP1 hVA
      generalize wp.alloc (.cells #[.string (E vb)] 64) = wv at hFV hbV zz1 zz2 yy1 yy2 uu1 kz ky ku hO1 hbx g1 hFVl ⊢
      obtain ⟨hFVc0, hFVf0, hFVc1, hFVf1, hFVc2, hFVf2⟩ := hFV.x3
      have hFVg0 := hFV.gcell 0
      have hFVg1 := hFV.gcell 1
      have hFVg2 := hFV.gcell 2
      go_wp2_with fail
      refine wp_region_gw (by kernel_rfl) (by kernel_rfl) ?_
      repeat (go_big_quiet_step (first | (go_at_call 38; exact gw_of (HMU.out _))))
      refine wpQuiet_nil ?_
      rintro w9 ⟨xw9, rfl⟩
      have hb9 := gw_below xw9
      generalize gw xw9 = w9 at hb9
      clear hFVc0 hFVf0 hFVc1 hFVf1 hFVc2 hFVf2
      clear hFVg0 hFVg1 hFVg2
      have hF9 := hFV.after hb9
      have q1 := (hb9.cell (p := ⟨by_, oy + k * 2 + 1, none⟩) ky).trans yy2
      have ky9 := Nat.lt_of_lt_of_le ky hb9.size
      have hO2 := own_after hO1 hb9
      have hbx2 := bt hbx hb9
      clear g1 zz1 zz2 yy1 yy2 uu1 kz ky ku hb9 hFV hO1 hbx hbV hFVl
      obtain ⟨hF9c0, hF9f0, hF9c1, hF9f1, hF9c2, hF9f2⟩ := hF9.x3
      go_wp2_with fail
      refine (HSU.out _).mono ?_
      rintro e w10 ⟨rfl, hb10⟩
      clear hF9c0 hF9f0 hF9c1 hF9f1 hF9c2 hF9f2
      have hO3 := own_after hO2 hb10
      have hbx3 := bt hbx2 hb10
      clear hO2 hbx2 hb10 hF9 q1 ky9
      go_wp2_with fail
      refine (HFR.out _).mono ?_
      rintro e w11 ⟨rfl, hb11⟩
      have hO9 := own_after hO3 hb11
      have hbe := bt hbx3 hb11
      clear hO3 hbx3 hb11
      have hZ0 : Hid (ics [zI ((sx : Nat) : Int)] = [.bool false, .string (E sx)]) := by rw [Hid]; simp [ics, zI, sg_nat]
      have hO8 : (w11).ownsRow w5.heap.size 53 2 u15 k (ics (LI.map zI)) := hO9
      have hbr8 := hbe
      have hsz8 := hbr8.size
      go_wp2_with (at_builtin; refine wpList_append_lies _ rfl (.tmp 118) (.tmp 121) _ rfl w5.heap.size 53 i1 _ 2 24 Tryz.underlying30 HI1.out HA1.out HB1.out HC1.out rfl (by omega) u15 k (ics (LI.map zI)) rfl (own_after hO8 (b1 _ (.cells #[.bool false, .string (E sx)] 53))) ⟨(w11).heap.size, 0, none⟩ 1 1 [.bool false, .string (E sx)] rfl rfl (Blk.new (w11) #[.bool false, .string (E sx)] 53).cells (by simp [Value.oneCell']) (by omega) (by simp only [maxLen]; omega) (by omega) (by rw [World.size_alloc]; omega) ((w11).heap.size + 1) (by simp) ?_; intro ga ca' wz hown hgrow hat hlt2)
      have hOA : ZOwn wz w5.heap.size (.slice (some ⟨ga, 0, none⟩) (k + 1) ca') (LI ++ [((sx : Nat) : Int)]) := by rw [ZOwn, List.length_append, hLE.out, ← ics_app]; have h := hown; rw [← hZ0.out] at h; exact h
      rw [← HST.out] at hOA
      have hbA := (ba hbr8 (.cells #[.bool false, .string (E sx)] 53)).grown hgrow (by rw [World.size_alloc]; omega) (fun x hx => (own_lt hO8 hx).2)
      clear hown hgrow hat hlt2 hO8 hbr8
      go_wp2
      go_roundw
      case rel => exact ⟨k + 1, by omega, by go_num, hOA, hbA⟩
      case measure => simp [intOf]; omega
     ·have hzv := nzE (Nat.pos_of_ne_zero hv0)
      have HXI : Hid (expI N.ord vb c ly lz = ly - (c : Int) * lz) := if_neg hv0
      rw [HXI.out] at HST
      have HFR : Hid (∀ w, Calls Tryz.prog 36 #[.string (E c)] w fun e w' => e = .returned (.agg #[.bool false, .string (E c)]) ∧ Below w.heap.size w w') := fun w => fromN c w (lt128 HC8.out)
      have HCZ : Hid (c * lz.natAbs < 256 ^ 71) := lt71 HC8.out HZL.out
      have HCA : Hid (((c : Int) * lz).natAbs < 256 ^ 71) := by rw [Hid, Int.natAbs_mul, Int.natAbs_natCast]; exact HCZ.out
      have HMU : Hid (∀ w, Calls Tryz.prog 35 #[.agg #[.bool false, .string (E c)], .agg #[.bool (sg (lz)), .string (E (lz).natAbs)]] w fun e w' => e = .returned (.tuple #[.agg #[.bool (sg ((c : Int) * lz)), .string (E ((c : Int) * lz).natAbs)], .int .i64 0]) ∧ Below w.heap.size w w') := fun w => by
       have h := imul_c (c : Int) lz w (by rw [Int.natAbs_natCast]; exact lt128 HC8.out) (Nat.lt_of_lt_of_le HZL.out (Nat.pow_le_pow_right (by decide) (by decide))) (by rw [Int.natAbs_natCast]; exact Nat.lt_of_lt_of_le HCZ.out (Nat.pow_le_pow_right (by decide) (by decide)))
       rwa [Int.natAbs_natCast, sg_nat] at h
      generalize (c : Int) * lz = pz at HMU HCA HST
      have HSU : Hid (∀ w, Calls Tryz.prog 37 #[.agg #[.bool (sg (ly)), .string (E (ly).natAbs)], .agg #[.bool (sg (pz)), .string (E (pz).natAbs)]] w fun e w' => e = .returned (.tuple #[.agg #[.bool (sg (ly - pz)), .string (E (ly - pz).natAbs)], .int .i64 0]) ∧ Below w.heap.size w w') := fun w => isub_c (x := ly) (y := pz) (w := w) (lt64 HYS.out) (Nat.lt_of_lt_of_le HCA.out (Nat.pow_le_pow_right (by decide) (by decide))) (sub71 HYS.out HCA.out)
      generalize ly - pz = dz at HSU HST
      clear hv0 HXI HCZ HCA
      obtain ⟨hVAc0, hVAf0⟩ := hVA.x1
      go_upto_region 19 with fail
      clear hVAc0 hVAf0
      clear x1 z1 z2 y1 y2 u1 hbv hbz hby hbu hO hF1 hP1 hVA
      generalize wp.alloc (.cells #[.string (E vb)] 64) = wv at hFV hbV zz1 zz2 yy1 yy2 uu1 kz ky ku hO1 hbx ⊢
      obtain ⟨cl, hcl⟩ : ∃ l : List (Addr × Value), l = [(⟨w.heap.size + 1 + 1, 1, none⟩, .string (E c)), (⟨bz, oz + k * 2, none⟩, .bool (sg lz)), (⟨bz, oz + k * 2 + 1, none⟩, .string (E lz.natAbs))] := ⟨_, rfl⟩
      have HCL := Lib.hid hcl
      clear hcl
      have hC : CA wv cl := by
       rw [HCL.out]
       exact CA.cons hFV.lt (hFV.cell 1) (CA.cons kz zz1 (CA.cons kz zz2 (CA.nil _)))
      have hneA := fun x hx => Nat.ne_of_lt (hC x hx).1
      go_cut [18] (fun s18 wx => ZBx wv (.bool (sg pz)) (.string (E pz.natAbs)) s18 wx)
      case first =>
       clear zz1 zz2 yy1 yy2 uu1 kz ky ku hO1 hbx hFV
       go_region_held3 (fun w' => w'.cell? ⟨w.heap.size + 1 + 1, 1, none⟩ = some (.string (E c)) ∧ w'.cell? ⟨bz, oz + k * 2, none⟩ = some (.bool (sg lz)) ∧ w'.cell? ⟨bz, oz + k * 2 + 1, none⟩ = some (.string (E lz.natAbs))) ((refine CA.k3 ?_; rw [← HCL.out]; repeat (first | (with_reducible exact hCd) | (with_reducible exact hCf) | (with_reducible exact hC) | (with_reducible refine CA.drew ?_) | (with_reducible refine CA.alloc ?_ _) | (refine CA.set ?_ _ _ _ hneA) | (refine CA.set ?_ _ _ _ (fun x hx => Nat.ne_of_lt (hCf x hx).1)) | (refine CA.set ?_ _ _ _ (fun x hx => Nat.ne_of_lt (hCd x hx).1)))))
        (first | (go_at_call 36; (with_reducible refine (HFR.out _).mono ?_); rintro e wf ⟨rfl, hbf⟩; have hCf : CA wf cl := (by first | exact hC.drew.after hbf | exact (hC.alloc _).drew.after hbf | exact (hC.drew.alloc _).after hbf); (try (have hbF : Below wv.heap.size wv wf := (Below.drew (Below.refl _ _)).trans hbf)); (try (have hbF : Below wv.heap.size wv wf := bt ((b1 wv _).drew) hbf)); (try (have kA := (Blk.new wv #[.bool false, .string { data := #[] }] 53).drew.after hbf))) | (go_at_call 35; (with_reducible refine (HMU.out _).mono ?_); rintro e wd ⟨rfl, hbd⟩; have hCd : CA wd cl := (by first | exact hCf.after hbd | exact (hCf.alloc _).after hbd); (try (have hbD : Below wv.heap.size wv wd := bt hbF hbd)); (try (have hbD : Below wv.heap.size wv wd := bt (ba hbF _) hbd)); (try (have kD := kA.after hbd; have kDc0 := kD.cell 0; have kDc1 := kD.cell 1; have kDf0 := kD.free 0; have kDf1 := kD.free 1)); (try (have kE := (Blk.new wf #[.bool false, .string { data := #[] }] 53).after hbd; have kEc0 := kE.cell 0; have kEc1 := kE.cell 1; have kEf0 := kE.free 0; have kEf1 := kE.free 1))))
       all_goals
        go_wp2_with fail
        go_meet
        first
         | exact ⟨_, rfl, Blk.new _ _ _, hbD.size, ba hbD _⟩
         | exact ⟨_, rfl, (kD.set 0 _).set 1 _, Nat.le_refl _, (hbD.setCell (by simp) _).setCell (by simp) _⟩
         | exact ⟨_, rfl, (kE.set 0 _).set 1 _, hbF.size, (hbD.setCell (by have := hbF.size; simp; omega) _).setCell (by have := hbF.size; simp; omega) _⟩
      case rest =>
       clear hC hneA HCL
       obtain ⟨gx, rfl, hX, hgx, hbz9⟩ := hcut
       have HGX := Lib.hid hgx
       clear hgx
       obtain ⟨wy, hwy⟩ : ∃ wy, wy = wc := ⟨_, rfl⟩
       subst hwy
       have hFy := hFV.after hbz9
       have q1 := (hbz9.cell (p := ⟨by_, oy + k * 2, none⟩) ky).trans yy1
       have q2 := (hbz9.cell (p := ⟨by_, oy + k * 2 + 1, none⟩) ky).trans yy2
       have ky9 := Nat.lt_of_lt_of_le ky hbz9.size
       have hX0 := hX.drew
       have hF0 := hFy.drew
       have hX0l : gx < wy.drew.heap.size := hX.lt
       have hF0l : w.heap.size + 1 + 1 < wy.drew.heap.size := hFy.lt
       have q1' : wy.drew.cell? ⟨by_, oy + k * 2, none⟩ = some (.bool (sg ly)) := q1
       have q2' : wy.drew.cell? ⟨by_, oy + k * 2 + 1, none⟩ = some (.string (E ly.natAbs)) := q2
       have ky' : by_ < wy.drew.heap.size := ky9
       clear zz1 zz2 yy1 yy2 uu1 kz ky ku hFV q1 q2 ky9
       obtain ⟨hX0c0, hX0f0, hX0c1, hX0f1⟩ := hX0.x2
       obtain ⟨hF0c0, hF0f0, hF0c1, hF0f1, hF0c2, hF0f2⟩ := hF0.x3
       go_wp2_with fail
       go_cut [76] (fun s76 wc' => Blk wc' gx 53 [.bool (sg dz), .string (E dz.natAbs)] ∧ Below wv.heap.size wv wc')
       case first =>
        go_region_with (go_at_call 37; (with_reducible refine (HSU.out _).mono ?_); rintro e wd ⟨rfl, hbd⟩; have hXd := hX0.after hbd; have hXdc0 := hXd.cell 0; have hXdf0 := hXd.free 0; have hXdc1 := hXd.cell 1; have hXdf1 := hXd.free 1; have hXdl := hXd.lt; have hbD := bt hbz9 ((Below.drew (Below.refl _ _)).trans hbd))
        all_goals
         go_wp2_with fail
         go_meet
         exact ⟨(hXd.set 0 _).set 1 _, (hbD.setCell (p := ⟨gx, 0, none⟩) HGX.out _).setCell (p := ⟨gx, 1, none⟩) HGX.out _⟩
       case rest =>
       clear hX0c0 hX0f0 hX0c1 hX0f1
       clear hF0c0 hF0f0 hF0c1 hF0f1 hF0c2 hF0f2
       clear hX0 hF0 hX0l hF0l q1' q2' ky' hX hFy hbz9
       obtain ⟨hX4, hbI⟩ := hcut
       obtain ⟨wo, hwo⟩ : ∃ wx, wx = wc := ⟨_, rfl⟩
       subst hwo
       have hO9 := own_after hO1 hbI
       have hbe := bt hbx hbI
       clear hO1 hbx hbI
       have hX4l := hX4.lt
       obtain ⟨hX4c0, hX4f0, hX4c1, hX4f1⟩ := hX4.x2
       have hO8 : (wo).ownsRow w5.heap.size 53 2 u15 k (ics (LI.map zI)) := hO9
       have hbr8 := hbe
       have hsz8 := hbr8.size
       go_wp2_with (at_builtin; refine wpList_append_lies _ rfl (.tmp 86) (.tmp 88) _ rfl w5.heap.size 53 i1 _ 2 24 Tryz.underlying30 HI1.out HA1.out HB1.out HC1.out rfl (by omega) u15 k (ics (LI.map zI)) rfl (own_after hO8 (b1 _ (.cells #[.bool (sg dz), .string (E dz.natAbs)] 53))) ⟨(wo).heap.size, 0, none⟩ 1 1 [.bool (sg dz), .string (E dz.natAbs)] rfl rfl (Blk.new (wo) #[.bool (sg dz), .string (E dz.natAbs)] 53).cells (by simp [Value.oneCell']) (by omega) (by simp only [maxLen]; omega) (by omega) (by rw [World.size_alloc]; omega) ((wo).heap.size + 1) (by simp) ?_; intro ga ca' wz hown hgrow hat hlt2)
       have hOA : ZOwn wz w5.heap.size (.slice (some ⟨ga, 0, none⟩) (k + 1) ca') (LI ++ [dz]) := by rw [ZOwn, List.length_append, hLE.out, ← ics_app]; exact hown
       rw [← HST.out] at hOA
       have hbA := (ba hbr8 (.cells #[.bool (sg dz), .string (E dz.natAbs)] 53)).grown hgrow (by rw [World.size_alloc]; omega) (fun x hx => (own_lt hO8 hx).2)
       clear hown hgrow hat hlt2 hO8 hbr8
       go_wp2
       go_roundw
       case rel => exact ⟨k + 1, by omega, by go_num, hOA, hbA⟩
       case measure => simp [intOf]; omega
    ·obtain rfl : nz = k := by omega
     have HTK : Hid ((N.expL c Y Z).take nz = N.expL c Y Z) := List.take_of_length_le (by rw [NSta.expL, List.length_map, List.length_range, ← HN2.out]; exact Nat.le_refl _)
     rw [HTK.out] at hO
     have hs4 := hBW.size
     go_wp2
     go_ret2
     rw [HRES.out, HRL.out, HX.out.1, HX.out.2]
     exact ⟨_, rfl, own_mono hO hs4, hBW1⟩
 ·have HX := Lib.hid (ex_a (c := c) (Y := Y) hh0)
  obtain ⟨e6, he6⟩ : ∃ n, n = N.hldE Z := ⟨_, rfl⟩
  have HE6 := Lib.hid he6
  rw [← he6] at hh0 ⊢
  have hkb : ((e6 : Int) != 0) = true := by rw [bne_iff_ne]; omega
  clear hh0 he6
  go_wp2
  go_ret2
  rw [HRL.out, HRES.out, HX.out.1, HX.out.2, ← HE6.out]
  exact epost_err rfl hBW

end Go.Proofs.YtehoiholhkfcpaaGreat
end

section
set_option linter.unusedVariables false
set_option linter.unusedSimpArgs false
set_option maxRecDepth 100000
namespace Go.Proofs.YtehoiholhkfcpaaGreat
open Go.RowKit Go.Shelf

set_option maxHeartbeats 4000000 in
theorem rcheck6_c (N : NSta) (Z : List Int) (v1 v2 v3 v4 : Value) (w : World) (hm : NOk N) (hS : NAt w v1 v2 v3 N) (hZ : ZsAt w v4 Z) (hz : ∀ z ∈ Z, z.natAbs < 256 ^ 128) (hl : Z.length ≠ N.vars.length) (hl2 : Z.length ≤ 1000) (hc : N.chk = 0) :
  Calls Tryz.prog 87 #[.agg #[v1, v2, v3], v4] w fun e w' => e = .returned (.int .i64 6) ∧ Below w.heap.size w w' := by
 obtain ⟨a4, c4, rfl⟩ := hZ.form
 obtain ⟨nz, hnz⟩ : ∃ n, n = Z.length := ⟨_, rfl⟩
 have HNZ := Lib.hid hnz
 rw [← hnz] at hl2 hl hZ ⊢
 have HZZ := Lib.hid hz
 have HCK := Lib.hid hc
 clear hz hc hnz
 obtain ⟨a1, c1, a2, c2, a3, c3, rfl, rfl, rfl⟩ := hS.forms
 obtain ⟨n1, hn1⟩ : ∃ n, n = N.grps.length := ⟨_, rfl⟩
 obtain ⟨n2, hn2⟩ : ∃ n, n = N.vars.length := ⟨_, rfl⟩
 obtain ⟨n3, hn3⟩ : ∃ n, n = N.eqs.length := ⟨_, rfl⟩
 have HN1 := Lib.hid hn1
 have HN2 := Lib.hid hn2
 have HN3 := Lib.hid hn3
 have l1 : n1 ≤ 10 := by rw [hn1]; exact hm.ng
 have l2 : n2 ≤ 12 := by rw [hn2]; exact hm.nv
 have l3 : n3 ≤ 12 := by rw [hn3]; exact hm.ne
 have HM := Lib.hid hm
 rw [← hn2] at hl
 have hl3 : ((nz : Int) != (n2 : Int)) = true := by rw [bne_iff_ne]; omega
 rw [← hn1, ← hn2, ← hn3] at hS ⊢
 clear hm hn1 hn2 hn3 hl
 have hP := Blk.new w #[.slice a1 n1 c1, .slice a2 n2 c2, .slice a3 n3 c3] 29
 have hBW := b1 w (.cells #[.slice a1 n1 c1, .slice a2 n2 c2, .slice a3 n3 c3] 29)
 replace hS := hS.after hBW
 replace hZ := hZ.after (b1 w (.cells #[.slice a1 n1 c1, .slice a2 n2 c2, .slice a3 n3 c3] 29))
 obtain ⟨hPc0, hPf0, hPc1, hPf1, hPc2, hPf2⟩ := hP.x3
 go_enter Tryz.func87, Tryz.ntmps87
 go_wp2_with fail
 refine (rformed1_c N.s _ _ _ _ true HM.out.ssm hS HM.out.form).mono ?_
 rintro e w2 ⟨rfl, hb2⟩
 clear hPc0 hPf0 hPc1 hPf1 hPc2 hPf2
 replace hP := hP.after hb2
 replace hS := hS.after hb2
 replace hZ := hZ.after hb2
 replace hBW := bt hBW hb2
 clear hb2
 have hPl := hP.lt
 go_wp2
 go_loopw [5] (fun i wr => ∃ k : Nat, k ≤ nz ∧ i = .int .i64 k ∧ Below w2.heap.size w2 wr) (fun i _ => nz - (intOf i).toNat)
 case atStart => exact ⟨0, by omega, rfl, Below.refl _ _⟩
 case round =>
  obtain ⟨k, hk, rfl, hbr⟩ := hrel
  obtain ⟨wp, hwp⟩ : ∃ wp, wp = wr := ⟨_, rfl⟩
  subst hwp
  replace hP := hP.after hbr
  replace hS := hS.after hbr
  replace hZ := hZ.after hbr
  replace hBW := bt hBW hbr
  clear hPl
  have hPl := hP.lt
  by_cases hlt : k < nz
  ·have hkl : k < Z.length := by rw [← HNZ.out]; exact hlt
   have HZ1 := Lib.hid (HZZ.out _ (List.getElem_mem hkl))
   obtain ⟨b, o, rfl, hbl, x1, x2⟩ := hZ.at_ hkl
   generalize (Z[k]'hkl) = z at x1 x2 HZ1
   have h0k : (0 : Int) ≤ (k : Int) := by omega
   have h1k : (k : Int) < (nz : Int) := by omega
   go_wp2_with fail
   refine (rivalidI_c z _ HZ1.out).mono ?_
   rintro e w3 ⟨rfl, hb3⟩
   go_wp2
   go_roundw
   case rel => exact ⟨k + 1, by omega, by go_num, bt hbr hb3⟩
   case measure => simp [intOf]; omega
  ·clear hbr
   have HCC : Hid (Calls Tryz.prog 109 #[.agg #[.slice a1 n1 c1, .slice a2 n2 c2, .slice a3 n3 c3]] wp fun e w' => e = .returned (.int .i64 0) ∧ Below wp.heap.size wp w') := by
    have h := rrest_c N _ _ _ wp HM.out hS
    rw [HCK.out] at h
    exact h
   obtain ⟨hPc0, hPf0, hPc1, hPf1, hPc2, hPf2⟩ := hP.x3
   go_wp2_with fail
   refine HCC.out.mono ?_
   rintro e w4 ⟨rfl, hb4⟩
   clear hPc0 hPf0 hPc1 hPf1 hPc2 hPf2
   replace hP := hP.after hb4
   have hPl2 := hP.lt
   obtain ⟨hPc0, hPf0, hPc1, hPf1, hPc2, hPf2⟩ := hP.x3
   go_wp2
   go_ret
   exact ⟨rfl, bt hBW hb4⟩


set_option maxHeartbeats 1600000 in
theorem rinr_c (vb q : Nat) (z : Int) (w : World) (hb : vb < 256 ^ 128) (hq : q < 256 ^ 128) (hz : z.natAbs < 256 ^ 128) :
  Calls Tryz.prog 88 #[.agg #[.string (E vb)], .string (E q), .agg #[.bool (sg (z)), .string (E (z).natAbs)]] w fun e w' => e = .returned (.bool (blw vb z (if vb = 0 then q else vb))) ∧ Below w.heap.size w w' := by
 have hA := blk2a w #[.string (E vb)] #[.bool (sg z), .string (E z.natAbs)] 64 53
 have hB := blk2b w #[.string (E vb)] #[.bool (sg z), .string (E z.natAbs)] 64 53
 have hBW := b2 w (.cells #[.string (E vb)] 64) (.cells #[.bool (sg z), .string (E z.natAbs)] 53)
 by_cases hv : vb = 0
 ·have HC : Hid (∀ w, Calls Tryz.prog 138 #[.string (E z.natAbs), .string (E q)] w fun e w' => e = .returned (.int .i64 (cmpN z.natAbs q)) ∧ Below w.heap.size w w') := fun w => rcmp_c _ _ w hz hq
  obtain ⟨q1, hq1⟩ : ∃ q1 : Int, q1 = cmpN z.natAbs q := ⟨_, rfl⟩
  rw [← hq1] at HC
  have hzv := zE hv
  rw [if_pos hv]
  obtain ⟨s, hs⟩ : ∃ s, s = sg z := ⟨_, rfl⟩
  have HBW : Hid (blw vb z q = (decide (z.natAbs < q) && !s)) := by rw [Hid, hs, hv, blw]; rfl
  rw [HBW.out]
  rw [← hs] at hB hBW ⊢
  clear hs hv HBW
  cases s
  ·by_cases hl : z.natAbs < q
   ·have hd1 : decide (q1 < 0) = true := decide_eq_true (by rw [hq1]; exact cmp_neg _ _ hl)
    have HR : Hid ((decide (z.natAbs < q) && !false) = true) := by rw [Hid, decide_eq_true hl]; rfl
    rw [HR.out]
    clear hq1 hl hb hq hz HR
    obtain ⟨hAc0, hAf0⟩ := hA.x1
    obtain ⟨hBc0, hBf0, hBc1, hBf1⟩ := hB.x2
    go_enter Tryz.func88, Tryz.ntmps88
    go_wp2_with fail
    refine (HC.out _).mono ?_
    rintro e w2 ⟨rfl, hb2⟩
    go_wp2
    go_ret
    exact ⟨rfl, bt hBW hb2⟩
   ·have hd1 : decide (q1 < 0) = false := decide_eq_false (by rw [hq1]; exact cmp_nneg _ _ (by omega))
    have HR : Hid ((decide (z.natAbs < q) && !false) = false) := by rw [Hid, decide_eq_false hl]; rfl
    rw [HR.out]
    clear hq1 hl hb hq hz HR
    obtain ⟨hAc0, hAf0⟩ := hA.x1
    obtain ⟨hBc0, hBf0, hBc1, hBf1⟩ := hB.x2
    go_enter Tryz.func88, Tryz.ntmps88
    go_wp2_with fail
    refine (HC.out _).mono ?_
    rintro e w2 ⟨rfl, hb2⟩
    go_wp2
    go_ret
    exact ⟨rfl, bt hBW hb2⟩
  ·have HR : Hid ((decide (z.natAbs < q) && !true) = false) := by rw [Hid]; simp
   rw [HR.out]
   clear hq1 hb hq hz HR HC
   obtain ⟨hAc0, hAf0⟩ := hA.x1
   obtain ⟨hBc0, hBf0, hBc1, hBf1⟩ := hB.x2
   go_enter Tryz.func88, Tryz.ntmps88
   go_wp2
   go_ret
   exact ⟨rfl, hBW⟩
 ·have HC : Hid (∀ w, Calls Tryz.prog 138 #[.string (E z.natAbs), .string (E vb)] w fun e w' => e = .returned (.int .i64 (cmpN z.natAbs vb)) ∧ Below w.heap.size w w') := fun w => rcmp_c _ _ w hz hb
  obtain ⟨q1, hq1⟩ : ∃ q1 : Int, q1 = cmpN z.natAbs vb := ⟨_, rfl⟩
  rw [← hq1] at HC
  have hzv := nzE (Nat.pos_of_ne_zero hv)
  rw [if_neg hv]
  by_cases hl : z.natAbs < vb
  ·have hd1 : decide (q1 < 0) = true := decide_eq_true (by rw [hq1]; exact cmp_neg _ _ hl)
   have HR : Hid (blw vb z vb = true) := blw_pos hl (Nat.pos_of_ne_zero hv)
   rw [HR.out]
   clear hq1 hl hb hq hz HR hv
   obtain ⟨hAc0, hAf0⟩ := hA.x1
   obtain ⟨hBc0, hBf0, hBc1, hBf1⟩ := hB.x2
   go_enter Tryz.func88, Tryz.ntmps88
   go_wp2_with fail
   refine (HC.out _).mono ?_
   rintro e w2 ⟨rfl, hb2⟩
   go_wp2
   go_ret
   exact ⟨rfl, bt hBW hb2⟩
  ·have hd1 : decide (q1 < 0) = false := decide_eq_false (by rw [hq1]; exact cmp_nneg _ _ (by omega))
   have HR : Hid (blw vb z vb = false) := blw_ge (by omega)
   rw [HR.out]
   clear hq1 hl hb hq hz HR hv
   obtain ⟨hAc0, hAf0⟩ := hA.x1
   obtain ⟨hBc0, hBf0, hBc1, hBf1⟩ := hB.x2
   go_enter Tryz.func88, Tryz.ntmps88
   go_wp2_with fail
   refine (HC.out _).mono ?_
   rintro e w2 ⟨rfl, hb2⟩
   go_wp2
   go_ret
   exact ⟨rfl, bt hBW hb2⟩

/-- the mask modulo the order -/
theorem exp_mod (q c : Nat) (y z : Int) (hy0 : 0 ≤ y) (hy : y.natAbs < q) (hz0 : 0 ≤ z) : ((y - (c : Int) * z) % (q : Int)).toNat = subM y.natAbs (c * z.natAbs % q) q := by
 obtain ⟨y, rfl⟩ := Int.eq_ofNat_of_zero_le hy0
 obtain ⟨z, rfl⟩ := Int.eq_ofNat_of_zero_le hz0
 simp only [Int.natAbs_natCast] at hy ⊢
 have hr : c * z % q < q := Nat.mod_lt _ (by omega)
 unfold subM
 rw [Nat.mod_eq_of_lt hy, Nat.mod_mod]
 have hd := Nat.div_add_mod (c * z) q
 generalize c * z % q = r at hr hd ⊢
 generalize c * z / q = d at hd
 have e : (y : Int) - (c : Int) * (z : Int) = ((y + q - r : Nat) : Int) + (q : Int) * (-1 - (d : Int)) := by
  rw [← Int.natCast_mul, ← hd, Int.natCast_add, Int.natCast_mul, Int.natCast_sub (by omega), Int.natCast_add, Int.mul_sub, Int.mul_neg, Int.mul_one]
  omega
 rw [e, Int.add_mul_emod_self_left, ← Int.natCast_emod, Int.toNat_natCast]

set_option maxHeartbeats 8000000 in
theorem rholds_c (N : NSta) (Z : List Int) (v1 v2 v3 v4 : Value) (w : World) (hm : NOk N) (hS : NAt w v1 v2 v3 N) (hZ : ZsAt w v4 Z) (hz : ∀ z ∈ Z, z.natAbs < 256 ^ 64) (hzl : Z.length ≤ 1000) (hc : N.chk = 0) :
  Calls Tryz.prog 41 #[.agg #[v1, v2, v3], v4] w fun e w' => e = .returned (.tuple #[.bool (N.hldB Z), .int .i64 (N.hldE Z : Nat)]) ∧ Below w.heap.size w w' := by
 by_cases hl : Z.length = N.vars.length
 ·have HE0 : N.hldE Z = 0 := if_neg (fun h => h hl)
  rw [HE0]
  clear HE0
  obtain ⟨r, hr⟩ : ∃ r : Bool, r = N.hldB Z := ⟨_, rfl⟩
  have HRES := Lib.hid hr
  rw [← hr]
  clear hr
  have HRD : Hid (∀ w', Below w.heap.size w w' → Calls Tryz.prog 87 #[.agg #[v1, v2, v3], v4] w' fun e w'' => e = .returned (.int .i64 0) ∧ Below w'.heap.size w' w'') := fun w' hb => rcheck15_c N Z v1 v2 v3 v4 w' hm (hS.after hb) (hZ.after hb) (fun z h => lt64 (hz z h)) hl hc
  have HOR : Hid (∀ w', Below w.heap.size w w' → Calls Tryz.prog 89 #[.agg #[v1, v2, v3]] w' fun e w'' => e = .returned (.string (E N.ord)) ∧ Below w'.heap.size w' w'') := fun w' hb => rorder15_c N v1 v2 v3 w' hm (hS.after hb)
  have HIM : Hid (∀ w', Below w.heap.size w w' → Calls Tryz.prog 90 #[.agg #[v1, v2, v3], v4] w' (LPost w' (N.imgs Z))) := fun w' hb' => rimages_c N Z v1 v2 v3 v4 w' hm (hS.after hb') (hZ.after hb') hz hl hc
  have HBD : Hid (N.hldB Z = (ra N.vars.length (inJ N Z) && decide (N.imgs Z = N.eqs.map (·.tgt)))) := by rw [Hid, NSta.hldB, decide_eq_true hl, Bool.true_and]
  have HQ := Lib.hid (ord_lt hm)
  have HVS := Lib.hid hm.v
  have HZZ := Lib.hid hz
  obtain ⟨qo, hqo⟩ : ∃ q, q = N.ord := ⟨_, rfl⟩
  have HQO := Lib.hid hqo
  rw [← hqo] at HOR HQ
  obtain ⟨a4, c4, rfl⟩ := hZ.form
  rw [hl] at hZ HRD HIM ⊢
  have HL := Lib.hid hl
  obtain ⟨a1, c1, a2, c2, a3, c3, rfl, rfl, rfl⟩ := hS.forms
  obtain ⟨n1, hn1⟩ : ∃ n, n = N.grps.length := ⟨_, rfl⟩
  obtain ⟨n2, hn2⟩ : ∃ n, n = N.vars.length := ⟨_, rfl⟩
  obtain ⟨n3, hn3⟩ : ∃ n, n = N.eqs.length := ⟨_, rfl⟩
  have HN2 := Lib.hid hn2
  have HN3 := Lib.hid hn3
  have l2 : n2 ≤ 12 := by rw [hn2]; exact hm.nv
  have l3 : n3 ≤ 12 := by rw [hn3]; exact hm.ne
  rw [← hn1, ← hn2, ← hn3] at hS HRD HOR HIM ⊢
  rw [← hn2] at hZ HBD
  clear hm hn1 hn2 hn3 hz hl hzl hc hqo
  have hP := Blk.new w #[.slice a1 n1 c1, .slice a2 n2 c2, .slice a3 n3 c3] 29
  have hBW := b1 w (.cells #[.slice a1 n1 c1, .slice a2 n2 c2, .slice a3 n3 c3] 29)
  replace hS := hS.after hBW
  replace hZ := hZ.after hBW
  obtain ⟨hPc0, hPf0, hPc1, hPf1, hPc2, hPf2⟩ := hP.x3
  go_enter Tryz.func41, Tryz.ntmps41
  go_wp2_with fail
  refine (HRD.out _ hBW).mono ?_
  rintro e w2 ⟨rfl, hb2⟩
  clear hPc0 hPf0 hPc1 hPf1 hPc2 hPf2
  replace hP := hP.after hb2
  replace hS := hS.after hb2
  replace hZ := hZ.after hb2
  replace hBW := bt hBW hb2
  clear hb2 HRD
  go_wp2
  go_loopw [7] (fun i wr => ∃ k : Nat, k ≤ n2 ∧ i = .int .i64 k ∧ Hid (ra k (inJ N Z) = true) ∧ Below w2.heap.size w2 wr) (fun i _ => n2 - (intOf i).toNat)
  case atStart => exact ⟨0, by omega, rfl, rfl, Below.refl _ _⟩
  case round =>
   obtain ⟨k, hk, rfl, HAL, hbr⟩ := hrel
   obtain ⟨wp, hwp⟩ : ∃ wp, wp = wr := ⟨_, rfl⟩
   subst hwp
   have hBW1 := bt hBW hbr
   have hP1 := hP.after hbr
   by_cases hlt : k < n2
   ·have hkl : k < N.vars.length := by rw [← HN2.out]; exact hlt
    have hkZ : k < Z.length := by rw [HL.out]; exact hkl
    obtain ⟨bv, ov, rfl, hbv, x1⟩ := (hS.after hbr).vat hkl
    obtain ⟨bz, oz, rfl, hbz, z1, z2⟩ := (hZ.after hbr).at_ hkZ
    have HZL := Lib.hid (HZZ.out _ (List.getElem_mem hkZ))
    have HVL := Lib.hid (HVS.out _ (List.getElem_mem hkl))
    have HIJ := Lib.hid (inJ_at N Z k hkl hkZ)
    rw [← HQO.out] at HIJ
    have HRS : Hid (ra (k + 1) (inJ N Z) = inJ N Z k) := by rw [Hid, ra_succ, HAL.out]; rfl
    have HRB : Hid (inJ N Z k = false → ra n2 (inJ N Z) = false) := fun h => by rw [HN2.out]; exact ra_false hkl h
    have HOR9 : Hid (∀ w', Below wp.heap.size wp w' → Calls Tryz.prog 89 #[.agg #[.slice a1 n1 c1, .slice (some ⟨bv, ov, none⟩) n2 c2, .slice a3 n3 c3]] w' fun e w'' => e = .returned (.string (E qo)) ∧ Below w'.heap.size w' w'') := fun w' hb => HOR.out w' (bt hBW1 hb)
    have HII : Hid (∀ w, Calls Tryz.prog 88 #[.agg #[.string (E (N.vars[k]'hkl))], .string (E qo), .agg #[.bool (sg (Z[k]'hkZ)), .string (E (Z[k]'hkZ).natAbs)]] w fun e w' => e = .returned (.bool (inJ N Z k)) ∧ Below w.heap.size w w') := fun w => by
     rw [HIJ.out]; exact rinr_c _ _ _ w (Nat.lt_of_lt_of_le HVL.out (Nat.pow_le_pow_right (by decide) (by decide))) (lt128 HQ.out) (lt64 HZL.out)
    clear HIJ
    generalize (N.vars[k]'hkl) = vb at x1 HVL HII
    generalize (Z[k]'hkZ) = lz at z1 z2 HZL HII
    generalize inJ N Z k = bl at HRS HRB HII
    have h0k : (0 : Int) ≤ (k : Int) := by omega
    have h1k : (k : Int) < (n2 : Int) := by omega
    have g1 := gcl (a := ⟨bv, ov + k, none⟩) hbv x1
    have g2 := gcl (a := ⟨bz, oz + k * 2, none⟩) hbz z1
    have g3 := gcl (a := ⟨bz, oz + k * 2 + 1, none⟩) hbz z2
    have hP1l := hP1.lt
    clear x1 z1 z2 hbv hbz
    obtain ⟨hP1c0, hP1f0, hP1c1, hP1f1, hP1c2, hP1f2⟩ := hP1.x3
    have hP1g0 := hP1.gcell 0
    have hP1g1 := hP1.gcell 1
    have hP1g2 := hP1.gcell 2
    go_wp2_with fail
    refine wp_region_gw (by kernel_rfl) (by kernel_rfl) ?_
    repeat (go_big_quiet_step (first | (go_at_call 89; exact gw_of (HOR9.out _ (gw_below _))) | (go_at_call 88; exact gw_of (HII.out _))))
    refine wpQuiet_nil ?_
    rintro w9 ⟨xw9, rfl⟩
    have hb9 := gw_below xw9
    generalize gw xw9 = w9 at hb9
    clear hP1c0 hP1f0 hP1c1 hP1f1 hP1c2 hP1f2
    clear hP1g0 hP1g1 hP1g2
    clear g1 g2 g3 hP1l
    cases bl
    ·have HF : Hid (r = false) := by rw [Hid, HRES.out, HBD.out, HRB.out rfl]; rfl
     go_wp2
     go_ret2
     rw [HF.out]
     exact ⟨rfl, bt hBW1 hb9⟩
    ·have HX : Hid (ra (k + 1) (inJ N Z) = true) := HRS.out
     go_wp2
     go_roundw
     case rel => exact ⟨k + 1, by omega, by go_num, HX, bt hbr hb9⟩
     case measure => simp [intOf]; omega
   ·obtain rfl : k = n2 := by omega
    replace hS := hS.after hbr
    rw [HAL.out] at HBD
    clear hP hZ HAL HZZ HVS hbr
    have HIMP := Lib.hid (HIM.out _ hBW1)
    have hPl := hP1.lt
    obtain ⟨hP1c0, hP1f0, hP1c1, hP1f1, hP1c2, hP1f2⟩ := hP1.x3
    go_wp2_with fail
    refine HIMP.out.mono ?_
    rintro e w8 ⟨iv, rfl, hIO, hb8⟩
    clear hP1c0 hP1f0 hP1c1 hP1f1 hP1c2 hP1f2
    replace hP1 := hP1.after hb8
    replace hS := hS.after hb8
    replace hBW1 := bt hBW1 hb8
    clear hb8 hPl HIM HIMP
    have hIs := hIO.ss
    clear hIO
    obtain ⟨a7, c7, rfl⟩ := RAt.form hIs
    have HIL : Hid (((N.imgs Z).map E).length = n3) := by rw [Hid, List.length_map, NSta.imgs, List.length_map, HN3.out]
    rw [HIL.out] at hIs ⊢
    have hPl := hP1.lt
    go_wp2
    go_loopw [10] (fun i wr => ∃ k : Nat, k ≤ n3 ∧ i = .int .i64 k ∧ Hid (∀ j, j < k → (N.imgs Z)[j]? = (N.eqs.map (·.tgt))[j]?) ∧ Below w8.heap.size w8 wr) (fun i _ => n3 - (intOf i).toNat)
    case atStart => exact ⟨0, by omega, rfl, fun j h => absurd h (Nat.not_lt_zero _), Below.refl _ _⟩
    case round =>
     obtain ⟨j, hj, rfl, HA, hbs⟩ := hrel
     obtain ⟨wu, hwu⟩ : ∃ wp, wp = wr := ⟨_, rfl⟩
     subst hwu
     have hBW2 := bt hBW1 hbs
     have hP2 := hP1.after hbs
     replace hIs := SsAt.after hIs hbs
     by_cases hlt2 : j < n3
     ·have hkl : j < N.eqs.length := by rw [← HN3.out]; exact hlt2
      have hki : j < ((N.imgs Z).map E).length := by rw [HIL.out]; exact hlt2
      have hS1 := hS.after hbs
      have HE1 : Hid ((N.imgs Z)[j]? = some (imgV N Z (N.eqs[j]'hkl))) := by rw [Hid, NSta.imgs, List.getElem?_map, List.getElem?_eq_getElem hkl]; rfl
      have HE2 : Hid ((N.eqs.map (·.tgt))[j]? = some (N.eqs[j]'hkl).tgt) := by rw [Hid, List.getElem?_map, List.getElem?_eq_getElem hkl]; rfl
      obtain ⟨b, o, tv, rfl, hbl, x1, x2, x3, hTs⟩ := NAt.eat hS1 hkl
      obtain ⟨b7, o7, rfl, hbl7, i1'⟩ := SsAt.at_ hIs hki
      rw [show ((N.imgs Z).map E)[j] = E (imgV N Z (N.eqs[j]'hkl)) by simp [NSta.imgs]] at i1'
      generalize imgV N Z (N.eqs[j]'hkl) = iq at i1' HE1
      generalize (N.eqs[j]'hkl).tgt = qt at x2 HE2
      have h0k : (0 : Int) ≤ (j : Int) := by omega
      have h1k : (j : Int) < (n3 : Int) := by omega
      have g1 := gcl (a := ⟨b7, o7 + j, none⟩) hbl7 i1'
      have g2 := gcl (a := ⟨b, o + j * 3 + 1, none⟩) hbl x2
      have hPl2 := hP2.lt
      clear hTs hS1 x1 x2 x3 i1'
      by_cases hyi : iq = qt
      ·have h1 := eqT hyi
       have h2 := eqE hyi
       have HX : Hid (∀ i, i < j + 1 → (N.imgs Z)[i]? = (N.eqs.map (·.tgt))[i]?) := fun i hi => by
        by_cases e : i = j
        ·rw [e, HE1.out, HE2.out, hyi]
        ·exact HA.out i (by omega)
       clear hyi
       obtain ⟨hP2c0, hP2f0, hP2c1, hP2f1, hP2c2, hP2f2⟩ := hP2.x3
       have hP2g0 := hP2.gcell 0
       have hP2g1 := hP2.gcell 1
       have hP2g2 := hP2.gcell 2
       go_wp2_with fail
       refine wp_region_gw (by kernel_rfl) (by kernel_rfl) ?_
       repeat (go_big_quiet_step (first | (fail)))
       refine wpQuiet_nil ?_
       rintro w9 ⟨xw9, rfl⟩
       have hb9 := gw_below xw9
       generalize gw xw9 = w9 at hb9
       go_wp2
       go_roundw
       case rel => exact ⟨j + 1, by omega, by go_num, HX, bt hbs hb9⟩
       case measure => simp [intOf]; omega
      ·have h1 := eqF hyi
       have h2 := neE hyi
       have HF : Hid (r = false) := by rw [Hid, HRES.out, HBD.out, Bool.true_and]; exact decide_eq_false (fun e => hyi (by have h3 := HE1.out; rw [e, HE2.out] at h3; exact (Option.some.inj h3).symm))
       clear hyi
       obtain ⟨hP2c0, hP2f0, hP2c1, hP2f1, hP2c2, hP2f2⟩ := hP2.x3
       have hP2g0 := hP2.gcell 0
       have hP2g1 := hP2.gcell 1
       have hP2g2 := hP2.gcell 2
       go_wp2_with fail
       refine wp_region_gw (by kernel_rfl) (by kernel_rfl) ?_
       repeat (go_big_quiet_step (first | (fail)))
       refine wpQuiet_nil ?_
       rintro w9 ⟨xw9, rfl⟩
       have hb9 := gw_below xw9
       generalize gw xw9 = w9 at hb9
       go_wp2
       go_ret2
       rw [HF.out]
       exact ⟨rfl, bt hBW2 hb9⟩
     ·have HF : Hid (r = true) := by
       rw [Hid, HRES.out, HBD.out, Bool.true_and]
       refine decide_eq_true (List.ext_getElem? fun i => ?_)
       by_cases hi : i < j
       ·exact HA.out i hi
       ·rw [List.getElem?_eq_none (by rw [NSta.imgs, List.length_map, ← HN3.out]; omega), List.getElem?_eq_none (by rw [List.length_map, ← HN3.out]; omega)]
      go_wp2
      go_ret2
      rw [HF.out]
      exact ⟨rfl, hBW2⟩
 ·have HE0 : N.hldE Z = 6 := if_pos hl
  have HB0 : N.hldB Z = false := by unfold NSta.hldB; rw [decide_eq_false hl]; rfl
  rw [HE0, HB0]
  clear HE0 HB0
  have hP := Blk.new w #[v1, v2, v3] 29
  have hBW := b1 w (.cells #[v1, v2, v3] 29)
  have HRD : Hid (∀ w', Below w.heap.size w w' → Calls Tryz.prog 87 #[.agg #[v1, v2, v3], v4] w' fun e w'' => e = .returned (.int .i64 6) ∧ Below w'.heap.size w' w'') := fun w' hb => rcheck6_c N Z v1 v2 v3 v4 w' hm (hS.after hb) (hZ.after hb) (fun z h => lt64 (hz z h)) hl hzl hc
  clear hm hS hZ hz hl hzl hc
  obtain ⟨hPc0, hPf0, hPc1, hPf1, hPc2, hPf2⟩ := hP.x3
  go_enter Tryz.func41, Tryz.ntmps41
  go_wp2_with fail
  refine (HRD.out _ hBW).mono ?_
  rintro e w2 ⟨rfl, hb2⟩
  go_wp2
  go_ret2
  exact ⟨rfl, bt hBW hb2⟩

end Go.Proofs.YtehoiholhkfcpaaGreat
end

section
set_option linter.unusedVariables false
set_option linter.unusedSimpArgs false
set_option maxRecDepth 100000
namespace Go.Proofs.YtehoiholhkfcpaaGreat
open Go.RowKit Go.Shelf

set_option maxHeartbeats 1600000 in
theorem rexp_err (C K : ByteArray) (v1 v2 v3 v4 f ch rs : Value) (k : Nat) (w : World) (hk : k ≠ 0)
  (hch : ∀ w', Below w.heap.size w w' → Calls Tryz.prog 26 #[.agg #[.string C, .string K], .agg #[v1, v2, v3]] w' fun e w'' => e = .returned (.tuple #[.slice none 0 0, .slice none 0 0, .int .i64 k]) ∧ Below w'.heap.size w' w'') :
  Calls Tryz.prog 13 #[.agg #[.string C, .string K], .agg #[v1, v2, v3], v4, .agg #[f, ch, rs]] w (EPost w k []) := by
 have HCH := Lib.hid hch
 have hkb : ((k : Int) != 0) = true := by rw [bne_iff_ne]; omega
 have hR := blk3a w #[.string C, .string K] #[v1, v2, v3] #[f, ch, rs] 24 29 45
 have hP := blk3b w #[.string C, .string K] #[v1, v2, v3] #[f, ch, rs] 24 29 45
 have hF := blk3c w #[.string C, .string K] #[v1, v2, v3] #[f, ch, rs] 24 29 45
 have hBW := b3 w (.cells #[.string C, .string K] 24) (.cells #[v1, v2, v3] 29) (.cells #[f, ch, rs] 45)
 clear hch hk
 obtain ⟨hRc0, hRf0, hRc1, hRf1⟩ := hR.x2
 obtain ⟨hPc0, hPf0, hPc1, hPf1, hPc2, hPf2⟩ := hP.x3
 go_enter Tryz.func13, Tryz.ntmps13
 go_wp2_with fail
 refine (HCH.out _ hBW).mono ?_
 rintro e w2 ⟨rfl, hb2⟩
 go_wp2
 go_ret2
 exact epost_err rfl (bt hBW hb2)

set_option maxHeartbeats 1600000 in
theorem rexp_form (C K : ByteArray) (l : List (Bool × ByteArray)) (L : List (Nat × Nat)) (v1 v2 v3 v4 f ch rs : Value) (w : World) (hn : l.length ≤ 1000) (hs : ∀ x ∈ l, x.2.size ≤ 1000) (hR : IsAt w v4 l) (hf : ivsB l = false)
  (hch : ∀ w', Below w.heap.size w w' → Calls Tryz.prog 26 #[.agg #[.string C, .string K], .agg #[v1, v2, v3]] w' (B2Post w' L)) :
  Calls Tryz.prog 13 #[.agg #[.string C, .string K], .agg #[v1, v2, v3], v4, .agg #[f, ch, rs]] w (EPost w 3 []) := by
 have HCH := Lib.hid hch
 have HI : Hid (∀ w', Below w.heap.size w w' → Calls Tryz.prog 28 #[v4] w' fun e w'' => e = .returned (.bool false) ∧ Below w'.heap.size w' w'') := fun w' hb => by rw [← hf]; exact forms_c l v4 w' hn hs (IsAt.after hR hb)
 clear hn hs hR hch hf
 have hR := blk3a w #[.string C, .string K] #[v1, v2, v3] #[f, ch, rs] 24 29 45
 have hP := blk3b w #[.string C, .string K] #[v1, v2, v3] #[f, ch, rs] 24 29 45
 have hF := blk3c w #[.string C, .string K] #[v1, v2, v3] #[f, ch, rs] 24 29 45
 have hBW := b3 w (.cells #[.string C, .string K] 24) (.cells #[v1, v2, v3] 29) (.cells #[f, ch, rs] 45)
 obtain ⟨hRc0, hRf0, hRc1, hRf1⟩ := hR.x2
 obtain ⟨hPc0, hPf0, hPc1, hPf1, hPc2, hPf2⟩ := hP.x3
 go_enter Tryz.func13, Tryz.ntmps13
 go_wp2_with fail
 refine (HCH.out _ hBW).mono ?_
 rintro e w2 ⟨mv, uv, rfl, hMO, hUO, hb2⟩
 clear hRc0 hRf0 hRc1 hRf1
 clear hPc0 hPf0 hPc1 hPf1 hPc2 hPf2
 clear hMO hUO
 replace hBW := bt hBW hb2
 clear hb2
 go_wp2_with fail
 refine (HI.out _ hBW).mono ?_
 rintro e w3 ⟨rfl, hb3⟩
 go_wp2
 go_ret2
 exact epost_err rfl (bt hBW hb3)

set_option maxHeartbeats 1600000 in
theorem rexp_ver (C K : ByteArray) (l : List (Bool × ByteArray)) (L : List (Nat × Nat)) (v1 v2 v3 v4 f ch rs : Value) (k : Nat) (w : World) (hk : k ≠ 0) (hn : l.length ≤ 1000) (hs : ∀ x ∈ l, x.2.size ≤ 1000) (hR : IsAt w v4 l) (hf : ivsB l = true)
  (hch : ∀ w', Below w.heap.size w w' → Calls Tryz.prog 26 #[.agg #[.string C, .string K], .agg #[v1, v2, v3]] w' (B2Post w' L))
  (hv : ∀ w', Below w.heap.size w w' → Calls Tryz.prog 40 #[.agg #[.string C, .string K], .agg #[v1, v2, v3], .agg #[f, ch, rs]] w' fun e w'' => e = .returned (.int .i64 k) ∧ Below w'.heap.size w' w'') :
  Calls Tryz.prog 13 #[.agg #[.string C, .string K], .agg #[v1, v2, v3], v4, .agg #[f, ch, rs]] w (EPost w k []) := by
 have HCH := Lib.hid hch
 have HV := Lib.hid hv
 have hkb : ((k : Int) != 0) = true := by rw [bne_iff_ne]; omega
 have HI : Hid (∀ w', Below w.heap.size w w' → Calls Tryz.prog 28 #[v4] w' fun e w'' => e = .returned (.bool true) ∧ Below w'.heap.size w' w'') := fun w' hb => by rw [← hf]; exact forms_c l v4 w' hn hs (IsAt.after hR hb)
 clear hn hs hR hch hf hv hk
 have hR := blk3a w #[.string C, .string K] #[v1, v2, v3] #[f, ch, rs] 24 29 45
 have hP := blk3b w #[.string C, .string K] #[v1, v2, v3] #[f, ch, rs] 24 29 45
 have hF := blk3c w #[.string C, .string K] #[v1, v2, v3] #[f, ch, rs] 24 29 45
 have hBW := b3 w (.cells #[.string C, .string K] 24) (.cells #[v1, v2, v3] 29) (.cells #[f, ch, rs] 45)
 obtain ⟨hRc0, hRf0, hRc1, hRf1⟩ := hR.x2
 obtain ⟨hPc0, hPf0, hPc1, hPf1, hPc2, hPf2⟩ := hP.x3
 go_enter Tryz.func13, Tryz.ntmps13
 go_wp2_with fail
 refine (HCH.out _ hBW).mono ?_
 rintro e w2 ⟨mv, uv, rfl, hMO, hUO, hb2⟩
 clear hRc0 hRf0 hRc1 hRf1
 clear hPc0 hPf0 hPc1 hPf1 hPc2 hPf2
 clear hMO hUO
 replace hBW := bt hBW hb2
 replace hR := hR.after hb2
 replace hP := hP.after hb2
 replace hF := hF.after hb2
 clear hb2
 go_wp2_with fail
 refine (HI.out _ hBW).mono ?_
 rintro e w3 ⟨rfl, hb3⟩
 replace hBW := bt hBW hb3
 replace hR := hR.after hb3
 replace hP := hP.after hb3
 replace hF := hF.after hb3
 clear hb3
 obtain ⟨hRc0, hRf0, hRc1, hRf1⟩ := hR.x2
 obtain ⟨hPc0, hPf0, hPc1, hPf1, hPc2, hPf2⟩ := hP.x3
 obtain ⟨hFc0, hFf0, hFc1, hFf1, hFc2, hFf2⟩ := hF.x3
 go_wp2_with fail
 refine (HV.out _ hBW).mono ?_
 rintro e w4 ⟨rfl, hb4⟩
 clear hRc0 hRf0 hRc1 hRf1
 clear hPc0 hPf0 hPc1 hPf1 hPc2 hPf2
 clear hFc0 hFf0 hFc1 hFf1 hFc2 hFf2
 go_wp2
 go_ret2
 exact epost_err rfl (bt hBW hb4)

set_option maxHeartbeats 8000000 in
theorem rexp_num (N : NSta) (C K c : Nat) (Y Z : List Int) (v1 v2 v3 v4 f rs : Value) (w : World) (hC : C < 256 ^ 8) (hK : K < 256 ^ 8) (hm : NOk N) (hS : NAt w v1 v2 v3 N) (h0 : N.chk = 0) (hZ : ZsAt w v4 Z) (hz : ∀ z ∈ Z, z.natAbs < 256 ^ 63) (hzl : Z.length ≤ 1000)
  (hc8 : c < 256 ^ 8) (hY : ZsAt w rs Y) (hyl : Y.length = N.vars.length) (hy : ∀ y ∈ Y, y.natAbs < 256 ^ 64) (hyq : ∀ (j : Nat) (h : j < N.vars.length) (h2 : j < Y.length), N.vars[j] = 0 → 0 ≤ Y[j] ∧ Y[j].natAbs < N.ord)
  (hch : ∀ w', Below w.heap.size w w' → Calls Tryz.prog 26 #[.agg #[.string (E C), .string (E K)], .agg #[v1, v2, v3]] w' (B2Post w' (N.lims C K)))
  (hv : ∀ w', Below w.heap.size w w' → Calls Tryz.prog 40 #[.agg #[.string (E C), .string (E K)], .agg #[v1, v2, v3], .agg #[f, .string (E c), rs]] w' fun e w'' => e = .returned (.int .i64 0) ∧ Below w'.heap.size w' w'') :
  Calls Tryz.prog 13 #[.agg #[.string (E C), .string (E K)], .agg #[v1, v2, v3], v4, .agg #[f, .string (E c), rs]] w (EPost w (N.exE Z) (N.exL c Y Z)) := by
 obtain ⟨i1, hi1, hz10, hz11, hz12⟩ := info_parts info_Int
 have HI1 := Lib.hid hi1
 have HA1 := Lib.hid hz10
 have HB1 := Lib.hid hz11
 have HC1 := Lib.hid hz12
 clear hi1 hz10 hz11 hz12
 obtain ⟨r, hr⟩ : ∃ r : Nat, r = N.exE Z := ⟨_, rfl⟩
 obtain ⟨rl, hrl⟩ : ∃ r, r = N.exL c Y Z := ⟨_, rfl⟩
 have HRES := Lib.hid hr
 have HRL := Lib.hid hrl
 rw [← hr, ← hrl]
 clear hr hrl
 have hz64 : ∀ z ∈ Z, z.natAbs < 256 ^ 64 := fun z h => Nat.lt_of_lt_of_le (hz z h) (Nat.pow_le_pow_right (by decide) (by decide))
 have HCH := Lib.hid hch
 have HV := Lib.hid hv
 have HIN : Hid (∀ w', Below w.heap.size w w' → Calls Tryz.prog 28 #[v4] w' fun e w'' => e = .returned (.bool true) ∧ Below w'.heap.size w' w'') := fun w' hb => by
  have h := forms_c (Z.map zI) v4 w' (by simpa using hzl) (by
   intro x hx
   obtain ⟨z, hz1, rfl⟩ := List.mem_map.1 hx
   have := sz z.natAbs (lt64 (hz64 z hz1))
   simp only [zI]; omega) (hZ.after hb)
  rwa [sints_num Z (fun z hz1 => lt64 (hz64 z hz1))] at h
 have HHO : Hid (∀ w', Below w.heap.size w w' → Calls Tryz.prog 41 #[.agg #[v1, v2, v3], v4] w' fun e w'' => e = .returned (.tuple #[.bool (N.hldB Z), .int .i64 (N.hldE Z : Nat)]) ∧ Below w'.heap.size w' w'') := fun w' hb => rholds_c N Z v1 v2 v3 v4 w' hm (hS.after hb) (hZ.after hb) hz64 hzl h0
 have HZZ := Lib.hid hz
 have HYY := Lib.hid hy
 have HYQ := Lib.hid hyq
 have HC8 := Lib.hid hc8
 have HQL := Lib.hid (ord_lt hm)
 obtain ⟨a4, c4, rfl⟩ := hZ.form
 obtain ⟨a5, c5, rfl⟩ := hY.form
 obtain ⟨nz, hnz⟩ : ∃ n, n = Z.length := ⟨_, rfl⟩
 have HNZ := Lib.hid hnz
 rw [← hnz] at hZ hzl HIN HHO ⊢
 have HYL := Lib.hid hyl
 rw [hyl] at hY HV ⊢
 obtain ⟨a1, c1, a2, c2, a3, c3, rfl, rfl, rfl⟩ := hS.forms
 obtain ⟨n1, hn1⟩ : ∃ n, n = N.grps.length := ⟨_, rfl⟩
 obtain ⟨n2, hn2⟩ : ∃ n, n = N.vars.length := ⟨_, rfl⟩
 obtain ⟨n3, hn3⟩ : ∃ n, n = N.eqs.length := ⟨_, rfl⟩
 have HN2 := Lib.hid hn2
 have l2 : n2 ≤ 12 := by rw [hn2]; exact hm.nv
 rw [← hn1, ← hn2, ← hn3] at hS HCH HHO HV ⊢
 rw [← hn2] at hY
 clear hm hn1 hn2 hn3 hnz hC hK h0 hz hz64 hch hv hy hyq hyl hc8
 have hR := blk3a w #[.string (E C), .string (E K)] #[.slice a1 n1 c1, .slice a2 n2 c2, .slice a3 n3 c3] #[f, .string (E c), .slice a5 n2 c5] 24 29 45
 have hP := blk3b w #[.string (E C), .string (E K)] #[.slice a1 n1 c1, .slice a2 n2 c2, .slice a3 n3 c3] #[f, .string (E c), .slice a5 n2 c5] 24 29 45
 have hF := blk3c w #[.string (E C), .string (E K)] #[.slice a1 n1 c1, .slice a2 n2 c2, .slice a3 n3 c3] #[f, .string (E c), .slice a5 n2 c5] 24 29 45
 have hBW := b3 w (.cells #[.string (E C), .string (E K)] 24) (.cells #[.slice a1 n1 c1, .slice a2 n2 c2, .slice a3 n3 c3] 29) (.cells #[f, .string (E c), .slice a5 n2 c5] 45)
 replace hS := hS.after hBW
 replace hZ := hZ.after hBW
 replace hY := hY.after hBW
 obtain ⟨hRc0, hRf0, hRc1, hRf1⟩ := hR.x2
 obtain ⟨hPc0, hPf0, hPc1, hPf1, hPc2, hPf2⟩ := hP.x3
 go_enter Tryz.func13, Tryz.ntmps13
 go_wp2_with fail
 refine (HCH.out _ hBW).mono ?_
 rintro e w2 ⟨mv, uv, rfl, hMO, hUO, hb2⟩
 clear hRc0 hRf0 hRc1 hRf1
 clear hPc0 hPf0 hPc1 hPf1 hPc2 hPf2
 have hUs := hMO.ss
 clear hMO hUO
 obtain ⟨a6, c6, rfl⟩ := RAt.form hUs
 have HUL : Hid ((((N.lims C K).map (·.1)).map E).length = n2) := by rw [Hid, List.length_map, List.length_map, NSta.lims, List.length_map, HN2.out]
 rw [HUL.out] at hUs ⊢
 replace hR := hR.after hb2
 replace hP := hP.after hb2
 replace hF := hF.after hb2
 replace hS := hS.after hb2
 replace hZ := hZ.after hb2
 replace hY := hY.after hb2
 replace hBW := bt hBW hb2
 clear hb2
 go_wp2_with fail
 refine (HIN.out _ hBW).mono ?_
 rintro e w3 ⟨rfl, hb3⟩
 replace hUs := SsAt.after hUs hb3
 replace hR := hR.after hb3
 replace hP := hP.after hb3
 replace hF := hF.after hb3
 replace hS := hS.after hb3
 replace hZ := hZ.after hb3
 replace hY := hY.after hb3
 replace hBW := bt hBW hb3
 clear hb3
 clear HIN
 obtain ⟨hRc0, hRf0, hRc1, hRf1⟩ := hR.x2
 obtain ⟨hPc0, hPf0, hPc1, hPf1, hPc2, hPf2⟩ := hP.x3
 obtain ⟨hFc0, hFf0, hFc1, hFf1, hFc2, hFf2⟩ := hF.x3
 go_wp2_with fail
 refine (HV.out _ hBW).mono ?_
 rintro e w4 ⟨rfl, hb4⟩
 clear hRc0 hRf0 hRc1 hRf1
 clear hPc0 hPf0 hPc1 hPf1 hPc2 hPf2
 clear hFc0 hFf0 hFc1 hFf1 hFc2 hFf2
 replace hUs := SsAt.after hUs hb4
 replace hR := hR.after hb4
 replace hP := hP.after hb4
 replace hF := hF.after hb4
 replace hS := hS.after hb4
 replace hZ := hZ.after hb4
 replace hY := hY.after hb4
 replace hBW := bt hBW hb4
 clear hb4
 clear HV
 obtain ⟨hPc0, hPf0, hPc1, hPf1, hPc2, hPf2⟩ := hP.x3
 go_wp2_with fail
 refine (HHO.out _ hBW).mono ?_
 rintro e w5 ⟨rfl, hb5⟩
 clear hPc0 hPf0 hPc1 hPf1 hPc2 hPf2
 replace hUs := SsAt.after hUs hb5
 replace hR := hR.after hb5
 replace hP := hP.after hb5
 replace hF := hF.after hb5
 replace hS := hS.after hb5
 replace hZ := hZ.after hb5
 replace hY := hY.after hb5
 replace hBW := bt hBW hb5
 clear hb5
 clear HHO hR
 by_cases hh0 : N.hldE Z = 0
 ·cases hhb : N.hldB Z
  ·have HX := Lib.hid (ex_b (c := c) (Y := Y) hh0 hhb)
   rw [hh0]
   clear hh0 hhb
   go_wp2
   go_ret2
   rw [HRES.out, HRL.out, HX.out.1, HX.out.2]
   exact epost_err rfl hBW
  ·have HX := Lib.hid (ex_c (c := c) (Y := Y) hh0 hhb)
   have HIV := Lib.hid (hld_inv hhb)
   rw [hh0]
   clear hh0 hhb
   have hnn : nz = n2 := by rw [HNZ.out, HN2.out]; exact HIV.out.1
   subst hnn
   obtain ⟨hPc0, hPf0, hPc1, hPf1, hPc2, hPf2⟩ := hP.x3
   go_wp2
   clear hPc0 hPf0 hPc1 hPf1 hPc2 hPf2
   go_loopw [15, 16] (fun v15 i wr => ∃ k : Nat, k ≤ nz ∧ i = .int .i64 k ∧ ZOwn wr w5.heap.size v15 ((N.expL c Y Z).take k) ∧ Below w5.heap.size w5 wr) (fun _ i _ => nz - (intOf i).toNat)
   case atStart => exact ⟨0, by omega, rfl, World.ownsRow_nil _ _ _ _, Below.refl _ _⟩
   case round =>
    obtain ⟨k, hk, rfl, hO, hbr⟩ := hrel
    obtain ⟨wp, hwp⟩ : ∃ wp, wp = wr := ⟨_, rfl⟩
    subst hwp
    have hBW1 := bt hBW hbr
    have hP1 := hP.after hbr
    have hF1 := hF.after hbr
    by_cases hlt : k < nz
    ·have hkl : k < N.vars.length := by rw [← HN2.out]; exact hlt
     have hkZ : k < Z.length := by rw [← HNZ.out]; exact hlt
     have hkY : k < Y.length := by rw [HYL.out]; exact hkl
     have hkU : k < (((N.lims C K).map (·.1)).map E).length := by rw [HUL.out]; exact hlt
     have HST := Lib.hid (exp_step N c Y Z k hkl hkY hkZ)
     obtain ⟨bv, ov, rfl, hbv, x1⟩ := (hS.after hbr).vat hkl
     obtain ⟨bz, oz, rfl, hbz, z1, z2⟩ := (hZ.after hbr).at_ hkZ
     obtain ⟨by_, oy, rfl, hby, y1, y2⟩ := (hY.after hbr).at_ hkY
     obtain ⟨bu, ou, rfl, hbu, u1⟩ := SsAt.at_ (SsAt.after hUs hbr) hkU
     rw [show (((N.lims C K).map (·.1)).map E)[k] = E (lim N.ord C K (N.vars[k]'hkl)).1 by simp [NSta.lims]] at u1
     have HZL := Lib.hid (HZZ.out _ (List.getElem_mem hkZ))
     have HYS := Lib.hid (HYY.out _ (List.getElem_mem hkY))
     have HYM := Lib.hid (HYQ.out k hkl hkY)
     have HIJ : Hid (inJ N Z k = true) := ra_at HIV.out.2 hkl
     rw [inJ_at N Z k hkl hkZ] at HIJ
     have HLI : Hid (N.vars[k]'hkl = 0 → (lim N.ord C K (N.vars[k]'hkl)).1 = N.ord) := fun h => by rw [lim, if_pos h]
     generalize (lim N.ord C K (N.vars[k]'hkl)).1 = mk at u1 HLI
     generalize (N.vars[k]'hkl) = vb at x1 HST HYM HIJ HLI
     generalize (Z[k]'hkZ) = lz at z1 z2 HZL HST HIJ
     generalize (Y[k]'hkY) = ly at y1 y2 HYS HST HYM
     have hLE : Hid (((N.expL c Y Z).take k).length = k) := by rw [Hid, List.length_take, NSta.expL, List.length_map, List.length_range]; omega
     generalize (N.expL c Y Z).take k = LI at hO HST hLE
     replace hO : wp.ownsRow w5.heap.size 53 2 u15 k (ics (LI.map zI)) := by have h : wp.ownsRow _ _ _ _ _ _ := hO; rw [hLE.out] at h; exact h
     have h0k : (0 : Int) ≤ (k : Int) := by omega
     have h1k : (k : Int) < (nz : Int) := by omega
     have HCZ : Hid (c * lz.natAbs < 256 ^ 71) := lt71 HC8.out HZL.out
     have HCA : Hid (((c : Int) * lz).natAbs < 256 ^ 71) := by rw [Hid, Int.natAbs_mul, Int.natAbs_natCast]; exact HCZ.out
     have HTI : Hid (∀ w, Calls Tryz.prog 44 #[.agg #[.bool false, .string (E c)], .agg #[.bool (sg (lz)), .string (E (lz).natAbs)]] w fun e w' => e = .returned (.agg #[.bool (sg ((c : Int) * lz)), .string (E ((c : Int) * lz).natAbs)]) ∧ Below w.heap.size w w') := fun w => by
      have h := times17_c (c : Int) lz w (by rw [Int.natAbs_natCast]; exact lt128 HC8.out) (Nat.lt_of_lt_of_le HZL.out (Nat.pow_le_pow_right (by decide) (by decide)))
      rwa [Int.natAbs_natCast, sg_nat] at h
     have HNG : Hid (∀ w, Calls Tryz.prog 43 #[.agg #[.bool (sg ((c : Int) * lz)), .string (E ((c : Int) * lz).natAbs)]] w fun e w' => e = .returned (.agg #[.bool (sg (-((c : Int) * lz))), .string (E (-((c : Int) * lz)).natAbs)]) ∧ Below w.heap.size w w') := fun w => neg17_c _ w (Nat.lt_of_lt_of_le HCA.out (Nat.pow_le_pow_right (by decide) (by decide)))
     have HPL : Hid (∀ w, Calls Tryz.prog 42 #[.agg #[.bool (sg (ly)), .string (E (ly).natAbs)], .agg #[.bool (sg (-((c : Int) * lz))), .string (E (-((c : Int) * lz)).natAbs)]] w fun e w' => e = .returned (.agg #[.bool (sg (ly - (c : Int) * lz)), .string (E (ly - (c : Int) * lz).natAbs)]) ∧ Below w.heap.size w w') := fun w => by
      have h := plus17_c ly (-((c : Int) * lz)) w (lt64 HYS.out) (by rw [Int.natAbs_neg]; exact Nat.lt_of_lt_of_le HCA.out (Nat.pow_le_pow_right (by decide) (by decide)))
      rwa [← Int.sub_eq_add_neg] at h
     have HDL : Hid ((ly - (c : Int) * lz).natAbs < 256 ^ 128) := sub71 HYS.out HCA.out
     have HDX : Hid (expI N.ord vb c ly lz = if vb = 0 then (((ly - (c : Int) * lz) % (N.ord : Int)).toNat : Int) else ly - (c : Int) * lz) := by
      rw [Hid, expI]
      by_cases hv0 : vb = 0
      ·have h := HIJ.out
       rw [if_pos hv0, hv0] at h
       simp only [blw, sg, vz, Bool.and_eq_true, decide_eq_true_eq] at h
       have hz0 : 0 ≤ lz := by have := h.2; simp at this; exact this
       rw [if_pos hv0, if_pos hv0, exp_mod N.ord c ly lz (HYM.out hv0).1 (HYM.out hv0).2 hz0]
      ·rw [if_neg hv0, if_neg hv0]
     rw [HDX.out] at HST
     have HQ0 : Hid (vb = 0 → 0 < N.ord) := fun h => by have := (HYM.out h).2; omega
     clear HYM HIJ HDX HCZ HCA
     generalize ly - (c : Int) * lz = dz at HPL HST HDL
     generalize -((c : Int) * lz) = nz9 at HNG HPL
     generalize (c : Int) * lz = pz at HTI HNG
     have hF1l := hF1.lt
     obtain ⟨cl, hcl⟩ : ∃ l : List (Addr × Value), l = [(⟨w.heap.size + 1 + 1, 2, none⟩, .slice (some ⟨by_, oy, none⟩) nz c5), (⟨by_, oy + k * 2, none⟩, .bool (sg ly)), (⟨by_, oy + k * 2 + 1, none⟩, .string (E ly.natAbs)), (⟨w.heap.size + 1 + 1, 1, none⟩, .string (E c)), (⟨bz, oz + k * 2, none⟩, .bool (sg lz)), (⟨bz, oz + k * 2 + 1, none⟩, .string (E lz.natAbs))] := ⟨_, rfl⟩
     have HCL := Lib.hid hcl
     clear hcl
     have hC : CA wp cl := by
      rw [HCL.out]
      exact CA.cons hF1l (hF1.cell 2) (CA.cons hby y1 (CA.cons hby y2 (CA.cons hF1l (hF1.cell 1) (CA.cons hbz z1 (CA.cons hbz z2 (CA.nil _))))))
     have hneA := fun x hx => Nat.ne_of_lt (hC x hx).1
     clear z1 z2 y1 y2 hbz hby hF1 hF1l
     go_upto_region 18 with fail
     go_cut [17] (fun s17 wx => ZBx wp (.bool (sg dz)) (.string (E dz.natAbs)) s17 wx)
     case first =>
      clear hO hbr hBW1 hP1
      go_region_held3 (fun w' => w'.cell? ⟨w.heap.size + 1 + 1, 2, none⟩ = some (.slice (some ⟨by_, oy, none⟩) nz c5) ∧ w'.cell? ⟨by_, oy + k * 2, none⟩ = some (.bool (sg ly)) ∧ w'.cell? ⟨by_, oy + k * 2 + 1, none⟩ = some (.string (E ly.natAbs)) ∧ w'.cell? ⟨w.heap.size + 1 + 1, 1, none⟩ = some (.string (E c)) ∧ w'.cell? ⟨bz, oz + k * 2, none⟩ = some (.bool (sg lz)) ∧ w'.cell? ⟨bz, oz + k * 2 + 1, none⟩ = some (.string (E lz.natAbs))) ((refine CA.k6 ?_; rw [← HCL.out]; repeat (first | (with_reducible exact hCd) | (with_reducible exact hCg) | (with_reducible exact hCf) | (with_reducible exact hC) | (with_reducible refine CA.drew ?_) | (with_reducible refine CA.alloc ?_ _) | (refine CA.set ?_ _ _ _ hneA) | (refine CA.set ?_ _ _ _ (fun x hx => Nat.ne_of_lt (hCf x hx).1)) | (refine CA.set ?_ _ _ _ (fun x hx => Nat.ne_of_lt (hCg x hx).1)) | (refine CA.set ?_ _ _ _ (fun x hx => Nat.ne_of_lt (hCd x hx).1)))))
       (first | (go_at_call 44; (with_reducible refine (HTI.out _).mono ?_); rintro e wf ⟨rfl, hbf⟩; have hCf : CA wf cl := (by first | exact hC.drew.after hbf | exact (hC.alloc _).drew.after hbf | exact (hC.drew.alloc _).after hbf); (try (have hbF : Below wp.heap.size wp wf := (Below.drew (Below.refl _ _)).trans hbf)); (try (have hbF : Below wp.heap.size wp wf := bt ((b1 wp _).drew) hbf)); (try (have kA := (Blk.new wp #[.bool false, .string { data := #[] }] 53).drew.after hbf))) | (go_at_call 43; (with_reducible refine (HNG.out _).mono ?_); rintro e wg ⟨rfl, hbg⟩; have hCg : CA wg cl := (by first | exact hCf.after hbg | exact (hCf.alloc _).after hbg); (try (have hbG : Below wp.heap.size wp wg := bt hbF hbg)); (try (have hbG : Below wp.heap.size wp wg := bt (ba hbF _) hbg)); (try (have kB := kA.after hbg)); (try (have kB2 := (Blk.new wf #[.bool false, .string { data := #[] }] 53).after hbg))) | (go_at_call 42; (with_reducible refine (HPL.out _).mono ?_); rintro e wd ⟨rfl, hbd⟩; have hCd : CA wd cl := (by first | exact hCg.after hbd | exact (hCg.alloc _).after hbd); (try (have hbD : Below wp.heap.size wp wd := bt hbG hbd)); (try (have hbD : Below wp.heap.size wp wd := bt (ba hbG _) hbd)); (try (have kC := kB.after hbd; have kCc0 := kC.cell 0; have kCc1 := kC.cell 1; have kCf0 := kC.free 0; have kCf1 := kC.free 1)); (try (have kC2 := kB2.after hbd; have kC2c0 := kC2.cell 0; have kC2c1 := kC2.cell 1; have kC2f0 := kC2.free 0; have kC2f1 := kC2.free 1)); (try (have kC3 := (Blk.new wg #[.bool false, .string { data := #[] }] 53).after hbd; have kC3c0 := kC3.cell 0; have kC3c1 := kC3.cell 1; have kC3f0 := kC3.free 0; have kC3f1 := kC3.free 1))))
      all_goals
       go_wp2_with fail
       go_meet
       first
        | exact ⟨_, rfl, Blk.new _ _ _, hbD.size, ba hbD _⟩
        | exact ⟨_, rfl, (kC.set 0 _).set 1 _, Nat.le_refl _, (hbD.setCell (by simp) _).setCell (by simp) _⟩
        | exact ⟨_, rfl, (kC2.set 0 _).set 1 _, hbF.size, (hbD.setCell (by have := hbF.size; simp; omega) _).setCell (by have := hbF.size; simp; omega) _⟩
        | exact ⟨_, rfl, (kC3.set 0 _).set 1 _, hbG.size, (hbD.setCell (by have := hbG.size; simp; omega) _).setCell (by have := hbG.size; simp; omega) _⟩
     case rest =>
      clear hC hneA HCL HTI HNG HPL
      obtain ⟨gx, rfl, hX, hgx, hbz9⟩ := hcut
      have HGX := Lib.hid hgx
      clear hgx
      obtain ⟨wy, hwy⟩ : ∃ wy, wy = wc := ⟨_, rfl⟩
      subst hwy
      have hPy := hP1.after hbz9
      have q1 := (hbz9.cell (p := ⟨bv, ov + k, none⟩) hbv).trans x1
      have q2 := (hbz9.cell (p := ⟨bu, ou + k, none⟩) hbu).trans u1
      have ku := Nat.lt_of_lt_of_le hbu hbz9.size
      have hXl := hX.lt
      clear x1 u1 hbv hbu hP1
      by_cases hv0 : vb = 0
      ·have hzv := zE hv0
       have hq := HLI.out hv0
       subst hq
       have HQ9 : Hid (0 < N.ord) := HQ0.out hv0
       rw [if_pos hv0] at HST
       clear hv0 HLI HQ0
       have HMO : Hid (∀ w, Calls Tryz.prog 45 #[.agg #[.bool (sg (dz)), .string (E (dz).natAbs)], .string (E N.ord)] w fun e w' => e = .returned (.string (E (dz % (N.ord : Int)).toNat)) ∧ Below w.heap.size w w') := fun w => modulo17_c dz N.ord w HDL.out (lt128 HQL.out) HQ9.out
       generalize (dz % (N.ord : Int)).toNat = sx at HMO HST
       generalize N.ord = q at HMO q2
       have g1 := gcl (a := ⟨bu, ou + k, none⟩) ku q2
       obtain ⟨hXc0, hXf0, hXc1, hXf1⟩ := hX.x2
       obtain ⟨hPyc0, hPyf0, hPyc1, hPyf1, hPyc2, hPyf2⟩ := hPy.x3
       go_upto_region 20 with fail
       clear hPyc0 hPyf0 hPyc1 hPyf1 hPyc2 hPyf2
       have hXg0 := hX.gcell 0
       have hXg1 := hX.gcell 1
       go_wp2_with fail
       refine wp_region_gw_tail 7 (by kernel_rfl) (by kernel_rfl) ?_
       simp only [List.take_succ_cons, List.take_zero, List.drop_succ_cons, List.drop_zero]
       repeat (go_big_quiet_step (first | (go_at_call 45; exact gw_of (HMO.out _))))
       refine wpQuiet_nil ?_
       rintro wt ⟨xwt, rfl⟩
       have hbt := gw_below xwt
       generalize gw xwt = wt at hbt
       clear hXc0 hXf0 hXc1 hXf1
       clear hXg0 hXg1
       have hX2 := hX.after hbt
       have hbT := bt hbz9 hbt
       clear g1 q1 q2 ku hX hXl hbt hbz9
       have hX2l := hX2.lt
       obtain ⟨hX2c0, hX2f0, hX2c1, hX2f1⟩ := hX2.x2
       go_upto_region 21 with fail
       clear hX2c0 hX2f0 hX2c1 hX2f1
       have hX4 := (hX2.set 0 (.bool false)).set 1 (.string (E sx))
       have hbI := (hbT.setCell (p := ⟨gx, 0, none⟩) HGX.out (.bool false)).setCell (p := ⟨gx, 1, none⟩) HGX.out (.string (E sx))
       generalize ((wt.setCell ⟨gx, 0, none⟩ (.bool false)).setCell ⟨gx, 1, none⟩ (.string (E sx))) = wo at hX4 hbI ⊢
       replace hX4 : Blk wo gx 53 [.bool false, .string (E sx)] := hX4
       clear hX2 hX2l hbT hPy
       have hO8 := own_after hO hbI
       have hbr8 := bt hbr hbI
       clear hO hbr hbI
       have hZ0 : Hid (ics [zI ((sx : Nat) : Int)] = [.bool false, .string (E sx)]) := by rw [Hid]; simp [ics, zI, sg_nat]
       have hX4l := hX4.lt
       obtain ⟨hX4c0, hX4f0, hX4c1, hX4f1⟩ := hX4.x2
       have hsz8 := hbr8.size
       go_wp2_with (at_builtin; refine wpList_append_lies _ rfl (.tmp 84) (.tmp 86) _ rfl w5.heap.size 53 i1 _ 2 24 Tryz.underlying30 HI1.out HA1.out HB1.out HC1.out rfl (by omega) u15 k (ics (LI.map zI)) rfl (own_after hO8 (b1 _ (.cells #[.bool false, .string (E sx)] 53))) ⟨(wo).heap.size, 0, none⟩ 1 1 [.bool false, .string (E sx)] rfl rfl (Blk.new (wo) #[.bool false, .string (E sx)] 53).cells (by simp [Value.oneCell']) (by omega) (by simp only [maxLen]; omega) (by omega) (by rw [World.size_alloc]; omega) ((wo).heap.size + 1) (by simp) ?_; intro ga ca' wz hown hgrow hat hlt2)
       have hOA : ZOwn wz w5.heap.size (.slice (some ⟨ga, 0, none⟩) (k + 1) ca') (LI ++ [((sx : Nat) : Int)]) := by rw [ZOwn, List.length_append, hLE.out, ← ics_app]; have h := hown; rw [← hZ0.out] at h; exact h
       rw [← HST.out] at hOA
       have hbA := (ba hbr8 (.cells #[.bool false, .string (E sx)] 53)).grown hgrow (by rw [World.size_alloc]; omega) (fun x hx => (own_lt hO8 hx).2)
       clear hown hgrow hat hlt2 hO8 hbr8
       go_wp2
       go_roundw
       case rel => exact ⟨k + 1, by omega, by go_num, hOA, hbA⟩
       case measure => simp [intOf]; omega
      ·have hzv := nzE (Nat.pos_of_ne_zero hv0)
       rw [if_neg hv0] at HST
       clear hv0 HLI HQ0
       obtain ⟨hXc0, hXf0, hXc1, hXf1⟩ := hX.x2
       obtain ⟨hPyc0, hPyf0, hPyc1, hPyf1, hPyc2, hPyf2⟩ := hPy.x3
       go_upto_region 21 with fail
       clear hXc0 hXf0 hXc1 hXf1
       clear hPyc0 hPyf0 hPyc1 hPyf1 hPyc2 hPyf2
       have hO8 := own_after hO hbz9
       have hbr8 := bt hbr hbz9
       clear hO hbr hbz9 q1 q2 ku hPy
       obtain ⟨hXc0, hXf0, hXc1, hXf1⟩ := hX.x2
       have hsz8 := hbr8.size
       go_wp2_with (at_builtin; refine wpList_append_lies _ rfl (.tmp 84) (.tmp 86) _ rfl w5.heap.size 53 i1 _ 2 24 Tryz.underlying30 HI1.out HA1.out HB1.out HC1.out rfl (by omega) u15 k (ics (LI.map zI)) rfl (own_after hO8 (b1 _ (.cells #[.bool (sg dz), .string (E dz.natAbs)] 53))) ⟨(wy).heap.size, 0, none⟩ 1 1 [.bool (sg dz), .string (E dz.natAbs)] rfl rfl (Blk.new (wy) #[.bool (sg dz), .string (E dz.natAbs)] 53).cells (by simp [Value.oneCell']) (by omega) (by simp only [maxLen]; omega) (by omega) (by rw [World.size_alloc]; omega) ((wy).heap.size + 1) (by simp) ?_; intro ga ca' wz hown hgrow hat hlt2)
       have hOA : ZOwn wz w5.heap.size (.slice (some ⟨ga, 0, none⟩) (k + 1) ca') (LI ++ [dz]) := by rw [ZOwn, List.length_append, hLE.out, ← ics_app]; exact hown
       rw [← HST.out] at hOA
       have hbA := (ba hbr8 (.cells #[.bool (sg dz), .string (E dz.natAbs)] 53)).grown hgrow (by rw [World.size_alloc]; omega) (fun x hx => (own_lt hO8 hx).2)
       clear hown hgrow hat hlt2 hO8 hbr8
       go_wp2
       go_roundw
       case rel => exact ⟨k + 1, by omega, by go_num, hOA, hbA⟩
       case measure => simp [intOf]; omega
    ·obtain rfl : nz = k := by omega
     have HTK : Hid ((N.expL c Y Z).take nz = N.expL c Y Z) := List.take_of_length_le (by rw [NSta.expL, List.length_map, List.length_range, ← HN2.out]; exact Nat.le_refl _)
     rw [HTK.out] at hO
     have hs4 := hBW.size
     go_wp2
     go_ret2
     rw [HRES.out, HRL.out, HX.out.1, HX.out.2]
     exact ⟨_, rfl, own_mono hO hs4, hBW1⟩
 ·have HX := Lib.hid (ex_a (c := c) (Y := Y) hh0)
  obtain ⟨e6, he6⟩ : ∃ n, n = N.hldE Z := ⟨_, rfl⟩
  have HE6 := Lib.hid he6
  rw [← he6] at hh0 ⊢
  have hkb : ((e6 : Int) != 0) = true := by rw [bne_iff_ne]; omega
  clear hh0 he6
  go_wp2
  go_ret2
  rw [HRL.out, HRES.out, HX.out.1, HX.out.2, ← HE6.out]
  exact epost_err rfl hBW

end Go.Proofs.YtehoiholhkfcpaaGreat
end
