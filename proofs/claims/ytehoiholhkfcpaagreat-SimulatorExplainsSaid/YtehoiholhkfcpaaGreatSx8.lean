import Derived.Test.YtehoiholhkfcpaaGreatFr8
section
set_option linter.unusedVariables false
set_option linter.unusedSimpArgs false
set_option maxRecDepth 100000
namespace Go.Proofs.YtehoiholhkfcpaaGreat
open Go.RowKit Go.Shelf

theorem lims_40 {N : NSta} (hm : NOk N) {C K : Nat} (hC : C < 256 ^ 8) (hK : K < 256 ^ 8) (k : Nat) (hk : k < N.vars.length) : (lim N.ord C K N.vars[k]).2 < 256 ^ 40 := by
 unfold lim
 split
 ·exact Nat.lt_of_lt_of_le (ord_lt hm) (Nat.pow_le_pow_right (by decide) (by decide))
 ·have h := Nat.lt_of_lt_of_le (lt_mul3 hC hK (hm.v _ (List.getElem_mem hk))).2 (show 256 ^ 32 ≤ 256 ^ 40 from Nat.pow_le_pow_right (by decide) (by decide))
  exact Nat.lt_of_le_of_lt (Nat.sub_le _ _) h

set_option maxHeartbeats 60000000 in
theorem simul_num (hc : HCmp) (N : NSta) (C K : Nat) (ch : ByteArray) (t v1 v2 v3 : Value) (w : World) (hC : C < 256 ^ 8) (hK : K < 256 ^ 8) (hcs : ch.size ≤ 8) (hm : NOk N) (hS : NAt w v1 v2 v3 N) (h0 : N.chk = 0) (hT : TpAt w t)
  (hch : ∀ w', Below w.heap.size w w' → Calls Tryz.prog 26 #[.agg #[.string (E C), .string (E K)], .agg #[v1, v2, v3]] w' (B2Post w' (N.lims C K))) :
  Calls Tryz.prog 32 #[.agg #[.string (E C), .string (E K)], .agg #[v1, v2, v3], .string ch, t] w (SimPost w) := by
 obtain ⟨i1, hi1, hz10, hz11, hz12⟩ := info_parts info_Int
 have HI1 := Lib.hid hi1
 have HA1 := Lib.hid hz10
 have HB1 := Lib.hid hz11
 have HC1 := Lib.hid hz12
 clear hi1 hz10 hz11 hz12
 have HCH := Lib.hid hch
 have HVL : Hid (∀ w, Calls Tryz.prog 27 #[.string ch] w fun e w' => e = .returned (.bool (vldB ch)) ∧ w = w') := fun w => rvalid_c ch w (by omega)
 have HSG : Hid (∀ (n : Nat) (t : Value) (w : World), n < 256 ^ 40 → TpAt w t → Calls Tryz.prog 64 #[t, .string (E n)] w (SgPost w n)) := fun n t w h1 h2 => signed_x hc t n w h1 h2
 have HBL : Hid (∀ (n : Nat) (t : Value) (w : World), n < 256 ^ 40 → TpAt w t → Calls Tryz.prog 65 #[t, .string (E n)] w (DrPost w n)) := fun n t w h1 h2 => below_x hc t n w (Nat.lt_of_lt_of_le h1 (Nat.pow_le_pow_right (by decide) (by decide))) h2
 have HFI : Hid (∀ (x : Nat) (Z : List Int) (v4 : Value) (w' : World), x < 256 ^ 8 → Below w.heap.size w w' → ZsAt w' v4 Z → (∀ z ∈ Z, z.natAbs < 256 ^ 40) → Z.length = N.vars.length → Calls Tryz.prog 31 #[.agg #[v1, v2, v3], .string (E x), v4] w' fun e w'' => ∃ v, e = .returned v ∧ NOwn w'' w'.heap.size v (N.msgs x Z) ∧ Below w'.heap.size w' w'') := fun x Z v4 w' hx hb hZ hz hl => rfirst17_c N x Z v1 v2 v3 v4 w' hm (hS.after hb) hZ (fun z h => Nat.lt_of_lt_of_le (hz z h) (Nat.pow_le_pow_right (by decide) (by decide))) hl h0 (lt128 hx)
 have HOR : Hid (∀ (x : Nat) (w : World), x < 256 ^ 8 → Calls Tryz.prog 29 #[.string (E x), .string (E C)] w fun e w' => e = .returned (.int .i64 (cmpN x C)) ∧ Below w.heap.size w w') := fun x w hx => rorder_c x C w (by have := sz _ (lt128 hx); omega) (by have := sz _ (lt128 hC); omega)
 have HMS := Lib.hid (msgs_9 hm h0)
 have HLM := Lib.hid (lims_40 hm hC hK)
 obtain ⟨tu, V, sd, ti, rfl, hV, hVn, hVs, hsd⟩ := hT
 have HT0 : Hid (∀ w', Below w.heap.size w w' → TpAt w' (.agg #[tu, .string sd, .int .i64 ti])) := fun w' hb => ⟨_, V, sd, ti, rfl, SsAt.after hV hb, hVn, hVs, hsd⟩
 obtain ⟨xt, pt, rfl⟩ := RAt.form hV
 have HTF : Hid (∀ g, w.heap.size ≤ g → FarS (.slice xt V.length pt) g) := fun g hg b o n c e hn hb => by
  rw [e] at hV
  have := hV.lt hn
  omega
 have HGD : Hid (∀ w', Below w.heap.size w w' → Calls Tryz.prog 63 #[.agg #[.slice xt V.length pt, .string sd, .int .i64 ti]] w' fun e w'' => ∃ b, e = .returned (.bool b) ∧ (b = true → V.all vldB = true ∧ 0 ≤ ti ∧ ti ≤ 2147483647) ∧ Below w'.heap.size w' w'') := fun w' hb => good_x V _ sd ti w' hVn hVs (SsAt.after hV hb)
 generalize V.length = nt at HT0 HTF HGD
 clear hV hVn hVs hsd hc
 obtain ⟨a1, c1, a2, c2, a3, c3, rfl, rfl, rfl⟩ := hS.forms
 obtain ⟨n1, hn1⟩ : ∃ n, n = N.grps.length := ⟨_, rfl⟩
 obtain ⟨n2, hn2⟩ : ∃ n, n = N.vars.length := ⟨_, rfl⟩
 obtain ⟨n3, hn3⟩ : ∃ n, n = N.eqs.length := ⟨_, rfl⟩
 have HN2 := Lib.hid hn2
 have l2 : n2 ≤ 12 := by rw [hn2]; exact hm.nv
 rw [← hn1, ← hn2, ← hn3] at hS HCH HFI ⊢
 clear hm hn1 hn2 hn3 hC hK hch h0
 obtain ⟨hR, hP, hT, hF, hO, hBW⟩ := blk5 w #[.string (E C), .string (E K)] #[.slice a1 n1 c1, .slice a2 n2 c2, .slice a3 n3 c3] #[.slice xt nt pt, .string sd, .int .i64 ti] #[.slice none 0 0, .string ⟨#[]⟩, .slice none 0 0] #[.slice none 0 0, .string ⟨#[]⟩, .int .i64 0] 24 29 33 45 33
 go_enter Tryz.func32, Tryz.ntmps32
 go_upto_region 1 with fail
 generalize (((((w.alloc (.cells #[.string (E C), .string (E K)] 24)).alloc (.cells #[.slice a1 n1 c1, .slice a2 n2 c2, .slice a3 n3 c3] 29)).alloc (.cells #[.slice xt nt pt, .string sd, .int .i64 ti] 33)).alloc (.cells #[.slice none 0 0, .string ⟨#[]⟩, .slice none 0 0] 45)).alloc (.cells #[.slice none 0 0, .string ⟨#[]⟩, .int .i64 0] 33)) = w1 at hR hP hT hF hO hBW ⊢
 obtain ⟨gR, hgR⟩ : ∃ g, w.heap.size = g := ⟨_, rfl⟩
 obtain ⟨gS, hgS⟩ : ∃ g, w.heap.size + 1 = g := ⟨_, rfl⟩
 obtain ⟨gT, hgT⟩ : ∃ g, w.heap.size + 1 + 1 = g := ⟨_, rfl⟩
 obtain ⟨gF, hgF⟩ : ∃ g, w.heap.size + 1 + 1 + 1 = g := ⟨_, rfl⟩
 obtain ⟨gO, hgO⟩ : ∃ g, w.heap.size + 1 + 1 + 1 + 1 = g := ⟨_, rfl⟩
 rw [hgR] at hR
 rw [hgS] at hP
 rw [hgT] at hT
 rw [hgF] at hF
 rw [hgO] at hO
 rw [hgO, hgF, hgT, hgS, hgR]
 have HGF : Hid (w.heap.size ≤ gF) := by unfold Hid; omega
 have HGO : Hid (w.heap.size ≤ gO) := by unfold Hid; omega
 have HGT : Hid (w.heap.size ≤ gT) := by unfold Hid; omega
 have neFO : gF ≠ gO := by omega
 have neOF : gO ≠ gF := by omega
 have HNE : Hid (gS ≠ gT ∧ gF ≠ gT ∧ gO ≠ gT ∧ gS ≠ gF ∧ gS ≠ gO) := by unfold Hid; omega
 clear hgR hgS hgT hgF hgO
 replace hR : Blk w1 gR 24 [.string (E C), .string (E K)] := hR
 replace hP : Blk w1 gS 29 [.slice a1 n1 c1, .slice a2 n2 c2, .slice a3 n3 c3] := hP
 replace hT : Blk w1 gT 33 [.slice xt nt pt, .string sd, .int .i64 ti] := hT
 replace hF : Blk w1 gF 45 [.slice none 0 0, .string ⟨#[]⟩, .slice none 0 0] := hF
 replace hO : Blk w1 gO 33 [.slice none 0 0, .string ⟨#[]⟩, .int .i64 0] := hO
 obtain ⟨hRc0, hRf0, hRc1, hRf1⟩ := hR.x2
 obtain ⟨hPc0, hPf0, hPc1, hPf1, hPc2, hPf2⟩ := hP.x3
 go_wp2_with fail
 refine (HCH.out _ hBW).mono ?_
 rintro e w2 ⟨mv, uv, rfl, hMO, hUO, hb2⟩
 clear hRc0 hRf0 hRc1 hRf1
 clear hPc0 hPf0 hPc1 hPf1 hPc2 hPf2
 have hUs := hUO.ss
 have HUF : Hid (∀ g, g < w1.heap.size → FarS uv g) := fun g hg b o n c e hn hb => by
  have := (own_lt hUO (g := b) (by rw [e]; rfl)).2
  omega
 clear hMO hUO
 obtain ⟨a6, c6, rfl⟩ := RAt.form hUs
 have HUL : Hid ((((N.lims C K).map (·.2)).map E).length = n2) := by rw [Hid, List.length_map, List.length_map, NSta.lims, List.length_map, HN2.out]
 rw [HUL.out] at hUs HUF ⊢
 have HUT := Lib.hid (HUF.out gT hT.lt)
 replace hP := hP.after hb2
 replace hT := hT.after hb2
 replace hF := hF.after hb2
 replace hO := hO.after hb2
 replace hBW := bt hBW hb2
 replace hR := hR.after hb2
 clear hb2 HUF
 have hFl := hF.lt
 have hOl := hO.lt
 cases hvb : vldB ch
 ·rw [hvb] at HVL
  clear hvb
  go_wp2_with fail
  refine (HVL.out _).mono ?_
  rintro e w' ⟨rfl, rfl⟩
  obtain ⟨hFc0, hFf0, hFc1, hFf1, hFc2, hFf2⟩ := hF.x3
  obtain ⟨hOc0, hOf0, hOc1, hOf1, hOc2, hOf2⟩ := hO.x3
  go_wp2
  refine bodyPost_ret (v := .tuple #[.agg #[.slice none 0 0, .string ⟨#[]⟩, .slice none 0 0], .agg #[.slice none 0 0, .string ⟨#[]⟩, .int .i64 0], .int .i64 3]) ?_ rfl ⟨_, _, _, [], [], _, 3, rfl, ss_nil _, is_nil _, by simp, by simp, by simp, by simp, by show (0 : Nat) ≤ 16; omega, ⟨none, 0, 0, ⟨#[]⟩, 0, rfl⟩, farNN _, ((((((hBW.setCell HGF.out _).setCell HGF.out _).setCell HGF.out _).setCell HGO.out _).setCell HGO.out _).setCell HGO.out _)⟩
  simp [results, Tryz.results32, go_sem, hFc0, hFc1, hFc2, hFl, hOc0, hOc1, hOc2, hOl, neFO, neOF]
 ·obtain ⟨x, hx, rfl⟩ := numk hcs hvb
  rw [hvb] at HVL
  have HXX := Lib.hid hx
  clear hvb hx
  go_wp2_with fail
  refine (HVL.out _).mono ?_
  rintro e w' ⟨rfl, rfl⟩
  obtain ⟨hTc0, hTf0, hTc1, hTf1, hTc2, hTf2⟩ := hT.x3
  go_wp2_with fail
  refine (HGD.out _ hBW).mono ?_
  rintro e w3 ⟨g, rfl, _, hb3⟩
  clear hTc0 hTf0 hTc1 hTf1 hTc2 hTf2
  replace hP := hP.after hb3
  replace hT := hT.after hb3
  replace hF := hF.after hb3
  replace hO := hO.after hb3
  replace hR := hR.after hb3
  replace hUs := SsAt.after hUs hb3
  replace hBW := bt hBW hb3
  clear hb3 hFl hOl
  have hFl := hF.lt
  have hOl := hO.lt
  cases g
  ·have hskip := hBW
   clear hskip
   obtain ⟨hFc0, hFf0, hFc1, hFf1, hFc2, hFf2⟩ := hF.x3
   obtain ⟨hOc0, hOf0, hOc1, hOf1, hOc2, hOf2⟩ := hO.x3
   go_wp2
   refine bodyPost_ret (v := .tuple #[.agg #[.slice none 0 0, .string ⟨#[]⟩, .slice none 0 0], .agg #[.slice none 0 0, .string ⟨#[]⟩, .int .i64 0], .int .i64 3]) ?_ rfl ⟨_, _, _, [], [], _, 3, rfl, ss_nil _, is_nil _, by simp, by simp, by simp, by simp, by show (0 : Nat) ≤ 16; omega, ⟨none, 0, 0, ⟨#[]⟩, 0, rfl⟩, farNN _, ((((((hBW.setCell HGF.out _).setCell HGF.out _).setCell HGF.out _).setCell HGO.out _).setCell HGO.out _).setCell HGO.out _)⟩
   simp [results, Tryz.results32, go_sem, hFc0, hFc1, hFc2, hFl, hOc0, hOc1, hOc2, hOl, neFO, neOF]
  ·have hskip := hBW
   clear hskip
   have HOX := Lib.hid (fun w => HOR.out x w HXX.out)
   obtain ⟨q, hq⟩ : ∃ q : Int, q = cmpN x C := ⟨_, rfl⟩
   rw [← hq] at HOX
   obtain ⟨hRc0, hRf0, hRc1, hRf1⟩ := hR.x2
   go_wp2_with fail
   refine (HOX.out _).mono ?_
   rintro e w4 ⟨rfl, hb4⟩
   clear hRc0 hRf0 hRc1 hRf1
   replace hP := hP.after hb4
   replace hT := hT.after hb4
   replace hF := hF.after hb4
   replace hO := hO.after hb4
   replace hUs := SsAt.after hUs hb4
   replace hBW := bt hBW hb4
   clear hb4 hFl hOl hR hq HOX HOR
   have hFl := hF.lt
   have hOl := hO.lt
   by_cases hq0 : 0 ≤ q
   ·have d1 : decide (0 ≤ q) = true := decide_eq_true hq0
    clear hq0
    obtain ⟨hFc0, hFf0, hFc1, hFf1, hFc2, hFf2⟩ := hF.x3
    obtain ⟨hOc0, hOf0, hOc1, hOf1, hOc2, hOf2⟩ := hO.x3
    go_wp2
    refine bodyPost_ret (v := .tuple #[.agg #[.slice none 0 0, .string ⟨#[]⟩, .slice none 0 0], .agg #[.slice none 0 0, .string ⟨#[]⟩, .int .i64 0], .int .i64 2]) ?_ rfl ⟨_, _, _, [], [], _, 2, rfl, ss_nil _, is_nil _, by simp, by simp, by simp, by simp, by show (0 : Nat) ≤ 16; omega, ⟨none, 0, 0, ⟨#[]⟩, 0, rfl⟩, farNN _, ((((((hBW.setCell HGF.out _).setCell HGF.out _).setCell HGF.out _).setCell HGO.out _).setCell HGO.out _).setCell HGO.out _)⟩
    simp [results, Tryz.results32, go_sem, hFc0, hFc1, hFc2, hFl, hOc0, hOc1, hOc2, hOl, neFO, neOF]
   ·have d1 : decide (0 ≤ q) = false := decide_eq_false hq0
    clear hq0 hFl hOl
    have hI : SimI w w4.heap.size gS gT gF gO [.slice a1 n1 c1, .slice a2 n2 c2, .slice a3 n3 c3] (.slice a6 n2 c6) (((N.lims C K).map (·.2)).map E) (.slice none 0 0) [] w4 := ⟨xt, nt, pt, sd, ti, hT, HT0.out _ hBW, fun g hg _ => by simp [Value.ownBlock] at hg, hP, hF, hO, hUs, World.ownsRow_nil _ _ _ _, hBW⟩
    have HUG : Hid (∀ g, w4.heap.size ≤ g → FarS (.slice a6 n2 c6) g) := fun g hg b o n c e hn hb => by
     rw [e] at hUs
     have := hUs.lt hn
     omega
    have HT4 : Hid (gT < w4.heap.size ∧ gF < w4.heap.size ∧ gO < w4.heap.size ∧ gS < w4.heap.size) := ⟨hT.lt, hF.lt, hO.lt, hP.lt⟩
    have HW4 := Lib.hid hBW.size
    have HBW4 := Lib.hid hBW
    clear hT hF hO hUs hP
    go_wp2
    go_loopw [13, 14, 15, 16, 17] (fun v13 v14 v15 v16 v17 wr => ∃ (k : Nat) (Z : List Int), k ≤ n2 ∧ v15 = .int .i64 (k : Int) ∧ v13 = .int .i64 0 ∧ Hid (Z.length = k) ∧ Hid (w4.heap.size ≤ wr.heap.size) ∧ Hid (∀ z ∈ Z, z.natAbs < 256 ^ 40) ∧ SimI w w4.heap.size gS gT gF gO [.slice a1 n1 c1, .slice a2 n2 c2, .slice a3 n3 c3] (.slice a6 n2 c6) (((N.lims C K).map (·.2)).map E) v14 Z wr) (fun _ _ i _ _ _ => n2 - (intOf i).toNat)
    case atStart => exact ⟨0, [], by omega, rfl, rfl, rfl, Nat.le_refl _, (fun z h => nomatch h), hI⟩
    case round =>
     clear hI hBW
     obtain ⟨k, Z, hk, rfl, rfl, HZL, HSZ, HZB, hI2⟩ := hrel
     obtain ⟨wp, hwp⟩ : ∃ wp, wp = wr := ⟨_, rfl⟩
     subst hwp
     obtain ⟨uo, m, uc, sdk, tik, hJ⟩ := id hI2
     obtain ⟨hT, hTA, hFG, hP, hF, hO, hUs, hZO, hbr⟩ := id hJ
     by_cases hlt : k < n2
     ·have hkl : k < N.vars.length := by rw [← HN2.out]; exact hlt
      have hkU : k < (((N.lims C K).map (·.2)).map E).length := by rw [HUL.out]; exact hlt
      obtain ⟨bv, ov, rfl, hbv, x1⟩ := (hS.after hbr).vat hkl
      obtain ⟨bu, ou, rfl, hbu, y1⟩ := SsAt.at_ hUs hkU
      rw [show (((N.lims C K).map (·.2)).map E)[k] = E (lim N.ord C K (N.vars[k]'hkl)).2 by simp [NSta.lims]] at y1
      have HML := Lib.hid (HLM.out k hkl)
      generalize (lim N.ord C K (N.vars[k]'hkl)).2 = mk at y1 HML
      generalize (N.vars[k]'hkl) = vb at x1
      have h0k : (0 : Int) ≤ (k : Int) := by omega
      have h1k : (k : Int) < (n2 : Int) := by omega
      have HUX : Hid (FarS (.slice (some ⟨bu, ou, none⟩) n2 c6) wp.heap.size) := fun b o n c e hn hb => by
       injection e with e
       injection e with e
       injection e with e
       omega
      have HOW : Hid (∀ g, u14.ownBlock = some g → g < wp.heap.size ∧ w4.heap.size ≤ g) := fun g hg => own_lt hZO hg
      have HBS : Hid (w4.heap.size ≤ wp.heap.size ∧ w.heap.size ≤ wp.heap.size ∧ gS < wp.heap.size ∧ gT < wp.heap.size ∧ gF < wp.heap.size ∧ gO < wp.heap.size) := ⟨HSZ.out, hbr.size, hP.lt, hT.lt, hF.lt, hO.lt⟩
      obtain ⟨cl, hcl⟩ : ∃ l : List (Addr × Value), l = [(⟨gT, 0, none⟩, .slice uo m uc), (⟨gT, 1, none⟩, .string sdk), (⟨gT, 2, none⟩, .int .i64 tik), (⟨bu, ou + k, none⟩, .string (E mk))] := ⟨_, rfl⟩
      have HCL := Lib.hid hcl
      clear hcl
      by_cases hv0 : vb = 0
      ·have hzv := zE hv0
       clear hv0
       have hPl := hP.lt
       obtain ⟨hPc0, hPf0, hPc1, hPf1, hPc2, hPf2⟩ := hP.x3
       go_upto_region 16 with fail
       clear hPc0 hPf0 hPc1 hPf1 hPc2 hPf2
       have hX := Blk.new wp #[.bool false, .string ⟨#[]⟩] 53
       have hbX := b1 wp (.cells #[.bool false, .string ⟨#[]⟩] 53)
       have hI3 := hI2.after hbX
       have hJ3 := hJ.after hbX
       generalize wp.alloc (.cells #[.bool false, .string ⟨#[]⟩] 53) = wx at hX hbX hI3 hJ3 ⊢
       obtain ⟨gX, hgX⟩ : ∃ g, wp.heap.size = g := ⟨_, rfl⟩
       have HGX := Lib.hid hgX
       have HBU : Hid (bu < gX) := by rw [← hgX]; exact hbu
       rw [hgX] at hX HUX HOW HBS ⊢
       clear hgX
       have hC : CA wx cl := by
        rw [HCL.out]
        have hT3 := hJ3.1
        exact CA.cons hT3.lt (hT3.cell 0) (CA.cons hT3.lt (hT3.cell 1) (CA.cons hT3.lt (hT3.cell 2) (CA.cons (Nat.lt_of_lt_of_le hbu hbX.size) ((hbX.cell hbu).trans y1) (CA.nil _))))
       have HTX : Hid (TpAt wx (.agg #[.slice uo m uc, .string sdk, .int .i64 tik])) := hJ3.2.1
       have HOF : Hid (FarS (.slice uo m uc) gX) := fun b o n c e hn hb => by
        obtain ⟨u', V', sd', ti', e2, hV', _⟩ := id hTA
        injection e2 with e2
        have e2 := congrArg (fun a => a[0]?) e2
        simp at e2
        rw [← e2, e] at hV'
        have h1 := hV'.lt hn
        have h2 := HGX.out
        omega
       have HBX := Lib.hid hbX
       have HHJ := Lib.hid hJ3
       have HXB := Lib.hid hX
       have HSX : Hid (gX < wx.heap.size) := hX.lt
       have neXT : gX ≠ gT := by have := HBS.out; omega
       have neTX : gT ≠ gX := by have := HBS.out; omega
       have HSGk : Hid (Calls Tryz.prog 65 #[.agg #[.slice uo m uc, .string sdk, .int .i64 tik], .string (E mk)] wx.drew (DrPost wx.drew mk)) := HBL.out mk _ _ HML.out (TpAt.after HTX.out (Below.drew (Below.refl _ _)))
       clear hT hTA hFG hP hF hO hUs hZO hbr hPl hI2 hJ hI3 hJ3 hX hbX x1 y1 hbv hbu hS
       go_cut [13, 17] from 47 to 92 (fun s13 s17 wc' => ∃ (k' : Nat) (s : ByteArray) (uo2 : Option Addr) (m2' uc2 : Nat) (sd2 : ByteArray) (ti2 : Int), s13 = .int .i64 (k' : Int) ∧ s17 = .string s ∧ Blk wc' gX 53 [.bool false, .string ⟨#[]⟩] ∧ SimJ w w4.heap.size gS gT gF gO [.slice a1 n1 c1, .slice (some ⟨bv, ov, none⟩) n2 c2, .slice a3 n3 c3] (.slice (some ⟨bu, ou, none⟩) n2 c6) (((N.lims C K).map (·.2)).map E) u14 Z wc' uo2 m2' uc2 sd2 ti2 ∧ FarS (.slice uo2 m2' uc2) gX ∧ (k' = 0 → ∃ y : Nat, y < 256 ^ 40 ∧ s = E y) ∧ gX ≤ wc'.heap.size)
       case first =>
        obtain ⟨q0, q1, q2, q3⟩ := CA.k4 (by rw [HCL.out] at hC; exact hC)
        have hTl := HHJ.out.1.lt
        have hXl0 := HXB.out.lt
        have hbul : bu < wx.heap.size := Nat.lt_trans HBU.out HSX.out
        go_region_with
         (first | (go_at_call 65; (with_reducible refine HSGk.out.mono ?_); rintro e wf ⟨s, t', k', rfl, hT', hF', hz', hbf⟩; obtain ⟨u', V', sd', ti', rfl, hV', hq1, hq2, hq3⟩ := id hT'; obtain ⟨ao', c', rfl⟩ := RAt.form hV'; have hJf := HHJ.out.after ((Below.drew (Below.refl _ _)).trans hbf); have hXf := HXB.out.after ((Below.drew (Below.refl _ _)).trans hbf); have hXl := hXf.lt; have xc0 := hXf.cell 0; have xf0 := hXf.free 0; have xc1 := hXf.cell 1; have xf1 := hXf.free 1; have tl := hJf.1.lt; have tc0 := hJf.1.cell 0; have tf0 := hJf.1.free 0; have tc1 := hJf.1.cell 1; have tf1 := hJf.1.free 1; have tc2 := hJf.1.cell 2; have tf2 := hJf.1.free 2))
        all_goals
         go_wp2_with fail
         clear xc0 xf0 xc1 xf1 tc0 tf0 tc1 tf1 tc2 tf2
         go_meet
         have HFT : ∀ g, g ≤ gX → FarS (.slice ao' V'.length c') g := fun g hg => hF' _ _ _ rfl g (Nat.lt_of_le_of_lt hg HSX.out)
         have hh := HBS.out
         have hne := HNE.out
         have hJ3 := SimI.tape ⟨_, _, _, _, _, hJf⟩ hT' (HFT gT (Nat.le_of_lt hh.2.2.2.1)) (fun g hg => HFT g (Nat.le_of_lt (HOW.out g hg).1)) hne.1 hne.2.1 hne.2.2.1 HGT.out HUT.out
         exact ⟨k', s, _, _, _, _, _, rfl, rfl, ((hXf.other _ _ neXT).other _ _ neXT).other _ _ neXT, hJ3, HFT gX (Nat.le_refl _), (fun h => by obtain ⟨y, h1, h2⟩ := hz' h; exact ⟨y, Nat.lt_trans h1 HML.out, h2⟩), by simp only [World.size_setCell]; exact Nat.le_of_lt hXl⟩
       case rest =>
        obtain ⟨k', s, uo2, m2', uc2, sd2, ti2, rfl, rfl, hX, hJ2, hfx, hz, hsz⟩ := hcut
        obtain ⟨wy, hwy⟩ : ∃ wx, wx = wc := ⟨_, rfl⟩
        subst hwy
        clear hC HCL HSGk HHJ HXB HTX HBX HOF
        have hh := HBS.out
        have hov : u14.ownBlock ≠ some gX := fun e => Nat.lt_irrefl _ (HOW.out gX e).1
        have hne1 : gS ≠ gX := Nat.ne_of_lt hh.2.2.1
        have hne2 : gF ≠ gX := Nat.ne_of_lt hh.2.2.2.2.1
        have hne3 : gO ≠ gX := Nat.ne_of_lt hh.2.2.2.2.2
        have hJ4 := (hJ2.x (i := 0) (x := .bool false) hne1 hne2 hne3 neTX hh.2.1 HUX.out hfx hov).x (i := 1) (x := .string s) hne1 hne2 hne3 neTX hh.2.1 HUX.out hfx hov
        have hX4 : Blk ((wy.setCell ⟨gX, 0, none⟩ (.bool false)).setCell ⟨gX, 1, none⟩ (.string s)) gX 53 [.bool false, .string s] := (hX.set 0 (.bool false)).set 1 (.string s)
        have hsz4 : gX ≤ ((wy.setCell ⟨gX, 0, none⟩ (.bool false)).setCell ⟨gX, 1, none⟩ (.string s)).heap.size := by simp only [World.size_setCell]; exact hsz
        have hXl4 := hX.lt
        clear hne1 hne2 hne3 hov hh
        obtain ⟨hXc0, hXf0, hXc1, hXf1⟩ := hX.x2
        go_upto_region 18 with fail
        clear hXc0 hXf0 hXc1 hXf1
        clear hXl4 hX hJ2 hsz hfx
        generalize (wy.setCell ⟨gX, 0, none⟩ (.bool false)).setCell ⟨gX, 1, none⟩ (.string s) = wv at hJ4 hX4 hsz4 ⊢
        clear wy
        have hskip := hX4
        clear hskip
        obtain ⟨wy, hwy⟩ : ∃ wx, wx = wv := ⟨_, rfl⟩
        subst hwy
        have hX : Blk wy gX 53 [.bool false, .string s] := hX4
        have hI : SimI w w4.heap.size gS gT gF gO [.slice a1 n1 c1, .slice (some ⟨bv, ov, none⟩) n2 c2, .slice a3 n3 c3] (.slice (some ⟨bu, ou, none⟩) n2 c6) (((N.lims C K).map (·.2)).map E) u14 Z wy := ⟨_, _, _, _, _, hJ4⟩
        have hsz : gX ≤ wy.heap.size := hsz4
        clear hX4 hsz4
        obtain ⟨hT, hTA, hFG, hP, hF, hO, hUs, hZO, hbr⟩ := id hJ4
        have hJ2 := hJ4
        clear hJ4
        by_cases hk0 : k' = 0
        ·subst hk0
         obtain ⟨y, hyb, rfl⟩ := hz rfl
         obtain ⟨z, hzy⟩ : ∃ z : Int, z = (y : Int) := ⟨_, rfl⟩
         have hzb : z.natAbs < 256 ^ 40 := by rw [hzy, Int.natAbs_natCast]; exact hyb
         have hZk : wy.ownsRow w4.heap.size 53 2 u14 k (ics (Z.map zI)) := by
          have h := hZO
          rw [ZOwn, HZL.out] at h
          exact h
         have hZ1 : Hid (ics [zI z] = [.bool false, .string (E y)]) := by rw [Hid, hzy]; simp [ics, zI, sg_nat]
         have hszy : w4.heap.size ≤ wy.heap.size := Nat.le_trans HBS.out.1 hsz
         have hX4l := hX.lt
         clear hT hTA hFG hP hF hO hUs hbr hJ2
         obtain ⟨hXc0, hXf0, hXc1, hXf1⟩ := hX.x2
         go_wp2_with (at_builtin; refine wpList_append_lies _ rfl (.tmp 89) (.tmp 91) _ rfl w4.heap.size 53 i1 _ 2 24 Tryz.underlying30 HI1.out HA1.out HB1.out HC1.out rfl (by omega) u14 k (ics (Z.map zI)) rfl (own_after hZk (b1 _ (.cells #[.bool false, .string (E y)] 53))) ⟨wy.heap.size, 0, none⟩ 1 1 [.bool false, .string (E y)] rfl rfl (Blk.new wy #[.bool false, .string (E y)] 53).cells (by simp [Value.oneCell']) (by omega) (by simp only [maxLen]; omega) (by omega) (by rw [World.size_alloc]; omega) (wy.heap.size + 1) (by simp) ?_; intro ga ca' wz hown hgrow hat hlt2)
         clear hXc0 hXf0 hXc1 hXf1
         have hOA : ZOwn wz w4.heap.size (.slice (some ⟨ga, 0, none⟩) (k + 1) ca') (Z ++ [z]) := by
          have h := hown
          rw [← hZ1.out, show ics (Z.map zI) ++ ics [zI z] = ics ((Z ++ [z]).map zI) from ics_app Z [z]] at h
          rw [ZOwn, List.length_append, HZL.out]
          exact h
         have hIA := SimI.app (hI.after (b1 wy (.cells #[.bool false, .string (E y)] 53))) hOA hgrow (hat.imp id (fun h => by rw [World.size_alloc]; exact h)) (by decide) HW4.out HUG.out
         have hgs := hgrow.size
         rw [World.size_alloc] at hgs
         clear hown hgrow hat hlt2 hZk hZO hOA hX hI hz
         go_wp2
         go_roundw
         case rel => exact ⟨k + 1, Z ++ [z], by omega, by go_num, by go_num, by rw [Hid, List.length_append, HZL.out]; rfl, by unfold Hid; omega, fun y hy => by
          rcases List.mem_append.1 hy with h | h
          ·exact HZB.out y h
          ·obtain rfl := List.mem_singleton.1 h
           exact hzb, hIA⟩
         case measure => simp [intOf]; omega
        ·have e3 : ((k' : Int) != 0) = true := by rw [bne_iff_ne]; omega
         have hFl := hF.lt
         have hOl := hO.lt
         clear hk0 hz hX hI hJ2 hT hTA hFG hP hUs hZO hsz
         obtain ⟨hFc0, hFf0, hFc1, hFf1, hFc2, hFf2⟩ := hF.x3
         obtain ⟨hOc0, hOf0, hOc1, hOf1, hOc2, hOf2⟩ := hO.x3
         go_wp2
         refine bodyPost_ret (v := .tuple #[.agg #[.slice none 0 0, .string ⟨#[]⟩, .slice none 0 0], .agg #[.slice none 0 0, .string ⟨#[]⟩, .int .i64 0], .int .i64 k']) ?_ rfl ⟨_, _, _, [], [], _, k', rfl, ss_nil _, is_nil _, by simp, by simp, by simp, by simp, by show (0 : Nat) ≤ 16; omega, ⟨none, 0, 0, ⟨#[]⟩, 0, rfl⟩, farNN _, ((((((hbr.setCell HGF.out _).setCell HGF.out _).setCell HGF.out _).setCell HGO.out _).setCell HGO.out _).setCell HGO.out _)⟩
         simp [results, Tryz.results32, go_sem, hFc0, hFc1, hFc2, hFl, hOc0, hOc1, hOc2, hOl, neFO, neOF]
      ·have hzv := nzE (Nat.pos_of_ne_zero hv0)
       clear hv0
       have hPl := hP.lt
       obtain ⟨hPc0, hPf0, hPc1, hPf1, hPc2, hPf2⟩ := hP.x3
       go_upto_region 14 with fail
       clear hPc0 hPf0 hPc1 hPf1 hPc2 hPf2
       have hX := Blk.new wp #[.bool false, .string ⟨#[]⟩] 53
       have hbX := b1 wp (.cells #[.bool false, .string ⟨#[]⟩] 53)
       have hI3 := hI2.after hbX
       have hJ3 := hJ.after hbX
       generalize wp.alloc (.cells #[.bool false, .string ⟨#[]⟩] 53) = wx at hX hbX hI3 hJ3 ⊢
       obtain ⟨gX, hgX⟩ : ∃ g, wp.heap.size = g := ⟨_, rfl⟩
       have HGX := Lib.hid hgX
       have HBU : Hid (bu < gX) := by rw [← hgX]; exact hbu
       rw [hgX] at hX HUX HOW HBS ⊢
       clear hgX
       have hC : CA wx cl := by
        rw [HCL.out]
        have hT3 := hJ3.1
        exact CA.cons hT3.lt (hT3.cell 0) (CA.cons hT3.lt (hT3.cell 1) (CA.cons hT3.lt (hT3.cell 2) (CA.cons (Nat.lt_of_lt_of_le hbu hbX.size) ((hbX.cell hbu).trans y1) (CA.nil _))))
       have HTX : Hid (TpAt wx (.agg #[.slice uo m uc, .string sdk, .int .i64 tik])) := hJ3.2.1
       have HOF : Hid (FarS (.slice uo m uc) gX) := fun b o n c e hn hb => by
        obtain ⟨u', V', sd', ti', e2, hV', _⟩ := id hTA
        injection e2 with e2
        have e2 := congrArg (fun a => a[0]?) e2
        simp at e2
        rw [← e2, e] at hV'
        have h1 := hV'.lt hn
        have h2 := HGX.out
        omega
       have HBX := Lib.hid hbX
       have HHJ := Lib.hid hJ3
       have HXB := Lib.hid hX
       have HSX : Hid (gX < wx.heap.size) := hX.lt
       have neXT : gX ≠ gT := by have := HBS.out; omega
       have neTX : gT ≠ gX := by have := HBS.out; omega
       have HSGk : Hid (Calls Tryz.prog 64 #[.agg #[.slice uo m uc, .string sdk, .int .i64 tik], .string (E mk)] wx.drew (SgPost wx.drew mk)) := HSG.out mk _ _ HML.out (TpAt.after HTX.out (Below.drew (Below.refl _ _)))
       clear hT hTA hFG hP hF hO hUs hZO hbr hPl hI2 hJ hI3 hJ3 hX hbX x1 y1 hbv hbu hS
       go_cut [13] from 47 to 92 (fun s13 wc' => ∃ (k' : Nat) (b : Bool) (s : ByteArray), s13 = .int .i64 (k' : Int) ∧ Blk wc' gX 53 [.bool b, .string s] ∧ SimI w w4.heap.size gS gT gF gO [.slice a1 n1 c1, .slice (some ⟨bv, ov, none⟩) n2 c2, .slice a3 n3 c3] (.slice (some ⟨bu, ou, none⟩) n2 c6) (((N.lims C K).map (·.2)).map E) u14 Z wc' ∧ (k' = 0 → ∃ z : Int, z.natAbs < 256 ^ 40 ∧ b = sg z ∧ s = E z.natAbs) ∧ gX ≤ wc'.heap.size)
       case first =>
        obtain ⟨q0, q1, q2, q3⟩ := CA.k4 (by rw [HCL.out] at hC; exact hC)
        have hTl := HHJ.out.1.lt
        have hXl0 := HXB.out.lt
        have hbul : bu < wx.heap.size := Nat.lt_trans HBU.out HSX.out
        go_region_with
         (first | (go_at_call 64; (with_reducible refine HSGk.out.mono ?_); rintro e wf ⟨b, s, t', k', rfl, hT', hF', hz', hbf⟩; obtain ⟨u', V', sd', ti', rfl, hV', hq1, hq2, hq3⟩ := id hT'; obtain ⟨ao', c', rfl⟩ := RAt.form hV'; have hJf := HHJ.out.after ((Below.drew (Below.refl _ _)).trans hbf); have hXf := HXB.out.after ((Below.drew (Below.refl _ _)).trans hbf); have hXl := hXf.lt; have xc0 := hXf.cell 0; have xf0 := hXf.free 0; have xc1 := hXf.cell 1; have xf1 := hXf.free 1; have tl := hJf.1.lt; have tc0 := hJf.1.cell 0; have tf0 := hJf.1.free 0; have tc1 := hJf.1.cell 1; have tf1 := hJf.1.free 1; have tc2 := hJf.1.cell 2; have tf2 := hJf.1.free 2))
        all_goals
         clear xc0 xf0 xc1 xf1 tc0 tf0 tc1 tf1 tc2 tf2
         go_wp2_with fail
         go_meet
         have HFT : ∀ g, g ≤ gX → FarS (.slice ao' V'.length c') g := fun g hg => hF' _ _ _ rfl g (Nat.lt_of_le_of_lt hg HSX.out)
         have hh := HBS.out
         have hne := HNE.out
         first
          | (have hp := sim_xt (a := .bool b) (c := .string s) hJf hXf hT' HFT (fun g h => (HOW.out g h).1) hh.2.2.1 hh.2.2.2.2.1 hh.2.2.2.2.2 hh.2.2.2.1 hne.1 hne.2.1 hne.2.2.1 HGT.out HUT.out HUX.out HOF.out; exact ⟨k', b, s, rfl, hp.1, hp.2, (fun h => by obtain ⟨z, h1, h2, h3⟩ := hz' h; exact ⟨z, Nat.lt_trans h1 HML.out, h2, h3⟩), by simp only [World.size_setCell]; exact Nat.le_of_lt hXl⟩)
          | (have hp := sim_tx (a := .bool b) (c := .string s) hJf hXf hT' HFT (fun g h => (HOW.out g h).1) hh.2.2.1 hh.2.2.2.2.1 hh.2.2.2.2.2 hh.2.2.2.1 hne.1 hne.2.1 hne.2.2.1 HGT.out HUT.out HUX.out; exact ⟨k', b, s, rfl, hp.1, hp.2, (fun h => by obtain ⟨z, h1, h2, h3⟩ := hz' h; exact ⟨z, Nat.lt_trans h1 HML.out, h2, h3⟩), by simp only [World.size_setCell]; exact Nat.le_of_lt hXl⟩)
       case rest =>
        obtain ⟨k', b, s, rfl, hX, hI, hz, hsz⟩ := hcut
        obtain ⟨wy, hwy⟩ : ∃ wx, wx = wc := ⟨_, rfl⟩
        subst hwy
        clear hC HCL HSGk HHJ HXB HTX HBX HOF
        obtain ⟨uo2, m2', uc2, sd2, ti2, hJ2⟩ := id hI
        obtain ⟨hT, hTA, hFG, hP, hF, hO, hUs, hZO, hbr⟩ := id hJ2
        by_cases hk0 : k' = 0
        ·subst hk0
         obtain ⟨z, hzb, rfl, rfl⟩ := hz rfl
         have hZk : wy.ownsRow w4.heap.size 53 2 u14 k (ics (Z.map zI)) := by
          have h := hZO
          rw [ZOwn, HZL.out] at h
          exact h
         have hZ1 : Hid (ics [zI z] = [.bool (sg z), .string (E z.natAbs)]) := by rw [Hid]; simp [ics, zI]
         have hszy : w4.heap.size ≤ wy.heap.size := Nat.le_trans HBS.out.1 hsz
         have hX4l := hX.lt
         clear hT hTA hFG hP hF hO hUs hbr hJ2
         obtain ⟨hXc0, hXf0, hXc1, hXf1⟩ := hX.x2
         go_wp2_with (at_builtin; refine wpList_append_lies _ rfl (.tmp 89) (.tmp 91) _ rfl w4.heap.size 53 i1 _ 2 24 Tryz.underlying30 HI1.out HA1.out HB1.out HC1.out rfl (by omega) u14 k (ics (Z.map zI)) rfl (own_after hZk (b1 _ (.cells #[.bool (sg z), .string (E z.natAbs)] 53))) ⟨wy.heap.size, 0, none⟩ 1 1 [.bool (sg z), .string (E z.natAbs)] rfl rfl (Blk.new wy #[.bool (sg z), .string (E z.natAbs)] 53).cells (by simp [Value.oneCell']) (by omega) (by simp only [maxLen]; omega) (by omega) (by rw [World.size_alloc]; omega) (wy.heap.size + 1) (by simp) ?_; intro ga ca' wz hown hgrow hat hlt2)
         clear hXc0 hXf0 hXc1 hXf1
         have hOA : ZOwn wz w4.heap.size (.slice (some ⟨ga, 0, none⟩) (k + 1) ca') (Z ++ [z]) := by
          have h := hown
          rw [← hZ1.out, show ics (Z.map zI) ++ ics [zI z] = ics ((Z ++ [z]).map zI) from ics_app Z [z]] at h
          rw [ZOwn, List.length_append, HZL.out]
          exact h
         have hIA := SimI.app (hI.after (b1 wy (.cells #[.bool (sg z), .string (E z.natAbs)] 53))) hOA hgrow (hat.imp id (fun h => by rw [World.size_alloc]; exact h)) (by decide) HW4.out HUG.out
         have hgs := hgrow.size
         rw [World.size_alloc] at hgs
         clear hown hgrow hat hlt2 hZk hZO hOA hX hI hz
         go_wp2
         go_roundw
         case rel => exact ⟨k + 1, Z ++ [z], by omega, by go_num, by go_num, by rw [Hid, List.length_append, HZL.out]; rfl, by unfold Hid; omega, fun y hy => by
          rcases List.mem_append.1 hy with h | h
          ·exact HZB.out y h
          ·obtain rfl := List.mem_singleton.1 h
           exact hzb, hIA⟩
         case measure => simp [intOf]; omega
        ·have e3 : ((k' : Int) != 0) = true := by rw [bne_iff_ne]; omega
         have hFl := hF.lt
         have hOl := hO.lt
         clear hk0 hz hX hI hJ2 hT hTA hFG hP hUs hZO hsz
         obtain ⟨hFc0, hFf0, hFc1, hFf1, hFc2, hFf2⟩ := hF.x3
         obtain ⟨hOc0, hOf0, hOc1, hOf1, hOc2, hOf2⟩ := hO.x3
         go_wp2
         refine bodyPost_ret (v := .tuple #[.agg #[.slice none 0 0, .string ⟨#[]⟩, .slice none 0 0], .agg #[.slice none 0 0, .string ⟨#[]⟩, .int .i64 0], .int .i64 k']) ?_ rfl ⟨_, _, _, [], [], _, k', rfl, ss_nil _, is_nil _, by simp, by simp, by simp, by simp, by show (0 : Nat) ≤ 16; omega, ⟨none, 0, 0, ⟨#[]⟩, 0, rfl⟩, farNN _, ((((((hbr.setCell HGF.out _).setCell HGF.out _).setCell HGF.out _).setCell HGO.out _).setCell HGO.out _).setCell HGO.out _)⟩
         simp [results, Tryz.results32, go_sem, hFc0, hFc1, hFc2, hFl, hOc0, hOc1, hOc2, hOl, neFO, neOF]
     ·have hkn : n2 = k := by omega
      subst hkn
      have hZs : ZsAt wp u14 Z := ZOwn.zs hZO
      have HOB : Hid (∀ g, u14.ownBlock = some g → w4.heap.size ≤ g) := fun g hg => (own_lt hZO hg).2
      obtain ⟨a14, c14, hu⟩ := ZsAt.form hZs
      rw [HZL.out] at hu
      subst hu
      have HCX : Hid (∀ w', Below w.heap.size w w' → ZsAt w' (.slice a14 n2 c14) Z → Calls Tryz.prog 31 #[.agg #[.slice a1 n1 c1, .slice a2 n2 c2, .slice a3 n3 c3], .string (E x), .slice a14 n2 c14] w' fun e w'' => ∃ v, e = .returned v ∧ NOwn w'' w'.heap.size v (N.msgs x Z) ∧ Below w'.heap.size w' w'') := fun w' h1 h2 => HFI.out x Z _ w' HXX.out h1 h2 HZB.out (by rw [HZL.out, HN2.out])
      have HZF : Hid (FarS (.slice a14 n2 c14) gF ∧ FarS (.slice a14 n2 c14) gO) := by
       have h := HT4.out
       exact ⟨fun b o n c e hn hb => by
        have := HOB.out b (by rw [e]; rfl)
        omega, fun b o n c e hn hb => by
        have := HOB.out b (by rw [e]; rfl)
        omega⟩
      obtain ⟨cl, hcl⟩ : ∃ l : List (Addr × Value), l = [(⟨gS, 0, none⟩, .slice a1 n1 c1), (⟨gS, 1, none⟩, .slice a2 n2 c2), (⟨gS, 2, none⟩, .slice a3 n3 c3), (⟨gT, 0, none⟩, .slice uo m uc), (⟨gT, 1, none⟩, .string sdk), (⟨gT, 2, none⟩, .int .i64 tik)] := ⟨_, rfl⟩
      have HCL := Lib.hid hcl
      clear hcl
      have hC : CA wp cl := by
       rw [HCL.out]
       exact CA.cons hP.lt (hP.cell 0) (CA.cons hP.lt (hP.cell 1) (CA.cons hP.lt (hP.cell 2) (CA.cons hT.lt (hT.cell 0) (CA.cons hT.lt (hT.cell 1) (CA.cons hT.lt (hT.cell 2) (CA.nil _))))))
      have HNF : Hid (∀ y ∈ cl, y.1.block ≠ gF) := by
       have h := HNE.out
       rw [Hid, HCL.out]
       intro y hy
       simp only [List.mem_cons, List.not_mem_nil, or_false] at hy
       rcases hy with rfl | rfl | rfl | rfl | rfl | rfl
       ·exact h.2.2.2.1
       ·exact h.2.2.2.1
       ·exact h.2.2.2.1
       ·exact fun e => h.2.1 e.symm
       ·exact fun e => h.2.1 e.symm
       ·exact fun e => h.2.1 e.symm
      have HNO : Hid (∀ y ∈ cl, y.1.block ≠ gO) := by
       have h := HNE.out
       rw [Hid, HCL.out]
       intro y hy
       simp only [List.mem_cons, List.not_mem_nil, or_false] at hy
       rcases hy with rfl | rfl | rfl | rfl | rfl | rfl
       ·exact h.2.2.2.2
       ·exact h.2.2.2.2
       ·exact h.2.2.2.2
       ·exact fun e => h.2.2.1 e.symm
       ·exact fun e => h.2.2.1 e.symm
       ·exact fun e => h.2.2.1 e.symm
      have HBR := Lib.hid hbr
      have HZS := Lib.hid hZs
      have HHF := Lib.hid hF
      have HHO := Lib.hid hO
      have hFl := hF.lt
      have hOl := hO.lt
      have hPl := hP.lt
      have hskip := hbr
      clear hskip
      obtain ⟨hPc0, hPf0, hPc1, hPf1, hPc2, hPf2⟩ := hP.x3
      go_upto_region 21 with fail
      clear hPc0 hPf0 hPc1 hPf1 hPc2 hPf2
      obtain ⟨hFc0, hFf0, hFc1, hFf1, hFc2, hFf2⟩ := hF.x3
      obtain ⟨hOc0, hOf0, hOc1, hOf1, hOc2, hOf2⟩ := hO.x3
      clear hPl hT hTA hFG hP hF hO hUs hZO hbr hI2 hJ hZs
      go_wp2_with fail
      go_region_held3 (fun w' => w'.cell? ⟨gS, 0, none⟩ = some (.slice a1 n1 c1) ∧ w'.cell? ⟨gS, 1, none⟩ = some (.slice a2 n2 c2) ∧ w'.cell? ⟨gS, 2, none⟩ = some (.slice a3 n3 c3) ∧ w'.cell? ⟨gT, 0, none⟩ = some (.slice uo m uc) ∧ w'.cell? ⟨gT, 1, none⟩ = some (.string sdk) ∧ w'.cell? ⟨gT, 2, none⟩ = some (.int .i64 tik)) ((refine CA.k6 ?_; rw [← HCL.out]; repeat (first | (with_reducible exact hCf) | (with_reducible exact hC) | (with_reducible refine CA.drew ?_) | (refine CA.set ?_ _ _ _ HNF.out) | (refine CA.set ?_ _ _ _ HNO.out))))
       (first | (go_at_call 31; (with_reducible refine (HCX.out _ ?_ ?_).mono ?_); (· repeat (first | (with_reducible exact HBR.out) | (with_reducible refine Below.drew ?_) | (refine Below.setCell ?_ HGO.out _))); (· repeat (first | (with_reducible exact HZS.out) | (refine ZsAt.after ?_ (Below.drew (Below.refl _ _))) | (refine IsAt.set_far ?_ HZF.out.2))); rintro e wf ⟨v, rfl, hV, hbf⟩; have hVs := NOwn.ss hV; obtain ⟨av, cv, rfl⟩ := RAt.form hVs; have hCf := hC.drew.after hbf; have hFf := HHF.out.drew.after hbf; have hOf := HHO.out.drew.after hbf; have lF := hFf.lt; have lO := hOf.lt; obtain ⟨hFfc0, hFff0, hFfc1, hFff1, hFfc2, hFff2⟩ := hFf.x3; obtain ⟨hOfc0, hOff0, hOfc1, hOff1, hOfc2, hOff2⟩ := hOf.x3))
      clear hFff0 hFff1 hFff2 hOff0 hOff1 hOff2 hCf
      go_wp2
      rw [List.length_map] at hV hVs
      have hms := HMS.out x Z
      have hbd : Below wp.heap.size wp wf := (Below.drew (Below.refl _ _)).trans hbf
      have hvb : ∀ g, Value.ownBlock (.slice av (N.msgs x Z).length cv) = some g → wp.heap.size ≤ g := fun g hg => (own_lt hV hg).2
      have h4 := HT4.out
      have h5 := HSZ.out
      have h6 := HW4.out
      have hVF : FarS (.slice av (N.msgs x Z).length cv) gF ∧ FarS (.slice av (N.msgs x Z).length cv) gO := ⟨fun b o n c e hn hb => by
       have := hvb b (by rw [e]; rfl)
       omega, fun b o n c e hn hb => by
       have := hvb b (by rw [e]; rfl)
       omega⟩
      have hzf : ZsAt wf (.slice a14 n2 c14) Z := ZsAt.after HZS.out hbd
      have hzi : IsAt wf (.slice a14 n2 c14) (Z.map zI) := hzf
      have hbb := bt HBR.out hbd
      refine bodyPost_ret (v := .tuple #[.agg #[.slice av (N.msgs x Z).length cv, .string (E x), .slice a14 n2 c14], .agg #[.slice uo m uc, .string sdk, .int .i64 tik], .int .i64 0]) ?_ rfl ⟨_, _, _, (N.msgs x Z).map E, Z.map zI, _, 0, rfl, ?_, ?_, ?_, ?_, ?_, ?_, ?_, ⟨_, _, _, _, _, rfl⟩, ?_, ?_⟩
      ·simp [results, Tryz.results32, go_sem, hFfc0, hFfc1, hFfc2, lF, hOfc0, hOfc1, hOfc2, lO, neFO, neOF]
      ·exact (((((hVs.set_far hVF.1).set_far hVF.1).set_far hVF.1).set_far hVF.2).set_far hVF.2).set_far hVF.2
      ·exact (((((hzi.set_far HZF.out.1).set_far HZF.out.1).set_far HZF.out.1).set_far HZF.out.2).set_far HZF.out.2).set_far HZF.out.2
      ·rw [List.length_map]; exact hms.1
      ·intro y hy
       obtain ⟨z, hz, rfl⟩ := List.mem_map.1 hy
       exact (E_size_le z 9).2 (hms.2 z hz)
      ·rw [List.length_map, HZL.out]; exact l2
      ·intro y hy
       obtain ⟨z, hz, rfl⟩ := List.mem_map.1 hy
       show (E z.natAbs).size ≤ 40
       exact (E_size_le z.natAbs 40).2 (HZB.out z hz)
      ·exact Nat.le_trans ((E_size_le x 8).2 HXX.out) (by decide)
      ·exact fun g hg => ⟨fun b o n c e hn hb => by
        have := hvb b (by rw [e]; rfl)
        omega, fun b o n c e hn hb => by
        have := HOB.out b (by rw [e]; rfl)
        omega⟩
      ·exact (((((hbb.setCell HGF.out _).setCell HGF.out _).setCell HGF.out _).setCell HGO.out _).setCell HGO.out _).setCell HGO.out _
end Go.Proofs.YtehoiholhkfcpaaGreat
end

section
set_option linter.unusedVariables false
set_option linter.unusedSimpArgs false
set_option maxRecDepth 100000
namespace Go.Proofs.YtehoiholhkfcpaaGreat
open Go.RowKit Go.Shelf

/-- ref17.Simulate returns, for any case of the law -/
theorem simul_x (hc : HCmp) (S : Sta) (C K ch sd : ByteArray) (V : List ByteArray) (ti : Int) (s1 s2 s3 xt : Option Addr) (m1 m2 m3 d1 d2 d3 nt pt : Nat) (w : World) (hC : C.size ≤ 8) (hK : K.size ≤ 8) (hch : ch.size ≤ 8) (hf : fewB S = true) (hS : StAt w (.slice s1 m1 d1) (.slice s2 m2 d2) (.slice s3 m3 d3) S)
  (hV : SsAt w (.slice xt nt pt) V) (hVn : V.length ≤ 100) (hVs : ∀ x ∈ V, x.size ≤ 24) (hsd : sd.size ≤ 60) :
  ∀ w', Below w.heap.size w w' → Calls Tryz.prog 32 #[.agg #[.string C, .string K], .agg #[.slice s1 m1 d1, .slice s2 m2 d2, .slice s3 m3 d3], .string ch, .agg #[.slice xt nt pt, .string sd, .int .i64 ti]] w' (SimPost w') := by
 intro w' hb
 obtain ⟨k, hk, h1, h2⟩ | ⟨N, c, k, rfl, rfl, h8, k8, hm, hN, h0, c2, k2, hv, h1, h2⟩ := bnd7 S C K _ _ _ w hC hK hf hS
 ·exact simul_err C K ch sd _ _ _ xt nt pt ti k w' hk (fun w2 hb2 => h2 w2 (bt hb hb2)) ⟨_, _, _, rfl⟩ ⟨_, _, _, rfl⟩ ⟨_, _, _, rfl⟩
 ·exact simul_num hc N c k ch _ _ _ _ w' h8 k8 hch hm (hN.after hb) h0 ⟨_, V, sd, ti, rfl, SsAt.after hV hb, hVn, hVs, hsd⟩ (fun w2 hb2 => h2 w2 (bt hb hb2))

theorem proof_c17 (hc : HCmp) (S : Sta) (C K ch sd : ByteArray) (WL L : List (Bool × ByteArray)) (V : List ByteArray) (ti : Int) (s1 s2 s3 xw xl xt : Option Addr) (m1 m2 m3 d1 d2 d3 nw pw nl pl nt pt : Nat) (w : World) (hC : C.size ≤ 8) (hK : K.size ≤ 8) (hch : ch.size ≤ 8) (hf : fewB S = true) (hS : StAt w (.slice s1 m1 d1) (.slice s2 m2 d2) (.slice s3 m3 d3) S)
  (hl1 : L.length ≤ 20) (hl2 : ∀ x ∈ L, x.2.size ≤ 24) (hL : IsAt w (.slice xl nl pl) L) (hV : SsAt w (.slice xt nt pt) V) (hVn : V.length ≤ 100) (hVs : ∀ x ∈ V, x.size ≤ 24) (hsd : sd.size ≤ 60) :
  ∀ w', Below w.heap.size w w' → Calls Tryz.prog 11 #[.agg #[.string C, .string K, .slice s1 m1 d1, .slice s2 m2 d2, .slice s3 m3 d3, .slice xw nw pw, .string ch, .slice xl nl pl, .slice xt nt pt, .string sd, .int .i64 ti]] w' (PrfPost w') := by
 intro w' hb
 obtain ⟨k, G, hG, hG9, h⟩ := first_ref S C K ch L _ _ _ _ w hC hK hch hf hS hl1 hl2 hL
 exact proof_x C K ch sd L G k s1 s2 s3 xw xl xt m1 m2 m3 d1 d2 d3 nw pw nl pl nt pt ti w' (fun x hx => Nat.le_trans (hl2 x hx) (by decide)) (IsAt.after hL hb) hG hG9
  (fun w2 hb2 => simul_x hc S C K ch sd V ti s1 s2 s3 xt m1 m2 m3 d1 d2 d3 nt pt w hC hK hch hf hS hV hVn hVs hsd w2 (bt hb hb2)) (fun w2 hb2 => h w2 (bt hb hb2))
end Go.Proofs.YtehoiholhkfcpaaGreat
end
