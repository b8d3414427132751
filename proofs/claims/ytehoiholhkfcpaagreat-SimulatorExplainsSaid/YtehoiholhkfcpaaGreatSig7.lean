import Derived.Test.YtehoiholhkfcpaaGreatSig4
section
set_option linter.unusedVariables false
set_option linter.unusedSimpArgs false
set_option maxRecDepth 100000
namespace Go.Proofs.YtehoiholhkfcpaaGreat
open Go.RowKit Go.Shelf

/-- p at 0 .. n - 1 -/
def ra (n : Nat) (p : Nat → Bool) : Bool := (List.range n).all p
theorem ra_true {n : Nat} {p : Nat → Bool} (h : ∀ j, j < n → p j = true) : ra n p = true := by
 unfold ra; rw [List.all_eq_true]; intro x hx; exact h x (List.mem_range.1 hx)
theorem ra_false {n j : Nat} {p : Nat → Bool} (hj : j < n) (h : p j = false) : ra n p = false := by
 unfold ra; rw [List.all_eq_false]; exact ⟨j, List.mem_range.2 hj, by simp [h]⟩
theorem ra_at {n j : Nat} {p : Nat → Bool} (h : ra n p = true) (hj : j < n) : p j = true := by
 unfold ra at h; rw [List.all_eq_true] at h; exact h j (List.mem_range.2 hj)

def NSta.eq (N : NSta) (j : Nat) : NEqn := N.eqs.getD j ⟨0, 0, []⟩
theorem eq_at (N : NSta) (j : Nat) (h : j < N.eqs.length) : N.eq j = N.eqs[j] := by
 unfold NSta.eq; rw [List.getD_eq_getElem?_getD, List.getElem?_eq_getElem h]; rfl
def blJ (N : NSta) (C K : Nat) (Z : List Int) (j : Nat) : Bool := blw (N.vars.getD j 0) (Z.getD j 0) (lim N.ord C K (N.vars.getD j 0)).2
def hsJ (N : NSta) (F : List Nat) (j : Nat) : Bool := hasB (N.gp (N.eq j)).1 (N.gp (N.eq j)).2 (F.getD j 0)
def imJ (N : NSta) (F : List Nat) (c : Nat) (Z : List Int) (j : Nat) : Bool := decide (F.getD j 0 * powI (N.eq j).tgt (c : Int) (N.gp (N.eq j)).1 % (N.gp (N.eq j)).1 = imgV N Z (N.eq j))
/-- the error of a proof in numbers -/
def NSta.ver (N : NSta) (C K : Nat) (F : List Nat) (c : Nat) (Z : List Int) : Nat :=
 if F.length ≠ N.eqs.length ∨ Z.length ≠ N.vars.length then 6 else if C ≤ c then 2 else if ra N.vars.length (blJ N C K Z) = false then 2
 else if ra N.eqs.length (hsJ N F) = false then 13 else if ra N.eqs.length (imJ N F c Z) = false then 16 else 0

theorem ver_6 {N : NSta} {C K c : Nat} {F : List Nat} {Z : List Int} (h : F.length ≠ N.eqs.length ∨ Z.length ≠ N.vars.length) : N.ver C K F c Z = 6 := by unfold NSta.ver; rw [if_pos h]
theorem ver_2 {N : NSta} {C K c : Nat} {F : List Nat} {Z : List Int} (h1 : F.length = N.eqs.length) (h2 : Z.length = N.vars.length) (h : C ≤ c) : N.ver C K F c Z = 2 := by unfold NSta.ver; rw [if_neg (by simp [h1, h2]), if_pos h]
theorem ver_2b {N : NSta} {C K c : Nat} {F : List Nat} {Z : List Int} (h1 : F.length = N.eqs.length) (h2 : Z.length = N.vars.length) (h : c < C) (h3 : ra N.vars.length (blJ N C K Z) = false) : N.ver C K F c Z = 2 := by unfold NSta.ver; rw [if_neg (by simp [h1, h2]), if_neg (by omega), if_pos h3]
theorem ver_13 {N : NSta} {C K c : Nat} {F : List Nat} {Z : List Int} (h1 : F.length = N.eqs.length) (h2 : Z.length = N.vars.length) (h : c < C) (h3 : ra N.vars.length (blJ N C K Z) = true) (h4 : ra N.eqs.length (hsJ N F) = false) : N.ver C K F c Z = 13 := by unfold NSta.ver; rw [if_neg (by simp [h1, h2]), if_neg (by omega), if_neg (by simp [h3]), if_pos h4]
theorem ver_16 {N : NSta} {C K c : Nat} {F : List Nat} {Z : List Int} (h1 : F.length = N.eqs.length) (h2 : Z.length = N.vars.length) (h : c < C) (h3 : ra N.vars.length (blJ N C K Z) = true) (h4 : ra N.eqs.length (hsJ N F) = true) (h5 : ra N.eqs.length (imJ N F c Z) = false) : N.ver C K F c Z = 16 := by unfold NSta.ver; rw [if_neg (by simp [h1, h2]), if_neg (by omega), if_neg (by simp [h3]), if_neg (by simp [h4]), if_pos h5]
theorem ver_0 {N : NSta} {C K c : Nat} {F : List Nat} {Z : List Int} (h1 : F.length = N.eqs.length) (h2 : Z.length = N.vars.length) (h : c < C) (h3 : ra N.vars.length (blJ N C K Z) = true) (h4 : ra N.eqs.length (hsJ N F) = true) (h5 : ra N.eqs.length (imJ N F c Z) = true) : N.ver C K F c Z = 0 := by unfold NSta.ver; rw [if_neg (by simp [h1, h2]), if_neg (by omega), if_neg (by simp [h3]), if_neg (by simp [h4]), if_neg (by simp [h5])]

theorem blJ_at (N : NSta) (C K : Nat) (Z : List Int) (j : Nat) (h : j < N.vars.length) (h2 : j < Z.length) : blJ N C K Z j = blw N.vars[j] Z[j] (lim N.ord C K N.vars[j]).2 := by
 unfold blJ; simp only [List.getD_eq_getElem?_getD, List.getElem?_eq_getElem h, List.getElem?_eq_getElem h2, Option.getD_some]
theorem hsJ_at (N : NSta) (F : List Nat) (j : Nat) (h : j < N.eqs.length) (h2 : j < F.length) (hg : N.eqs[j].grp < N.grps.length) : hsJ N F j = hasB N.grps[N.eqs[j].grp].1 N.grps[N.eqs[j].grp].2 F[j] := by
 unfold hsJ; rw [eq_at N j h, gp_at N _ hg]; simp only [List.getD_eq_getElem?_getD, List.getElem?_eq_getElem h2, Option.getD_some]
theorem imJ_at (N : NSta) (F : List Nat) (c : Nat) (Z : List Int) (j : Nat) (h : j < N.eqs.length) (h2 : j < F.length) (hg : N.eqs[j].grp < N.grps.length) : imJ N F c Z j = decide (F[j] * powI N.eqs[j].tgt (c : Int) N.grps[N.eqs[j].grp].1 % N.grps[N.eqs[j].grp].1 = imgV N Z N.eqs[j]) := by
 unfold imJ; rw [eq_at N j h, gp_at N _ hg]; simp only [List.getD_eq_getElem?_getD, List.getElem?_eq_getElem h2, Option.getD_some]

theorem lim_lt {N : NSta} (hm : NOk N) {C K : Nat} (hC : C < 256 ^ 8) (hK : K < 256 ^ 8) {b : Nat} (hb : b ∈ N.vars) : (lim N.ord C K b).2 < 256 ^ 32 := by
 unfold lim
 split
 ·exact Nat.lt_of_lt_of_le (ord_lt hm) (by decide)
 ·exact Nat.lt_of_le_of_lt (Nat.sub_le _ _) (lt_mul3 hC hK (hm.v b hb)).2

theorem lims_at (N : NSta) (C K : Nat) (j : Nat) (h : j < N.vars.length) (h2 : j < (N.lims C K).length) : (N.lims C K)[j] = lim N.ord C K N.vars[j] := by simp [NSta.lims]

theorem powI_nat (x c p : Nat) : powI x (c : Int) p = x ^ c % p := by
 unfold powI; rw [if_neg (by omega), Int.natAbs_natCast]

theorem has_powN {p q x : Nat} (c : Nat) (hp : 2 ≤ p) (h : hasB p q x = true) : hasB p q (powI x (c : Int) p) = true := by
 rw [powI_nat]
 have hx := has_coprime hp h
 have h1 : Nat.gcd (x ^ c % p) p = 1 := by
  have h2 : Nat.gcd (x ^ c) p = 1 := Nat.Coprime.pow_left c hx
  rw [Nat.gcd_comm, Nat.gcd_rec] at h2
  exact h2
 have hlt : x ^ c % p < p := Nat.mod_lt _ (by omega)
 have h0 : x ^ c % p ≠ 0 := by
  intro e; rw [e, Nat.gcd_zero_left] at h1; omega
 unfold hasB at h ⊢
 by_cases hq : q = 0
 ·rw [if_pos hq]; exact decide_eq_true ⟨h0, hlt, h1⟩
 ·rw [if_neg hq] at h ⊢
  have h3 := (of_decide_eq_true h).2.2
  refine decide_eq_true ⟨h0, hlt, ?_⟩
  rw [← Nat.pow_mod, ← Nat.pow_mul, Nat.mul_comm, Nat.pow_mul, Nat.pow_mod, h3, ← Nat.pow_mod, Nat.one_pow]

theorem pexpN_c (p q x c : Nat) (w : World) (hp : p < 256 ^ 8) (hq : q < 256 ^ 128) (he : grpE p q = 0) (hx : hasB p q x = true) (hc : c < 256 ^ 128) :
  Calls Tryz.prog 55 #[.agg #[.string (E p), .string (E q)], .string (E x), .agg #[.bool (sg (c : Int)), .string (E c)]] w fun e w' => e = .returned (.tuple #[.string (E (powI x (c : Int) p)), .int .i64 0]) ∧ Below w.heap.size w w' := by
 have := pexp_c p q x (c : Int) w hp hq he hx (by rw [Int.natAbs_natCast]; exact hc)
 rwa [Int.natAbs_natCast] at this
theorem rexpN_c (p q x c : Nat) (w : World) (hp : p < 256 ^ 8) (hq : q < 256 ^ 128) (he : grpE p q = 0) (hx : hasB p q x = true) (hc : c < 256 ^ 128) :
  Calls Tryz.prog 85 #[.agg #[.string (E p), .string (E q)], .string (E x), .agg #[.bool false, .string (E c)]] w fun e w' => e = .returned (.tuple #[.string (E (powI x (c : Int) p)), .int .i64 0]) ∧ Below w.heap.size w w' := by
 have := rexp13_c p q x (c : Int) w hp hq he hx (by rw [Int.natAbs_natCast]; exact hc)
 rwa [Int.natAbs_natCast, sg_nat] at this

theorem svalidV_c (l : List (Bool × ByteArray)) (v : Value) (b : Bool) (w : World) (hn : l.length ≤ 1000) (hs : ∀ x ∈ l, x.2.size ≤ 1000) (hR : IsAt w v l) (h : (l.all fun x => ivB x.1 x.2) = b) :
  Calls Tryz.prog 66 #[v] w fun e w' => e = .returned (.bool b) ∧ Below w.heap.size w w' := by rw [← h]; exact svalid_c l v w hn hs hR
theorem rformedV_c (l : List (Bool × ByteArray)) (v : Value) (b : Bool) (w : World) (hn : l.length ≤ 1000) (hs : ∀ x ∈ l, x.2.size ≤ 1000) (hR : IsAt w v l) (h : (l.all fun x => ivB x.1 x.2) = b) :
  Calls Tryz.prog 81 #[v] w fun e w' => e = .returned (.bool b) ∧ Below w.heap.size w w' := by rw [← h]; exact rformed16_c l v w hn hs hR

/-- whether the numbers of a proof are canonical -/
def prB (F : List ByteArray) (ch : ByteArray) (R : List (Bool × ByteArray)) : Bool := F.all vldB && vldB ch && R.all fun x => ivB x.1 x.2

set_option maxHeartbeats 4000000 in
theorem verify_form (C K ch : ByteArray) (v1 v2 v3 f rs : Value) (F : List ByteArray) (R : List (Bool × ByteArray)) (w : World)
  (hch : ∀ w', Below w.heap.size w w' → Calls Tryz.prog 50 #[.agg #[.string C, .string K], .agg #[v1, v2, v3]] w' fun e w'' => ∃ v, e = .returned (.tuple #[v, .int .i64 0]) ∧ Below w'.heap.size w' w'')
  (hn1 : F.length ≤ 1000) (hs1 : ∀ x ∈ F, x.size ≤ 1000) (hn2 : R.length ≤ 1000) (hs2 : ∀ x ∈ R, x.2.size ≤ 1000) (hsc : ch.size ≤ 1000) (hFs : SsAt w f F) (hIs : IsAt w rs R) (hb : prB F ch R = false) :
  Calls Tryz.prog 33 #[.agg #[.string C, .string K], .agg #[v1, v2, v3], .agg #[f, .string ch, rs]] w fun e w' => e = .returned (.int .i64 3) ∧ Below w.heap.size w w' := by
 have HCH := Lib.hid hch
 have HS1 := Lib.hid hs1
 have HS2 := Lib.hid hs2
 have HN2 := Lib.hid hn2
 have HSC := Lib.hid hsc
 have HB := Lib.hid hb
 obtain ⟨a1, c1, rfl⟩ := RAt.form hFs
 obtain ⟨a2, c2, rfl⟩ := RAt.form hIs
 obtain ⟨n, hn'⟩ : ∃ n, n = F.length := ⟨_, rfl⟩
 have HN := Lib.hid hn'
 rw [← hn'] at hFs hn1 ⊢
 clear hn'
 have hR := blk3a w #[.string C, .string K] #[v1, v2, v3] #[.slice a1 n c1, .string ch, .slice a2 R.length c2] 24 29 45
 have hP := blk3b w #[.string C, .string K] #[v1, v2, v3] #[.slice a1 n c1, .string ch, .slice a2 R.length c2] 24 29 45
 have hF := blk3c w #[.string C, .string K] #[v1, v2, v3] #[.slice a1 n c1, .string ch, .slice a2 R.length c2] 24 29 45
 have hBW := b3 w (.cells #[.string C, .string K] 24) (.cells #[v1, v2, v3] 29) (.cells #[.slice a1 n c1, .string ch, .slice a2 R.length c2] 45)
 replace hFs := SsAt.after hFs hBW
 replace hIs := IsAt.after hIs hBW
 clear hch hs1 hs2 hn2 hsc hb
 obtain ⟨hRc0, hRf0, hRc1, hRf1⟩ := hR.x2
 obtain ⟨hPc0, hPf0, hPc1, hPf1, hPc2, hPf2⟩ := hP.x3
 go_enter Tryz.func33, Tryz.ntmps33
 go_wp2_with fail
 refine (HCH.out _ hBW).mono ?_
 rintro e w2 ⟨lv, rfl, hb2⟩
 clear hRc0 hRf0 hRc1 hRf1
 clear hPc0 hPf0 hPc1 hPf1 hPc2 hPf2
 replace hF := hF.after hb2
 replace hFs := SsAt.after hFs hb2
 replace hIs := IsAt.after hIs hb2
 replace hBW := bt hBW hb2
 clear hb2 hR hP
 have hFl := hF.lt
 obtain ⟨hFc0, hFf0, hFc1, hFf1, hFc2, hFf2⟩ := hF.x3
 go_wp2
 clear hFc0 hFf0 hFc1 hFf1 hFc2 hFf2
 go_loopw [33] (fun i wr => ∃ k : Nat, k ≤ n ∧ i = .int .i64 k ∧ Hid ((F.take k).all vldB = true) ∧ Below w2.heap.size w2 wr) (fun i _ => n - (intOf i).toNat)
 case atStart => exact ⟨0, by omega, rfl, rfl, Below.refl _ _⟩
 case round =>
  obtain ⟨k, hk, rfl, HA, hbr⟩ := hrel
  obtain ⟨wp, hwp⟩ : ∃ wp, wp = wr := ⟨_, rfl⟩
  subst hwp
  replace hF := hF.after hbr
  replace hFs := SsAt.after hFs hbr
  replace hIs := IsAt.after hIs hbr
  replace hBW := bt hBW hbr
  by_cases hlt : k < n
  ·have hkl : k < F.length := by rw [← HN.out]; exact hlt
   have HT := Lib.hid (all_take vldB F k hkl)
   have HSZ := Lib.hid (HS1.out _ (List.getElem_mem hkl))
   obtain ⟨b, o, rfl, hbl, x1⟩ := SsAt.at_ hFs hkl
   generalize (F[k]'hkl) = s1 at x1 HT HSZ
   have h0k : (0 : Int) ≤ (k : Int) := by omega
   have h1k : (k : Int) < (n : Int) := by omega
   cases hv : vldB s1
   ·have HV := Lib.hid hv
    clear hv
    go_wp2_with fail
    refine (valB_c s1 false _ HSZ.out HV.out).mono ?_
    rintro e w' ⟨rfl, hw'⟩
    subst w'
    go_wp2
    go_ret
    exact ⟨rfl, hBW⟩
   ·have HV := Lib.hid hv
    have HX : Hid ((F.take (k + 1)).all vldB = true) := by rw [Hid, HT.out, HA.out]; exact hv
    clear hv
    go_wp2_with fail
    refine (valB_c s1 true _ HSZ.out HV.out).mono ?_
    rintro e w' ⟨rfl, hw'⟩
    subst w'
    go_wp2
    go_roundw
    case rel => exact ⟨k + 1, by omega, by go_num, HX, hbr⟩
    case measure => simp [intOf]; omega
  ·have HFA : Hid (F.all vldB = true) := all_end vldB F k (by rw [← HN.out]; omega) HA.out
   have hFl2 := hF.lt
   cases hv : vldB ch
   ·have HV := Lib.hid hv
    clear hv
    obtain ⟨hFc0, hFf0, hFc1, hFf1, hFc2, hFf2⟩ := hF.x3
    go_wp2_with fail
    refine (valB_c ch false _ HSC.out HV.out).mono ?_
    rintro e w' ⟨rfl, hw'⟩
    subst w'
    go_wp2
    go_ret
    exact ⟨rfl, hBW⟩
   ·have HV := Lib.hid hv
    have HRV : Hid ((R.all fun x => ivB x.1 x.2) = false) := by
     have := HB.out
     unfold prB at this
     rw [HFA.out, hv] at this
     exact this
    clear hv
    obtain ⟨hFc0, hFf0, hFc1, hFf1, hFc2, hFf2⟩ := hF.x3
    go_wp2_with fail
    refine (valB_c ch true _ HSC.out HV.out).mono ?_
    rintro e w' ⟨rfl, hw'⟩
    subst w'
    go_wp2_with fail
    refine (svalidV_c R _ false _ HN2.out HS2.out hIs HRV.out).mono ?_
    rintro e w5 ⟨rfl, hb5⟩
    go_wp2
    go_ret
    exact ⟨rfl, bt hBW hb5⟩

set_option maxHeartbeats 4000000 in
theorem rverify_form (C K ch : ByteArray) (v1 v2 v3 f rs : Value) (F : List ByteArray) (R : List (Bool × ByteArray)) (w : World)
  (hch : ∀ w', Below w.heap.size w w' → Calls Tryz.prog 26 #[.agg #[.string C, .string K], .agg #[v1, v2, v3]] w' fun e w'' => ∃ v u, e = .returned (.tuple #[v, u, .int .i64 0]) ∧ Below w'.heap.size w' w'')
  (hn1 : F.length ≤ 1000) (hs1 : ∀ x ∈ F, x.size ≤ 1000) (hn2 : R.length ≤ 1000) (hs2 : ∀ x ∈ R, x.2.size ≤ 1000) (hsc : ch.size ≤ 1000) (hFs : SsAt w f F) (hIs : IsAt w rs R) (hb : prB F ch R = false) :
  Calls Tryz.prog 40 #[.agg #[.string C, .string K], .agg #[v1, v2, v3], .agg #[f, .string ch, rs]] w fun e w' => e = .returned (.int .i64 3) ∧ Below w.heap.size w w' := by
 have HCH := Lib.hid hch
 have HS1 := Lib.hid hs1
 have HS2 := Lib.hid hs2
 have HN2 := Lib.hid hn2
 have HSC := Lib.hid hsc
 have HB := Lib.hid hb
 obtain ⟨a1, c1, rfl⟩ := RAt.form hFs
 obtain ⟨a2, c2, rfl⟩ := RAt.form hIs
 obtain ⟨n, hn'⟩ : ∃ n, n = F.length := ⟨_, rfl⟩
 have HN := Lib.hid hn'
 rw [← hn'] at hFs hn1 ⊢
 clear hn'
 have hR := blk3a w #[.string C, .string K] #[v1, v2, v3] #[.slice a1 n c1, .string ch, .slice a2 R.length c2] 24 29 45
 have hP := blk3b w #[.string C, .string K] #[v1, v2, v3] #[.slice a1 n c1, .string ch, .slice a2 R.length c2] 24 29 45
 have hF := blk3c w #[.string C, .string K] #[v1, v2, v3] #[.slice a1 n c1, .string ch, .slice a2 R.length c2] 24 29 45
 have hBW := b3 w (.cells #[.string C, .string K] 24) (.cells #[v1, v2, v3] 29) (.cells #[.slice a1 n c1, .string ch, .slice a2 R.length c2] 45)
 replace hFs := SsAt.after hFs hBW
 replace hIs := IsAt.after hIs hBW
 clear hch hs1 hs2 hn2 hsc hb
 obtain ⟨hRc0, hRf0, hRc1, hRf1⟩ := hR.x2
 obtain ⟨hPc0, hPf0, hPc1, hPf1, hPc2, hPf2⟩ := hP.x3
 go_enter Tryz.func40, Tryz.ntmps40
 go_wp2_with fail
 refine (HCH.out _ hBW).mono ?_
 rintro e w2 ⟨lv, lu, rfl, hb2⟩
 clear hRc0 hRf0 hRc1 hRf1
 clear hPc0 hPf0 hPc1 hPf1 hPc2 hPf2
 replace hF := hF.after hb2
 replace hFs := SsAt.after hFs hb2
 replace hIs := IsAt.after hIs hb2
 replace hBW := bt hBW hb2
 clear hb2 hR hP
 have hFl := hF.lt
 cases hv : vldB ch
 ·have HV := Lib.hid hv
  clear hv
  obtain ⟨hFc0, hFf0, hFc1, hFf1, hFc2, hFf2⟩ := hF.x3
  go_wp2_with fail
  refine (rvalB_c ch false _ HSC.out HV.out).mono ?_
  rintro e w' ⟨rfl, hw'⟩
  subst w'
  go_wp2
  go_ret
  exact ⟨rfl, hBW⟩
 ·have HV := Lib.hid hv
  clear hv
  cases hr : (R.all fun x => ivB x.1 x.2)
  ·have HRV := Lib.hid hr
   clear hr
   obtain ⟨hFc0, hFf0, hFc1, hFf1, hFc2, hFf2⟩ := hF.x3
   go_wp2_with fail
   refine (rvalB_c ch true _ HSC.out HV.out).mono ?_
   rintro e w' ⟨rfl, hw'⟩
   subst w'
   go_wp2_with fail
   refine (rformedV_c R _ false _ HN2.out HS2.out hIs HRV.out).mono ?_
   rintro e w5 ⟨rfl, hb5⟩
   go_wp2
   go_ret
   exact ⟨rfl, bt hBW hb5⟩
  ·have HRV := Lib.hid hr
   have HFV : Hid (F.all vldB = false) := by
    have := HB.out
    unfold prB at this
    rw [HV.out, HRV.out, Bool.and_true, Bool.and_true] at this
    exact this
   clear hr
   obtain ⟨hFc0, hFf0, hFc1, hFf1, hFc2, hFf2⟩ := hF.x3
   go_wp2_with fail
   refine (rvalB_c ch true _ HSC.out HV.out).mono ?_
   rintro e w' ⟨rfl, hw'⟩
   subst w'
   go_wp2_with fail
   refine (rformedV_c R _ true _ HN2.out HS2.out hIs HRV.out).mono ?_
   rintro e w5 ⟨rfl, hb5⟩
   clear hFc0 hFf0 hFc1 hFf1 hFc2 hFf2
   replace hF := hF.after hb5
   replace hFs := SsAt.after hFs hb5
   replace hBW := bt hBW hb5
   clear hb5 hFl hIs
   go_wp2
   go_loopw [10] (fun i wr => ∃ k : Nat, k ≤ n ∧ i = .int .i64 k ∧ Hid ((F.take k).all vldB = true) ∧ Below w5.heap.size w5 wr) (fun i _ => n - (intOf i).toNat)
   case atStart => exact ⟨0, by omega, rfl, rfl, Below.refl _ _⟩
   case round =>
    obtain ⟨k, hk, rfl, HA, hbr⟩ := hrel
    obtain ⟨wp, hwp⟩ : ∃ wp, wp = wr := ⟨_, rfl⟩
    subst hwp
    replace hF := hF.after hbr
    replace hFs := SsAt.after hFs hbr
    replace hBW := bt hBW hbr
    have hFl := hF.lt
    by_cases hlt : k < n
    ·have hkl : k < F.length := by rw [← HN.out]; exact hlt
     have HT := Lib.hid (all_take vldB F k hkl)
     have HSZ := Lib.hid (HS1.out _ (List.getElem_mem hkl))
     obtain ⟨b, o, rfl, hbl, x1⟩ := SsAt.at_ hFs hkl
     generalize (F[k]'hkl) = s1 at x1 HT HSZ
     have h0k : (0 : Int) ≤ (k : Int) := by omega
     have h1k : (k : Int) < (n : Int) := by omega
     cases hv : vldB s1
     ·have HV2 := Lib.hid hv
      clear hv
      obtain ⟨hFc0, hFf0, hFc1, hFf1, hFc2, hFf2⟩ := hF.x3
      go_wp2_with fail
      refine (rvalB_c s1 false _ HSZ.out HV2.out).mono ?_
      rintro e w' ⟨rfl, hw'⟩
      subst w'
      go_wp2
      go_ret
      exact ⟨rfl, hBW⟩
     ·have HV2 := Lib.hid hv
      have HX : Hid ((F.take (k + 1)).all vldB = true) := by rw [Hid, HT.out, HA.out]; exact hv
      clear hv
      obtain ⟨hFc0, hFf0, hFc1, hFf1, hFc2, hFf2⟩ := hF.x3
      go_wp2_with fail
      refine (rvalB_c s1 true _ HSZ.out HV2.out).mono ?_
      rintro e w' ⟨rfl, hw'⟩
      subst w'
      go_wp2
      go_roundw
      case rel => exact ⟨k + 1, by omega, by go_num, HX, hbr⟩
      case measure => simp [intOf]; omega
    ·have HFA : F.all vldB = true := all_end vldB F k (by rw [← HN.out]; omega) HA.out
     exact absurd (HFA.symm.trans HFV.out) (by decide)

end Go.Proofs.YtehoiholhkfcpaaGreat
end

section
set_option linter.unusedVariables false
set_option linter.unusedSimpArgs false
set_option maxRecDepth 100000
namespace Go.Proofs.YtehoiholhkfcpaaGreat
open Go.RowKit Go.Shelf

set_option maxHeartbeats 8000000 in
theorem verify_num (N : NSta) (C K c : Nat) (F : List Nat) (Z : List Int) (v1 v2 v3 f rs : Value) (w : World) (hC : C < 256 ^ 8) (hK : K < 256 ^ 8) (hm : NOk N) (hS : NAt w v1 v2 v3 N) (hc : N.chk = 0)
  (hch : ∀ w', Below w.heap.size w w' → Calls Tryz.prog 50 #[.agg #[.string (E C), .string (E K)], .agg #[v1, v2, v3]] w' (BPost w' (N.lims C K)))
  (hFs : SsAt w f (F.map E)) (hZs : ZsAt w rs Z) (hf1 : F.length ≤ 1000) (hf2 : ∀ x ∈ F, x < 256 ^ 128) (hc2 : c < 256 ^ 128) (hz1 : Z.length ≤ 1000) (hz2 : ∀ z ∈ Z, z.natAbs < 256 ^ 64) :
  Calls Tryz.prog 33 #[.agg #[.string (E C), .string (E K)], .agg #[v1, v2, v3], .agg #[f, .string (E c), rs]] w fun e w' => e = .returned (.int .i64 (N.ver C K F c Z : Nat)) ∧ Below w.heap.size w w' := by
 obtain ⟨r, hr⟩ : ∃ r : Nat, r = N.ver C K F c Z := ⟨_, rfl⟩
 have HRES := Lib.hid hr
 rw [← hr]
 clear hr
 have HCH := Lib.hid hch
 have HCK := Lib.hid hc
 have HC := Lib.hid (lt128 hC)
 have HC8 := Lib.hid hC
 have HK8 := Lib.hid hK
 have HF2 := Lib.hid hf2
 have HCC := Lib.hid hc2
 have HZ2 := Lib.hid hz2
 obtain ⟨a4, c4, hfe⟩ := RAt.form hFs
 obtain ⟨a5, c5, hze⟩ := hZs.form
 rw [List.length_map] at hfe
 obtain ⟨nF, hnF⟩ : ∃ n, n = F.length := ⟨_, rfl⟩
 obtain ⟨nZ, hnZ⟩ : ∃ n, n = Z.length := ⟨_, rfl⟩
 have HNF := Lib.hid hnF
 have HNZ := Lib.hid hnZ
 rw [← hnF] at hfe hf1
 rw [← hnZ] at hze hz1
 subst hfe hze
 obtain ⟨a1, c1, a2, c2, a3, c3, rfl, rfl, rfl⟩ := hS.forms
 obtain ⟨n1, hn1⟩ : ∃ n, n = N.grps.length := ⟨_, rfl⟩
 obtain ⟨n2, hn2⟩ : ∃ n, n = N.vars.length := ⟨_, rfl⟩
 obtain ⟨n3, hn3⟩ : ∃ n, n = N.eqs.length := ⟨_, rfl⟩
 have HN1 := Lib.hid hn1
 have HN2 := Lib.hid hn2
 have HN3 := Lib.hid hn3
 have l1 : n1 ≤ 10 := by rw [hn1]; exact hm.ng
 have l2 : n2 ≤ 12 := by rw [hn2]; exact hm.nv
 have l3 : n3 ≤ 12 := by rw [hn3]; exact hm.ne
 have HM := Lib.hid hm
 rw [← hn1, ← hn2, ← hn3] at hS ⊢
 rw [← hn1, ← hn2, ← hn3] at HCH
 have hR := blk3a w #[.string (E C), .string (E K)] #[.slice a1 n1 c1, .slice a2 n2 c2, .slice a3 n3 c3] #[.slice a4 nF c4, .string (E c), .slice a5 nZ c5] 24 29 45
 have hP := blk3b w #[.string (E C), .string (E K)] #[.slice a1 n1 c1, .slice a2 n2 c2, .slice a3 n3 c3] #[.slice a4 nF c4, .string (E c), .slice a5 nZ c5] 24 29 45
 have hF := blk3c w #[.string (E C), .string (E K)] #[.slice a1 n1 c1, .slice a2 n2 c2, .slice a3 n3 c3] #[.slice a4 nF c4, .string (E c), .slice a5 nZ c5] 24 29 45
 have hBW := b3 w (.cells #[.string (E C), .string (E K)] 24) (.cells #[.slice a1 n1 c1, .slice a2 n2 c2, .slice a3 n3 c3] 29) (.cells #[.slice a4 nF c4, .string (E c), .slice a5 nZ c5] 45)
 replace hS := hS.after hBW
 replace hFs := SsAt.after hFs hBW
 replace hZs := hZs.after hBW
 clear hm hn1 hn2 hn3 hC hK hc hch hf2 hc2 hz2 hnF hnZ
 obtain ⟨hRc0, hRf0, hRc1, hRf1⟩ := hR.x2
 obtain ⟨hPc0, hPf0, hPc1, hPf1, hPc2, hPf2⟩ := hP.x3
 go_enter Tryz.func33, Tryz.ntmps33
 go_wp2_with fail
 refine (HCH.out _ hBW).mono ?_
 rintro e w2 ⟨lv, rfl, hLm, hb2⟩
 clear hRc0 hRf0 hRc1 hRf1
 clear hPc0 hPf0 hPc1 hPf1 hPc2 hPf2
 replace hR := hR.after hb2
 replace hP := hP.after hb2
 replace hF := hF.after hb2
 replace hS := hS.after hb2
 replace hFs := SsAt.after hFs hb2
 replace hZs := hZs.after hb2
 replace hBW := bt hBW hb2
 clear hb2
 obtain ⟨a6, c6, rfl⟩ := hLm.form
 have HLL : Hid ((N.lims C K).length = n2) := by rw [Hid, NSta.lims, List.length_map, HN2.out]
 rw [HLL.out] at hLm ⊢
 have hFl := hF.lt
 obtain ⟨hFc0, hFf0, hFc1, hFf1, hFc2, hFf2⟩ := hF.x3
 go_wp2
 clear hFc0 hFf0 hFc1 hFf1 hFc2 hFf2
 clear hFl
 go_loopw [33] (fun i wr => ∃ k : Nat, k ≤ nF ∧ i = .int .i64 k ∧ Below w2.heap.size w2 wr) (fun i _ => nF - (intOf i).toNat)
 case atStart => exact ⟨0, by omega, rfl, Below.refl _ _⟩
 case round =>
  obtain ⟨k, hk, rfl, hbr⟩ := hrel
  obtain ⟨wp, hwp⟩ : ∃ wp, wp = wr := ⟨_, rfl⟩
  subst hwp
  replace hR := hR.after hbr
  replace hP := hP.after hbr
  replace hF := hF.after hbr
  replace hS := hS.after hbr
  replace hFs := SsAt.after hFs hbr
  replace hZs := hZs.after hbr
  replace hLm := hLm.after hbr
  replace hBW := bt hBW hbr
  by_cases hlt : k < nF
  ·have hkl : k < F.length := by rw [← HNF.out]; exact hlt
   have hkl' : k < (F.map E).length := by simpa using hkl
   have HSZ := Lib.hid (HF2.out _ (List.getElem_mem hkl))
   obtain ⟨b, o, rfl, hbl, x1⟩ := SsAt.at_ hFs hkl'
   simp only [List.getElem_map] at x1
   generalize (F[k]'hkl) = s1 at x1 HSZ
   have h0k : (0 : Int) ≤ (k : Int) := by omega
   have h1k : (k : Int) < (nF : Int) := by omega
   go_wp2_with fail
   refine (validE_c s1 _ HSZ.out).mono ?_
   rintro e w' ⟨rfl, rfl⟩
   go_wp2
   go_roundw
   case rel => exact ⟨k + 1, by omega, by go_num, hbr⟩
   case measure => simp [intOf]; omega
  ·clear hbr
   have hFl := hF.lt
   obtain ⟨hFc0, hFf0, hFc1, hFf1, hFc2, hFf2⟩ := hF.x3
   go_wp2_with fail
   refine (validE_c c _ HCC.out).mono ?_
   rintro e w' ⟨rfl, rfl⟩
   go_wp2_with fail
   refine (svalidV_c (Z.map zI) _ true _ (by rw [List.length_map, ← HNZ.out]; exact hz1) (fun x hx => by obtain ⟨z, hz, rfl⟩ := List.mem_map.1 hx; exact Nat.le_trans ((E_size_le _ 64).2 (HZ2.out z hz)) (by decide)) hZs (by rw [List.all_map, List.all_eq_true]; intro z hz; exact ivB_I z (lt64 (HZ2.out z hz)))).mono ?_
   rintro e w5 ⟨rfl, hb5⟩
   clear hFc0 hFf0 hFc1 hFf1 hFc2 hFf2
   replace hR := hR.after hb5
   replace hP := hP.after hb5
   replace hF := hF.after hb5
   replace hS := hS.after hb5
   replace hFs := SsAt.after hFs hb5
   replace hZs := hZs.after hb5
   replace hLm := hLm.after hb5
   replace hBW := bt hBW hb5
   clear hb5 hFl
   have hFl := hF.lt
   have hPl := hP.lt
   have hRl := hR.lt
   by_cases hln : nF = n3 ∧ nZ = n2
   ·obtain ⟨e1, e2⟩ := hln
    have HL1 : Hid (F.length = N.eqs.length) := by rw [Hid, ← HNF.out, ← HN3.out]; exact e1
    have HL2 : Hid (Z.length = N.vars.length) := by rw [Hid, ← HNZ.out, ← HN2.out]; exact e2
    subst e1 e2
    rcases Nat.lt_or_ge c C with hcl | hcg
    ·have hcm := cmp_neg c C hcl
     have hcm2 : ¬ 0 ≤ cmpN c C := by omega
     have HCL := Lib.hid hcl
     clear hcl
     obtain ⟨hFc0, hFf0, hFc1, hFf1, hFc2, hFf2⟩ := hF.x3
     obtain ⟨hPc0, hPf0, hPc1, hPf1, hPc2, hPf2⟩ := hP.x3
     obtain ⟨hRc0, hRf0, hRc1, hRf1⟩ := hR.x2
     go_wp2_with fail
     refine (cmp_c c C _ HCC.out HC.out).mono ?_
     rintro e w' ⟨rfl, rfl⟩
     go_wp2
     clear hFc0 hFf0 hFc1 hFf1 hFc2 hFf2
     clear hPc0 hPf0 hPc1 hPf1 hPc2 hPf2
     clear hRc0 hRf0 hRc1 hRf1
     clear hcm hcm2
     go_loopw [79] (fun i wr => ∃ k : Nat, k ≤ nZ ∧ i = .int .i64 k ∧ Hid (∀ j, j < k → blJ N C K Z j = true) ∧ Below w5.heap.size w5 wr) (fun i _ => nZ - (intOf i).toNat)
     case atStart => exact ⟨0, by omega, rfl, fun j h => absurd h (Nat.not_lt_zero _), Below.refl _ _⟩
     case round =>
      obtain ⟨k, hk, rfl, HA, hbr⟩ := hrel
      obtain ⟨wq, hwq⟩ : ∃ wp, wp = wr := ⟨_, rfl⟩
      subst hwq
      replace hR := hR.after hbr
      replace hP := hP.after hbr
      replace hF := hF.after hbr
      replace hS := hS.after hbr
      replace hFs := SsAt.after hFs hbr
      replace hZs := hZs.after hbr
      replace hLm := hLm.after hbr
      replace hBW := bt hBW hbr
      clear hFl hPl hRl
      have hFl := hF.lt
      have hPl := hP.lt
      have hRl := hR.lt
      by_cases hlt : k < nZ
      ·have hkl : k < N.vars.length := by rw [← HL2.out, ← HNZ.out]; exact hlt
       have hkz : k < Z.length := by rw [← HNZ.out]; exact hlt
       have hkL : k < (N.lims C K).length := by rw [HLL.out]; exact hlt
       have HBJ := Lib.hid (blJ_at N C K Z k hkl hkz)
       have HLT := Lib.hid (lim_lt HM.out HC8.out HK8.out (List.getElem_mem hkl))
       have HZB := Lib.hid (lt64 (HZ2.out _ (List.getElem_mem hkz)))
       obtain ⟨b, o, rfl, hbl, x1⟩ := hS.vat hkl
       obtain ⟨b', o', rfl, hbl', y1, y2⟩ := hZs.at_ hkz
       obtain ⟨b6, rfl, hbl6, z1, z2⟩ := hLm.at_ hkL
       rw [lims_at N C K k hkl hkL] at z1 z2
       generalize (N.vars[k]'hkl) = vb at x1 z1 z2 HBJ HLT
       generalize (Z[k]'hkz) = zz at y1 y2 HBJ HZB
       generalize (lim N.ord C K vb).1 = la at z1
       generalize (lim N.ord C K vb).2 = lb at z2 HBJ HLT
       have h0k : (0 : Int) ≤ (k : Int) := by omega
       have h1k : (k : Int) < (nZ : Int) := by omega
       have hV := Blk.new wq #[.string (E vb)] 64
       have hbv := b1 wq (.cells #[.string (E vb)] 64)
       have hFv := hF.after hbv
       have y1' := (hbv.cell (p := ⟨b', o' + k * 2, none⟩) hbl').trans y1
       have y2' := (hbv.cell (p := ⟨b', o' + k * 2 + 1, none⟩) hbl').trans y2
       have z2' := (hbv.cell (p := ⟨b6, k * 2 + 1, none⟩) hbl6).trans z2
       have g1 := gcl (a := ⟨b', o' + k * 2, none⟩) (Nat.lt_of_lt_of_le hbl' hbv.size) y1'
       have g2 := gcl (a := ⟨b', o' + k * 2 + 1, none⟩) (Nat.lt_of_lt_of_le hbl' hbv.size) y2'
       have g3 := gcl (a := ⟨b6, k * 2 + 1, none⟩) (Nat.lt_of_lt_of_le hbl6 hbv.size) z2'
       have HBE : Hid (∀ w, Calls Tryz.prog 67 #[.agg #[.string (E vb)], .agg #[.bool (sg (zz)), .string (E (zz).natAbs)], .string (E lb)] w fun e w' => e = .returned (.bool (blJ N C K Z k)) ∧ Below w.heap.size w w') := fun w => by
        rw [HBJ.out]; exact below_c vb zz lb w HZB.out (Nat.lt_of_lt_of_le HLT.out (by decide))
       cases hbb : blJ N C K Z k
       ·have HF' : Hid (r = 2) := by rw [Hid, HRES.out, ver_2b HL1.out HL2.out HCL.out (ra_false hkl hbb)]
        rw [hbb] at HBE
        clear hbb
        go_upto_region 19 with fail
        generalize wq.alloc (.cells #[.string (E vb)] 64) = wv at hV hbv hFv y1' y2' z2' g1 g2 g3 ⊢
        replace hV : Blk wv wq.heap.size 64 [.string (E vb)] := hV
        obtain ⟨hVc0, hVf0⟩ := hV.x1
        obtain ⟨hFvc0, hFvf0, hFvc1, hFvf1, hFvc2, hFvf2⟩ := hFv.x3
        have hVg0 := hV.gcell 0
        have hFvg0 := hFv.gcell 0
        have hFvg1 := hFv.gcell 1
        have hFvg2 := hFv.gcell 2
        go_wp2_with fail
        refine wp_region_gw (by kernel_rfl) (by kernel_rfl) ?_
        repeat (go_big_quiet_step (first | (go_at_call 67; exact gw_of (HBE.out _))))
        refine wpQuiet_nil ?_
        rintro w7 ⟨xw7, rfl⟩
        have hb7 := gw_below xw7
        generalize gw xw7 = w7 at hb7
        go_wp2
        go_ret
        exact ⟨by rw [HF'.out]; rfl, bt (bt hBW hbv) hb7⟩
       ·have HX : Hid (∀ j, j < k + 1 → blJ N C K Z j = true) := fun j hj => by
         by_cases e : j = k
         ·rw [e]; exact hbb
         ·exact HA.out j (by omega)
        rw [hbb] at HBE
        clear hbb
        go_upto_region 19 with fail
        generalize wq.alloc (.cells #[.string (E vb)] 64) = wv at hV hbv hFv y1' y2' z2' g1 g2 g3 ⊢
        replace hV : Blk wv wq.heap.size 64 [.string (E vb)] := hV
        obtain ⟨hVc0, hVf0⟩ := hV.x1
        obtain ⟨hFvc0, hFvf0, hFvc1, hFvf1, hFvc2, hFvf2⟩ := hFv.x3
        have hVg0 := hV.gcell 0
        have hFvg0 := hFv.gcell 0
        have hFvg1 := hFv.gcell 1
        have hFvg2 := hFv.gcell 2
        go_wp2_with fail
        refine wp_region_gw (by kernel_rfl) (by kernel_rfl) ?_
        repeat (go_big_quiet_step (first | (go_at_call 67; exact gw_of (HBE.out _))))
        refine wpQuiet_nil ?_
        rintro w7 ⟨xw7, rfl⟩
        have hb7 := gw_below xw7
        generalize gw xw7 = w7 at hb7
        go_wp2
        go_roundw
        case rel => exact ⟨k + 1, by omega, by go_num, HX, bt (bt hbr hbv) hb7⟩
        case measure => simp [intOf]; omega
      ·have HBL : Hid (ra N.vars.length (blJ N C K Z) = true) := ra_true fun j hj => HA.out j (by have := HL2.out; have := HNZ.out; omega)
       clear hbr HA
       obtain ⟨hPc0, hPf0, hPc1, hPf1, hPc2, hPf2⟩ := hP.x3
       go_wp2
       clear hPc0 hPf0 hPc1 hPf1 hPc2 hPf2
       go_loopw [101] (fun i wr => ∃ k : Nat, k ≤ nF ∧ i = .int .i64 k ∧ Hid (∀ j, j < k → hsJ N F j = true) ∧ Below wq.heap.size wq wr) (fun i _ => nF - (intOf i).toNat)
       case atStart => exact ⟨0, by omega, rfl, fun j h => absurd h (Nat.not_lt_zero _), Below.refl _ _⟩
       case round =>
        clear hlt hk
        obtain ⟨k, hk, rfl, HA, hbr⟩ := hrel
        obtain ⟨wt, hwt⟩ : ∃ wp, wp = wr := ⟨_, rfl⟩
        subst hwt
        replace hR := hR.after hbr
        replace hP := hP.after hbr
        replace hF := hF.after hbr
        replace hS := hS.after hbr
        replace hFs := SsAt.after hFs hbr
        replace hZs := hZs.after hbr
        replace hLm := hLm.after hbr
        replace hBW := bt hBW hbr
        clear hFl hPl hRl
        have hFl := hF.lt
        have hPl := hP.lt
        have hRl := hR.lt
        by_cases hlt : k < nF
        ·have hkl : k < N.eqs.length := by rw [← HL1.out, ← HNF.out]; exact hlt
         have hkf : k < F.length := by rw [← HNF.out]; exact hlt
         have hkf' : k < (F.map E).length := by simpa using hkf
         have HSZ := Lib.hid (HM.out.e _ (List.getElem_mem hkl))
         have HCE := Lib.hid (chk_elem HCK.out k hkl HSZ.out.1)
         have HHJ := Lib.hid (hsJ_at N F k hkl hkf HSZ.out.1)
         have HFB := Lib.hid (HF2.out _ (List.getElem_mem hkf))
         obtain ⟨b, o, tv, rfl, hbl, x1, x2, x3, hTs⟩ := hS.eat hkl
         obtain ⟨b', o', rfl, hbl', y1⟩ := SsAt.at_ hFs hkf'
         simp only [List.getElem_map] at y1
         generalize (N.eqs[k]'hkl) = q at x1 x2 x3 hTs HSZ HCE HHJ
         have hgl := HSZ.out.1
         have hgn : q.grp < n1 := by rw [HN1.out]; exact hgl
         have HGZ := Lib.hid (HM.out.g _ (List.getElem_mem hgl))
         obtain ⟨bg, og_, rfl, hbg, z1, z2⟩ := hS.gat hgl
         generalize (N.grps[q.grp]'hgl) = gg at z1 z2 HGZ HCE HHJ
         clear hgl
         obtain ⟨p, qq⟩ := gg
         simp only [] at z1 z2
         generalize (F[k]'hkf) = ff at y1 HHJ HFB
         obtain ⟨qg, hqg⟩ : ∃ g, g = q.grp := ⟨_, rfl⟩
         obtain ⟨qt, hqt⟩ : ∃ g, g = q.tgt := ⟨_, rfl⟩
         rw [← hqg] at x1 z1 z2 hgn
         rw [← hqt] at x2
         clear hqg hqt
         obtain ⟨to_, tc, rfl⟩ := hTs.form
         generalize q.trms.length = n4 at x3
         have h0k : (0 : Int) ≤ (k : Int) := by omega
         have h1k : (k : Int) < (nF : Int) := by omega
         have h0g : (0 : Int) ≤ (qg : Int) := by omega
         have h1g : (qg : Int) < (n1 : Int) := by omega
         have hQ := Blk.new wt #[.int .i64 (qg : Int), .string (E qt), .slice to_ n4 tc] 95
         have hbq := b1 wt (.cells #[.int .i64 (qg : Int), .string (E qt), .slice to_ n4 tc] 95)
         have hFv := hF.after hbq
         have hPv := hP.after hbq
         have y1' := (hbq.cell (p := ⟨b', o' + k, none⟩) hbl').trans y1
         have z1' := (hbq.cell (p := ⟨bg, og_ + qg * 2, none⟩) hbg).trans z1
         have z2' := (hbq.cell (p := ⟨bg, og_ + qg * 2 + 1, none⟩) hbg).trans z2
         have g1 := gcl (a := ⟨b', o' + k, none⟩) (Nat.lt_of_lt_of_le hbl' hbq.size) y1'
         have g2 := gcl (a := ⟨bg, og_ + qg * 2, none⟩) (Nat.lt_of_lt_of_le hbg hbq.size) z1'
         have g3 := gcl (a := ⟨bg, og_ + qg * 2 + 1, none⟩) (Nat.lt_of_lt_of_le hbg hbq.size) z2'
         have HBE : Hid (∀ w, Calls Tryz.prog 68 #[.agg #[.string (E p), .string (E qq)], .string (E ff)] w fun e w' => e = .returned (.bool (hsJ N F k)) ∧ Below w.heap.size w w') := fun w => by
          rw [HHJ.out]; exact pHas_c p qq ff w HGZ.out.1 (lt128 HGZ.out.2) HCE.out.1 HFB.out
         cases hbb : hsJ N F k
         ·have HF' : Hid (r = 13) := by rw [Hid, HRES.out, ver_13 HL1.out HL2.out HCL.out HBL.out (ra_false hkl hbb)]
          rw [hbb] at HBE
          clear hbb
          go_upto_region 25 with fail
          generalize wt.alloc (.cells #[.int .i64 (qg : Int), .string (E qt), .slice to_ n4 tc] 95) = wv at hQ hbq hFv hPv y1' z1' z2' g1 g2 g3 ⊢
          replace hQ : Blk wv wt.heap.size 95 [.int .i64 (qg : Int), .string (E qt), .slice to_ n4 tc] := hQ
          obtain ⟨hQc0, hQf0, hQc1, hQf1, hQc2, hQf2⟩ := hQ.x3
          obtain ⟨hFvc0, hFvf0, hFvc1, hFvf1, hFvc2, hFvf2⟩ := hFv.x3
          obtain ⟨hPvc0, hPvf0, hPvc1, hPvf1, hPvc2, hPvf2⟩ := hPv.x3
          have hQg0 := hQ.gcell 0
          have hQg1 := hQ.gcell 1
          have hQg2 := hQ.gcell 2
          have hFvg0 := hFv.gcell 0
          have hFvg1 := hFv.gcell 1
          have hFvg2 := hFv.gcell 2
          have hPvg0 := hPv.gcell 0
          have hPvg1 := hPv.gcell 1
          have hPvg2 := hPv.gcell 2
          go_wp2_with fail
          refine wp_region_gw (by kernel_rfl) (by kernel_rfl) ?_
          repeat (go_big_quiet_step (first | (go_at_call 68; exact gw_of (HBE.out _))))
          refine wpQuiet_nil ?_
          rintro w7 ⟨xw7, rfl⟩
          have hb7 := gw_below xw7
          generalize gw xw7 = w7 at hb7
          go_wp2
          go_ret
          exact ⟨by rw [HF'.out]; rfl, bt (bt hBW hbq) hb7⟩
         ·have HX : Hid (∀ j, j < k + 1 → hsJ N F j = true) := fun j hj => by
           by_cases e : j = k
           ·rw [e]; exact hbb
           ·exact HA.out j (by omega)
          rw [hbb] at HBE
          clear hbb
          go_upto_region 25 with fail
          generalize wt.alloc (.cells #[.int .i64 (qg : Int), .string (E qt), .slice to_ n4 tc] 95) = wv at hQ hbq hFv hPv y1' z1' z2' g1 g2 g3 ⊢
          replace hQ : Blk wv wt.heap.size 95 [.int .i64 (qg : Int), .string (E qt), .slice to_ n4 tc] := hQ
          obtain ⟨hQc0, hQf0, hQc1, hQf1, hQc2, hQf2⟩ := hQ.x3
          obtain ⟨hFvc0, hFvf0, hFvc1, hFvf1, hFvc2, hFvf2⟩ := hFv.x3
          obtain ⟨hPvc0, hPvf0, hPvc1, hPvf1, hPvc2, hPvf2⟩ := hPv.x3
          have hQg0 := hQ.gcell 0
          have hQg1 := hQ.gcell 1
          have hQg2 := hQ.gcell 2
          have hFvg0 := hFv.gcell 0
          have hFvg1 := hFv.gcell 1
          have hFvg2 := hFv.gcell 2
          have hPvg0 := hPv.gcell 0
          have hPvg1 := hPv.gcell 1
          have hPvg2 := hPv.gcell 2
          go_wp2_with fail
          refine wp_region_gw (by kernel_rfl) (by kernel_rfl) ?_
          repeat (go_big_quiet_step (first | (go_at_call 68; exact gw_of (HBE.out _))))
          refine wpQuiet_nil ?_
          rintro w7 ⟨xw7, rfl⟩
          have hb7 := gw_below xw7
          generalize gw xw7 = w7 at hb7
          go_wp2
          go_roundw
          case rel => exact ⟨k + 1, by omega, by go_num, HX, bt (bt hbr hbq) hb7⟩
          case measure => simp [intOf]; omega
        ·have HHS : Hid (ra N.eqs.length (hsJ N F) = true) := ra_true fun j hj => HA.out j (by have := HL1.out; have := HNF.out; omega)
         clear hbr HA
         have HIMG := Lib.hid (Images_c N Z _ _ _ _ wt HM.out hS hZs HZ2.out HL2.out HCK.out)
         obtain ⟨hPc0, hPf0, hPc1, hPf1, hPc2, hPf2⟩ := hP.x3
         obtain ⟨hFc0, hFf0, hFc1, hFf1, hFc2, hFf2⟩ := hF.x3
         go_wp2_with fail
         refine HIMG.out.mono ?_
         rintro e w8 ⟨iv, rfl, hIO, hb8⟩
         clear hPc0 hPf0 hPc1 hPf1 hPc2 hPf2
         clear hFc0 hFf0 hFc1 hFf1 hFc2 hFf2
         replace hR := hR.after hb8
         replace hP := hP.after hb8
         replace hF := hF.after hb8
         replace hS := hS.after hb8
         replace hFs := SsAt.after hFs hb8
         replace hZs := hZs.after hb8
         replace hLm := hLm.after hb8
         replace hBW := bt hBW hb8
         clear hb8 hFl hPl hRl HIMG
         have hIs := hIO.ss
         clear hIO
         obtain ⟨a7, c7, rfl⟩ := RAt.form hIs
         have HIL : Hid (((N.imgs Z).map E).length = nF) := by rw [Hid, List.length_map, NSta.imgs, List.length_map, ← HL1.out, ← HNF.out]
         rw [HIL.out] at hIs ⊢
         have hFl := hF.lt
         have hPl := hP.lt
         have hRl := hR.lt
         obtain ⟨hPc0, hPf0, hPc1, hPf1, hPc2, hPf2⟩ := hP.x3
         go_wp2
         clear hPc0 hPf0 hPc1 hPf1 hPc2 hPf2
         go_loopw [133] (fun i wr => ∃ k : Nat, k ≤ nF ∧ i = .int .i64 k ∧ Hid (∀ j, j < k → imJ N F c Z j = true) ∧ Below w8.heap.size w8 wr) (fun i _ => nF - (intOf i).toNat)
         case atStart => exact ⟨0, by omega, rfl, fun j h => absurd h (Nat.not_lt_zero _), Below.refl _ _⟩
         case round =>
          clear hlt hk
          obtain ⟨k, hk, rfl, HA, hbr⟩ := hrel
          obtain ⟨wu, hwu⟩ : ∃ wp, wp = wr := ⟨_, rfl⟩
          subst hwu
          replace hP := hP.after hbr
          replace hF := hF.after hbr
          replace hS := hS.after hbr
          replace hFs := SsAt.after hFs hbr
          replace hBW := bt hBW hbr
          replace hIs := SsAt.after hIs hbr
          clear hFl hPl hRl
          have hFl := hF.lt
          have hPl := hP.lt
          by_cases hlt : k < nF
          ·have hkl : k < N.eqs.length := by rw [← HL1.out, ← HNF.out]; exact hlt
           have hkf : k < F.length := by rw [← HNF.out]; exact hlt
           have hkf' : k < (F.map E).length := by simpa using hkf
           have hki : k < ((N.imgs Z).map E).length := by rw [HIL.out]; exact hlt
           have HSZ := Lib.hid (HM.out.e _ (List.getElem_mem hkl))
           have HCE := Lib.hid (chk_elem HCK.out k hkl HSZ.out.1)
           have HHF : Hid (hsJ N F k = true) := ra_at HHS.out hkl
           rw [hsJ_at N F k hkl hkf HSZ.out.1] at HHF
           have HIJ := Lib.hid (imJ_at N F c Z k hkl hkf HSZ.out.1)
           obtain ⟨b, o, tv, rfl, hbl, x1, x2, x3, hTs⟩ := hS.eat hkl
           obtain ⟨b', o', rfl, hbl', y1⟩ := SsAt.at_ hFs hkf'
           obtain ⟨b7, o7, rfl, hbl7, i1⟩ := SsAt.at_ hIs hki
           simp only [List.getElem_map] at y1
           rw [show ((N.imgs Z).map E)[k] = E (imgV N Z (N.eqs[k]'hkl)) by simp [NSta.imgs]] at i1
           generalize (N.eqs[k]'hkl) = q at x1 x2 x3 hTs HSZ HCE HHF HIJ i1
           have hgl := HSZ.out.1
           have hgn : q.grp < n1 := by rw [HN1.out]; exact hgl
           have HGZ := Lib.hid (HM.out.g _ (List.getElem_mem hgl))
           obtain ⟨bg, og_, rfl, hbg, z1, z2⟩ := hS.gat hgl
           generalize (N.grps[q.grp]'hgl) = gg at z1 z2 HGZ HCE HHF HIJ
           clear hgl
           obtain ⟨p, qq⟩ := gg
           simp only [] at z1 z2 HHF HIJ
           generalize (F[k]'hkf) = ff at y1 HHF HIJ
           generalize imgV N Z q = iq at i1 HIJ
           have HPW := Lib.hid (has_powN c (grp_gt HCE.out.1) HCE.out.2.1)
           have HEX := Lib.hid (fun w => pexpN_c p qq q.tgt c w HGZ.out.1 (lt128 HGZ.out.2) HCE.out.1 HCE.out.2.1 HCC.out)
           obtain ⟨qg, hqg⟩ : ∃ g, g = q.grp := ⟨_, rfl⟩
           obtain ⟨qt, hqt⟩ : ∃ g, g = q.tgt := ⟨_, rfl⟩
           rw [← hqg] at x1 z1 z2 hgn
           rw [← hqt] at x2 HEX HPW HIJ
           clear hqg hqt
           simp only [] at HPW HIJ
           generalize powI qt (c : Int) p = pv at HPW HEX HIJ
           have HML := Lib.hid (fun w => pmul_c p qq ff pv w HGZ.out.1 (lt128 HGZ.out.2) HCE.out.1 HHF.out HPW.out)
           generalize ff * pv % p = yv at HML HIJ
           obtain ⟨to_, tc, rfl⟩ := hTs.form
           generalize q.trms.length = n4 at x3
           have HFR := Lib.hid (fun w => ifromS_c c w HCC.out)
           have h0k : (0 : Int) ≤ (k : Int) := by omega
           have h1k : (k : Int) < (nF : Int) := by omega
           have h0g : (0 : Int) ≤ (qg : Int) := by omega
           have h1g : (qg : Int) < (n1 : Int) := by omega
           have hQ := blk2a wu #[.int .i64 (qg : Int), .string (E qt), .slice to_ n4 tc] #[.string (E p), .string (E qq)] 95 90
           have hG := blk2b wu #[.int .i64 (qg : Int), .string (E qt), .slice to_ n4 tc] #[.string (E p), .string (E qq)] 95 90
           have hbq := b2 wu (.cells #[.int .i64 (qg : Int), .string (E qt), .slice to_ n4 tc] 95) (.cells #[.string (E p), .string (E qq)] 90)
           have hFv := hF.after hbq
           have y1' := (hbq.cell (p := ⟨b', o' + k, none⟩) hbl').trans y1
           have i1' := (hbq.cell (p := ⟨b7, o7 + k, none⟩) hbl7).trans i1
           have hbl3 := Nat.lt_of_lt_of_le hbl' hbq.size
           have hbl8 := Nat.lt_of_lt_of_le hbl7 hbq.size
           clear hTs
           obtain ⟨hPc0, hPf0, hPc1, hPf1, hPc2, hPf2⟩ := hP.x3
           go_upto_region 35 with fail
           clear hPc0 hPf0 hPc1 hPf1 hPc2 hPf2
           generalize (wu.alloc (.cells #[.int .i64 (qg : Int), .string (E qt), .slice to_ n4 tc] 95)).alloc (.cells #[.string (E p), .string (E qq)] 90) = wv at hQ hG hbq hFv y1' i1' hbl3 hbl8 ⊢
           replace hQ : Blk wv wu.heap.size 95 [.int .i64 (qg : Int), .string (E qt), .slice to_ n4 tc] := hQ
           replace hG : Blk wv (wu.heap.size + 1) 90 [.string (E p), .string (E qq)] := hG
           clear x1 x2 x3 y1 i1 z1 z2 hbl hbl' hbl7 hbg
           obtain ⟨hQc0, hQf0, hQc1, hQf1, hQc2, hQf2⟩ := hQ.x3
           obtain ⟨hFvc0, hFvf0, hFvc1, hFvf1, hFvc2, hFvf2⟩ := hFv.x3
           obtain ⟨hGc0, hGf0, hGc1, hGf1⟩ := hG.x2
           have hQg0 := hQ.gcell 0
           have hQg1 := hQ.gcell 1
           have hQg2 := hQ.gcell 2
           have hFvg0 := hFv.gcell 0
           have hFvg1 := hFv.gcell 1
           have hFvg2 := hFv.gcell 2
           have hGg0 := hG.gcell 0
           have hGg1 := hG.gcell 1
           go_wp2_with fail
           refine wp_region_gw (by kernel_rfl) (by kernel_rfl) ?_
           repeat (go_big_quiet_step (first | (go_at_call 36; exact gw_of (HFR.out _)) | (go_at_call 55; exact gw_of (HEX.out _))))
           refine wpQuiet_nil ?_
           rintro w9 ⟨xw9, rfl⟩
           have hb9 := gw_below xw9
           generalize gw xw9 = w9 at hb9
           clear hQc0 hQf0 hQc1 hQf1 hQc2 hQf2
           clear hFvc0 hFvf0 hFvc1 hFvf1 hFvc2 hFvf2
           clear hGc0 hGf0 hGc1 hGf1
           clear hQg0 hQg1 hQg2
           clear hFvg0 hFvg1 hFvg2
           clear hGg0 hGg1
           replace hFv := hFv.after hb9
           replace hG := hG.after hb9
           replace y1' := (hb9.cell (p := ⟨b', o' + k, none⟩) hbl3).trans y1'
           replace i1' := (hb9.cell (p := ⟨b7, o7 + k, none⟩) hbl8).trans i1'
           replace hbl3 := Nat.lt_of_lt_of_le hbl3 hb9.size
           replace hbl8 := Nat.lt_of_lt_of_le hbl8 hb9.size
           have hbq9 := bt hbq hb9
           clear hQ hb9 hbq
           have g1 := gcl (a := ⟨b', o' + k, none⟩) hbl3 y1'
           obtain ⟨hFvc0, hFvf0, hFvc1, hFvf1, hFvc2, hFvf2⟩ := hFv.x3
           obtain ⟨hGc0, hGf0, hGc1, hGf1⟩ := hG.x2
           have hFvg0 := hFv.gcell 0
           have hFvg1 := hFv.gcell 1
           have hFvg2 := hFv.gcell 2
           have hGg0 := hG.gcell 0
           have hGg1 := hG.gcell 1
           go_wp2_with fail
           refine wp_region_gw (by kernel_rfl) (by kernel_rfl) ?_
           repeat (go_big_quiet_step (first | (go_at_call 57; exact gw_of (HML.out _))))
           refine wpQuiet_nil ?_
           rintro wz ⟨xwz, rfl⟩
           have hbz := gw_below xwz
           generalize gw xwz = wz at hbz
           clear hFvc0 hFvf0 hFvc1 hFvf1 hFvc2 hFvf2
           clear hGc0 hGf0 hGc1 hGf1
           clear hFvg0 hFvg1 hFvg2
           clear hGg0 hGg1
           replace i1' := (hbz.cell (p := ⟨b7, o7 + k, none⟩) hbl8).trans i1'
           replace hbl8 := Nat.lt_of_lt_of_le hbl8 hbz.size
           clear g1 y1' hFv hG
           by_cases hyi : yv = iq
           ·have h1 := eqT hyi
            have h2 := eqE hyi
            have HX : Hid (∀ j, j < k + 1 → imJ N F c Z j = true) := fun j hj => by
             by_cases e : j = k
             ·rw [e, HIJ.out]; exact decide_eq_true hyi
             ·exact HA.out j (by omega)
            clear hyi
            go_wp2
            go_roundw
            case rel => exact ⟨k + 1, by omega, by go_num, HX, bt (bt hbr hbq9) hbz⟩
            case measure => simp [intOf]; omega
           ·have h1 := eqF hyi
            have h2 := neE hyi
            have HF' : Hid (r = 16) := by rw [Hid, HRES.out, ver_16 HL1.out HL2.out HCL.out HBL.out HHS.out (ra_false hkl (by rw [HIJ.out]; exact decide_eq_false hyi))]
            clear hyi
            go_wp2
            go_ret
            exact ⟨by rw [HF'.out]; rfl, bt (bt hBW hbq9) hbz⟩
          ·have HIM : Hid (ra N.eqs.length (imJ N F c Z) = true) := ra_true fun j hj => HA.out j (by have := HL1.out; have := HNF.out; omega)
           have HF' : Hid (r = 0) := by rw [Hid, HRES.out, ver_0 HL1.out HL2.out HCL.out HBL.out HHS.out HIM.out]
           go_wp2
           go_ret
           exact ⟨by rw [HF'.out]; rfl, hBW⟩
    ·have hcm := cmp_nneg c C hcg
     have hcm2 : 0 ≤ cmpN c C := by omega
     have HF' : Hid (r = 2) := by rw [Hid, HRES.out, ver_2 HL1.out HL2.out hcg]
     clear hcg
     obtain ⟨hFc0, hFf0, hFc1, hFf1, hFc2, hFf2⟩ := hF.x3
     obtain ⟨hPc0, hPf0, hPc1, hPf1, hPc2, hPf2⟩ := hP.x3
     obtain ⟨hRc0, hRf0, hRc1, hRf1⟩ := hR.x2
     go_wp2_with fail
     refine (cmp_c c C _ HCC.out HC.out).mono ?_
     rintro e w' ⟨rfl, rfl⟩
     go_wp2
     go_ret
     exact ⟨by rw [HF'.out]; rfl, hBW⟩
   ·have HF' : Hid (r = 6) := by
     rw [Hid, HRES.out, ver_6]
     rw [← HNF.out, ← HN3.out, ← HNZ.out, ← HN2.out]
     omega
    by_cases h1 : nF = n3
    ·have h2 : ((nZ : Int) != (n2 : Int)) = true := by rw [bne_iff_ne]; omega
     have h2' : ((nZ : Int) == (n2 : Int)) = false := by rw [beq_eq_false_iff_ne]; omega
     subst h1
     clear hln
     obtain ⟨hFc0, hFf0, hFc1, hFf1, hFc2, hFf2⟩ := hF.x3
     obtain ⟨hPc0, hPf0, hPc1, hPf1, hPc2, hPf2⟩ := hP.x3
     go_wp2
     go_ret
     exact ⟨by rw [HF'.out]; rfl, hBW⟩
    ·have h2 : ((nF : Int) != (n3 : Int)) = true := by rw [bne_iff_ne]; omega
     have h2' : ((nF : Int) == (n3 : Int)) = false := by rw [beq_eq_false_iff_ne]; omega
     clear hln h1
     obtain ⟨hFc0, hFf0, hFc1, hFf1, hFc2, hFf2⟩ := hF.x3
     obtain ⟨hPc0, hPf0, hPc1, hPf1, hPc2, hPf2⟩ := hP.x3
     go_wp2
     go_ret
     exact ⟨by rw [HF'.out]; rfl, hBW⟩

end Go.Proofs.YtehoiholhkfcpaaGreat
end

section
set_option linter.unusedVariables false
set_option linter.unusedSimpArgs false
set_option maxRecDepth 100000
namespace Go.Proofs.YtehoiholhkfcpaaGreat
open Go.RowKit Go.Shelf

set_option maxHeartbeats 8000000 in
theorem rverify_num (N : NSta) (C K c : Nat) (F : List Nat) (Z : List Int) (v1 v2 v3 f rs : Value) (w : World) (hC : C < 256 ^ 8) (hK : K < 256 ^ 8) (hm : NOk N) (hS : NAt w v1 v2 v3 N) (hc : N.chk = 0)
  (hch : ∀ w', Below w.heap.size w w' → Calls Tryz.prog 26 #[.agg #[.string (E C), .string (E K)], .agg #[v1, v2, v3]] w' (B2Post w' (N.lims C K)))
  (hFs : SsAt w f (F.map E)) (hZs : ZsAt w rs Z) (hf1 : F.length ≤ 1000) (hf2 : ∀ x ∈ F, x < 256 ^ 128) (hc2 : c < 256 ^ 128) (hz1 : Z.length ≤ 1000) (hz2 : ∀ z ∈ Z, z.natAbs < 256 ^ 64) :
  Calls Tryz.prog 40 #[.agg #[.string (E C), .string (E K)], .agg #[v1, v2, v3], .agg #[f, .string (E c), rs]] w fun e w' => e = .returned (.int .i64 (N.ver C K F c Z : Nat)) ∧ Below w.heap.size w w' := by
 obtain ⟨r, hr⟩ : ∃ r : Nat, r = N.ver C K F c Z := ⟨_, rfl⟩
 have HRES := Lib.hid hr
 rw [← hr]
 clear hr
 have HCH := Lib.hid hch
 have HCK := Lib.hid hc
 have HC := Lib.hid (lt128 hC)
 have HC8 := Lib.hid hC
 have HK8 := Lib.hid hK
 have HF2 := Lib.hid hf2
 have HCC := Lib.hid hc2
 have HZ2 := Lib.hid hz2
 obtain ⟨a4, c4, hfe⟩ := RAt.form hFs
 obtain ⟨a5, c5, hze⟩ := hZs.form
 rw [List.length_map] at hfe
 obtain ⟨nF, hnF⟩ : ∃ n, n = F.length := ⟨_, rfl⟩
 obtain ⟨nZ, hnZ⟩ : ∃ n, n = Z.length := ⟨_, rfl⟩
 have HNF := Lib.hid hnF
 have HNZ := Lib.hid hnZ
 rw [← hnF] at hfe hf1
 rw [← hnZ] at hze hz1
 subst hfe hze
 obtain ⟨a1, c1, a2, c2, a3, c3, rfl, rfl, rfl⟩ := hS.forms
 obtain ⟨n1, hn1⟩ : ∃ n, n = N.grps.length := ⟨_, rfl⟩
 obtain ⟨n2, hn2⟩ : ∃ n, n = N.vars.length := ⟨_, rfl⟩
 obtain ⟨n3, hn3⟩ : ∃ n, n = N.eqs.length := ⟨_, rfl⟩
 have HN1 := Lib.hid hn1
 have HN2 := Lib.hid hn2
 have HN3 := Lib.hid hn3
 have l1 : n1 ≤ 10 := by rw [hn1]; exact hm.ng
 have l2 : n2 ≤ 12 := by rw [hn2]; exact hm.nv
 have l3 : n3 ≤ 12 := by rw [hn3]; exact hm.ne
 have HM := Lib.hid hm
 rw [← hn1, ← hn2, ← hn3] at hS ⊢
 rw [← hn1, ← hn2, ← hn3] at HCH
 have hR := blk3a w #[.string (E C), .string (E K)] #[.slice a1 n1 c1, .slice a2 n2 c2, .slice a3 n3 c3] #[.slice a4 nF c4, .string (E c), .slice a5 nZ c5] 24 29 45
 have hP := blk3b w #[.string (E C), .string (E K)] #[.slice a1 n1 c1, .slice a2 n2 c2, .slice a3 n3 c3] #[.slice a4 nF c4, .string (E c), .slice a5 nZ c5] 24 29 45
 have hF := blk3c w #[.string (E C), .string (E K)] #[.slice a1 n1 c1, .slice a2 n2 c2, .slice a3 n3 c3] #[.slice a4 nF c4, .string (E c), .slice a5 nZ c5] 24 29 45
 have hBW := b3 w (.cells #[.string (E C), .string (E K)] 24) (.cells #[.slice a1 n1 c1, .slice a2 n2 c2, .slice a3 n3 c3] 29) (.cells #[.slice a4 nF c4, .string (E c), .slice a5 nZ c5] 45)
 replace hS := hS.after hBW
 replace hFs := SsAt.after hFs hBW
 replace hZs := hZs.after hBW
 clear hm hn1 hn2 hn3 hC hK hc hch hf2 hc2 hz2 hnF hnZ
 obtain ⟨hRc0, hRf0, hRc1, hRf1⟩ := hR.x2
 obtain ⟨hPc0, hPf0, hPc1, hPf1, hPc2, hPf2⟩ := hP.x3
 go_enter Tryz.func40, Tryz.ntmps40
 go_wp2_with fail
 refine (HCH.out _ hBW).mono ?_
 rintro e w2 ⟨lv, lu, rfl, hLa, hLb, hb2⟩
 clear hRc0 hRf0 hRc1 hRf1
 clear hPc0 hPf0 hPc1 hPf1 hPc2 hPf2
 replace hR := hR.after hb2
 replace hP := hP.after hb2
 replace hF := hF.after hb2
 replace hS := hS.after hb2
 replace hFs := SsAt.after hFs hb2
 replace hZs := hZs.after hb2
 replace hBW := bt hBW hb2
 clear hb2 hLa
 have hLm := hLb.ss
 clear hLb
 obtain ⟨a6, c6, rfl⟩ := RAt.form hLm
 have HLL : Hid ((((N.lims C K).map (·.2)).map E).length = n2) := by rw [Hid, List.length_map, List.length_map, NSta.lims, List.length_map, HN2.out]
 rw [HLL.out] at hLm ⊢
 have hFl := hF.lt
 obtain ⟨hFc0, hFf0, hFc1, hFf1, hFc2, hFf2⟩ := hF.x3
 go_wp2_with fail
 refine (rvalidE_c c _ HCC.out).mono ?_
 rintro e w' ⟨rfl, rfl⟩
 go_wp2_with fail
 refine (rformedV_c (Z.map zI) _ true _ (by rw [List.length_map, ← HNZ.out]; exact hz1) (fun x hx => by obtain ⟨z, hz, rfl⟩ := List.mem_map.1 hx; exact Nat.le_trans ((E_size_le _ 64).2 (HZ2.out z hz)) (by decide)) hZs (by rw [List.all_map, List.all_eq_true]; intro z hz; exact ivB_I z (lt64 (HZ2.out z hz)))).mono ?_
 rintro e w4 ⟨rfl, hb4⟩
 clear hFc0 hFf0 hFc1 hFf1 hFc2 hFf2
 replace hR := hR.after hb4
 replace hP := hP.after hb4
 replace hF := hF.after hb4
 replace hS := hS.after hb4
 replace hFs := SsAt.after hFs hb4
 replace hZs := hZs.after hb4
 replace hBW := bt hBW hb4
 replace hLm := SsAt.after hLm hb4
 clear hb4 hFl
 go_wp2

 go_loopw [10] (fun i wr => ∃ k : Nat, k ≤ nF ∧ i = .int .i64 k ∧ Below w4.heap.size w4 wr) (fun i _ => nF - (intOf i).toNat)
 case atStart => exact ⟨0, by omega, rfl, Below.refl _ _⟩
 case round =>
  obtain ⟨k, hk, rfl, hbr⟩ := hrel
  obtain ⟨wp, hwp⟩ : ∃ wp, wp = wr := ⟨_, rfl⟩
  subst hwp
  replace hR := hR.after hbr
  replace hP := hP.after hbr
  replace hF := hF.after hbr
  replace hS := hS.after hbr
  replace hFs := SsAt.after hFs hbr
  replace hZs := hZs.after hbr
  replace hBW := bt hBW hbr
  replace hLm := SsAt.after hLm hbr
  have hFl := hF.lt
  by_cases hlt : k < nF
  ·have hkl : k < F.length := by rw [← HNF.out]; exact hlt
   have hkl' : k < (F.map E).length := by simpa using hkl
   have HSZ := Lib.hid (HF2.out _ (List.getElem_mem hkl))
   obtain ⟨b, o, rfl, hbl, x1⟩ := SsAt.at_ hFs hkl'
   simp only [List.getElem_map] at x1
   generalize (F[k]'hkl) = s1 at x1 HSZ
   have h0k : (0 : Int) ≤ (k : Int) := by omega
   have h1k : (k : Int) < (nF : Int) := by omega
   obtain ⟨hFc0, hFf0, hFc1, hFf1, hFc2, hFf2⟩ := hF.x3
   go_wp2_with fail
   refine (rvalidE_c s1 _ HSZ.out).mono ?_
   rintro e w' ⟨rfl, rfl⟩
   go_wp2
   go_roundw
   case rel => exact ⟨k + 1, by omega, by go_num, hbr⟩
   case measure => simp [intOf]; omega
  ·clear hbr
   have hPl := hP.lt
   have hRl := hR.lt
   by_cases hln : nF = n3 ∧ nZ = n2
   ·obtain ⟨e1, e2⟩ := hln
    have HL1 : Hid (F.length = N.eqs.length) := by rw [Hid, ← HNF.out, ← HN3.out]; exact e1
    have HL2 : Hid (Z.length = N.vars.length) := by rw [Hid, ← HNZ.out, ← HN2.out]; exact e2
    subst e1 e2
    rcases Nat.lt_or_ge c C with hcl | hcg
    ·have hcm := cmp_neg c C hcl
     have hcm2 : ¬ 0 ≤ cmpN c C := by omega
     have HCL := Lib.hid hcl
     clear hcl
     obtain ⟨hFc0, hFf0, hFc1, hFf1, hFc2, hFf2⟩ := hF.x3
     obtain ⟨hPc0, hPf0, hPc1, hPf1, hPc2, hPf2⟩ := hP.x3
     obtain ⟨hRc0, hRf0, hRc1, hRf1⟩ := hR.x2
     go_wp2_with fail
     refine (rorder_c c C _ (szM HCC.out) (szM HC.out)).mono ?_
     rintro e w5 ⟨rfl, hb5⟩
     clear hFc0 hFf0 hFc1 hFf1 hFc2 hFf2
     clear hPc0 hPf0 hPc1 hPf1 hPc2 hPf2
     clear hRc0 hRf0 hRc1 hRf1
     replace hR := hR.after hb5
     replace hP := hP.after hb5
     replace hF := hF.after hb5
     replace hS := hS.after hb5
     replace hFs := SsAt.after hFs hb5
     replace hZs := hZs.after hb5
     replace hBW := bt hBW hb5
     replace hLm := SsAt.after hLm hb5
     clear hb5
     go_wp2
     clear hcm hcm2
     go_loopw [11] (fun i wr => ∃ k : Nat, k ≤ nZ ∧ i = .int .i64 k ∧ Hid (∀ j, j < k → blJ N C K Z j = true) ∧ Below w5.heap.size w5 wr) (fun i _ => nZ - (intOf i).toNat)
     case atStart => exact ⟨0, by omega, rfl, fun j h => absurd h (Nat.not_lt_zero _), Below.refl _ _⟩
     case round =>
      obtain ⟨k, hk, rfl, HA, hbr⟩ := hrel
      obtain ⟨wq, hwq⟩ : ∃ wp, wp = wr := ⟨_, rfl⟩
      subst hwq
      replace hR := hR.after hbr
      replace hP := hP.after hbr
      replace hF := hF.after hbr
      replace hS := hS.after hbr
      replace hFs := SsAt.after hFs hbr
      replace hZs := hZs.after hbr
      replace hBW := bt hBW hbr
      replace hLm := SsAt.after hLm hbr
      clear hFl hPl hRl
      have hFl := hF.lt
      have hPl := hP.lt
      have hRl := hR.lt
      by_cases hlt : k < nZ
      ·have hkl : k < N.vars.length := by rw [← HL2.out, ← HNZ.out]; exact hlt
       have hkz : k < Z.length := by rw [← HNZ.out]; exact hlt
       have hkL : k < (((N.lims C K).map (·.2)).map E).length := by rw [HLL.out]; exact hlt
       have HBJ := Lib.hid (blJ_at N C K Z k hkl hkz)
       have HLT := Lib.hid (lim_lt HM.out HC8.out HK8.out (List.getElem_mem hkl))
       have HZB := Lib.hid (lt64 (HZ2.out _ (List.getElem_mem hkz)))
       obtain ⟨b', o', rfl, hbl', y1, y2⟩ := hZs.at_ hkz
       obtain ⟨b6, o6, rfl, hbl6, z2⟩ := SsAt.at_ hLm hkL
       rw [show (((N.lims C K).map (·.2)).map E)[k] = E (lim N.ord C K (N.vars[k]'hkl)).2 by simp [NSta.lims]] at z2
       have HBE0 : Hid (∀ w', Below wq.heap.size wq w' → Calls Tryz.prog 82 #[.agg #[.slice a1 n1 c1, .slice a2 nZ c2, .slice a3 nF c3], .int .i64 (k : Int), .agg #[.bool (sg ((Z[k]'hkz))), .string (E ((Z[k]'hkz)).natAbs)], .string (E (lim N.ord C K (N.vars[k]'hkl)).2)] w' fun e w'' => e = .returned (.bool (blJ N C K Z k)) ∧ Below w'.heap.size w' w'') := fun w' hb' => by
        rw [HBJ.out]; exact rbelow_c N _ _ _ k _ _ w' HM.out (hS.after hb') hkl HZB.out (Nat.lt_of_lt_of_le HLT.out (by decide))
       generalize (lim N.ord C K (N.vars[k]'hkl)).2 = lb at z2 HBE0 HLT
       generalize (Z[k]'hkz) = zz at y1 y2 HBE0 HZB
       have h0k : (0 : Int) ≤ (k : Int) := by omega
       have h1k : (k : Int) < (nZ : Int) := by omega
       have g1 := gcl (a := ⟨b', o' + k * 2, none⟩) hbl' y1
       have g2 := gcl (a := ⟨b', o' + k * 2 + 1, none⟩) hbl' y2
       have g3 := gcl (a := ⟨b6, o6 + k, none⟩) hbl6 z2
       cases hbb : blJ N C K Z k
       ·have HF' : Hid (r = 2) := by rw [Hid, HRES.out, ver_2b HL1.out HL2.out HCL.out (ra_false hkl hbb)]
        rw [hbb] at HBE0
        clear hbb
        obtain ⟨hPc0, hPf0, hPc1, hPf1, hPc2, hPf2⟩ := hP.x3
        obtain ⟨hFc0, hFf0, hFc1, hFf1, hFc2, hFf2⟩ := hF.x3
        have hPg0 := hP.gcell 0
        have hPg1 := hP.gcell 1
        have hPg2 := hP.gcell 2
        have hFg0 := hF.gcell 0
        have hFg1 := hF.gcell 1
        have hFg2 := hF.gcell 2
        go_wp2_with fail
        refine wp_region_gw (by kernel_rfl) (by kernel_rfl) ?_
        repeat (go_big_quiet_step (first | (go_at_call 82; exact gw_of (HBE0.out _ (gw_below _)))))
        refine wpQuiet_nil ?_
        rintro w7 ⟨xw7, rfl⟩
        have hb7 := gw_below xw7
        generalize gw xw7 = w7 at hb7
        go_wp2
        go_ret
        exact ⟨by rw [HF'.out]; rfl, bt hBW hb7⟩
       ·have HX : Hid (∀ j, j < k + 1 → blJ N C K Z j = true) := fun j hj => by
         by_cases e : j = k
         ·rw [e]; exact hbb
         ·exact HA.out j (by omega)
        rw [hbb] at HBE0
        clear hbb
        obtain ⟨hPc0, hPf0, hPc1, hPf1, hPc2, hPf2⟩ := hP.x3
        obtain ⟨hFc0, hFf0, hFc1, hFf1, hFc2, hFf2⟩ := hF.x3
        have hPg0 := hP.gcell 0
        have hPg1 := hP.gcell 1
        have hPg2 := hP.gcell 2
        have hFg0 := hF.gcell 0
        have hFg1 := hF.gcell 1
        have hFg2 := hF.gcell 2
        go_wp2_with fail
        refine wp_region_gw (by kernel_rfl) (by kernel_rfl) ?_
        repeat (go_big_quiet_step (first | (go_at_call 82; exact gw_of (HBE0.out _ (gw_below _)))))
        refine wpQuiet_nil ?_
        rintro w7 ⟨xw7, rfl⟩
        have hb7 := gw_below xw7
        generalize gw xw7 = w7 at hb7
        go_wp2
        go_roundw
        case rel => exact ⟨k + 1, by omega, by go_num, HX, bt hbr hb7⟩
        case measure => simp [intOf]; omega
      ·have HBL : Hid (ra N.vars.length (blJ N C K Z) = true) := ra_true fun j hj => HA.out j (by have := HL2.out; have := HNZ.out; omega)
       clear hbr HA
       obtain ⟨hFc0, hFf0, hFc1, hFf1, hFc2, hFf2⟩ := hF.x3
       go_wp2
       clear hFc0 hFf0 hFc1 hFf1 hFc2 hFf2
       go_loopw [12] (fun i wr => ∃ k : Nat, k ≤ nF ∧ i = .int .i64 k ∧ Hid (∀ j, j < k → hsJ N F j = true) ∧ Below wq.heap.size wq wr) (fun i _ => nF - (intOf i).toNat)
       case atStart => exact ⟨0, by omega, rfl, fun j h => absurd h (Nat.not_lt_zero _), Below.refl _ _⟩
       case round =>
        clear hlt hk
        obtain ⟨k, hk, rfl, HA, hbr⟩ := hrel
        obtain ⟨wt, hwt⟩ : ∃ wp, wp = wr := ⟨_, rfl⟩
        subst hwt
        replace hR := hR.after hbr
        replace hP := hP.after hbr
        replace hF := hF.after hbr
        replace hS := hS.after hbr
        replace hFs := SsAt.after hFs hbr
        replace hZs := hZs.after hbr
        replace hBW := bt hBW hbr
        replace hLm := SsAt.after hLm hbr
        clear hFl hPl hRl
        have hFl := hF.lt
        have hPl := hP.lt
        have hRl := hR.lt
        by_cases hlt : k < nF
        ·have hkl : k < N.eqs.length := by rw [← HL1.out, ← HNF.out]; exact hlt
         have hkf : k < F.length := by rw [← HNF.out]; exact hlt
         have hkf' : k < (F.map E).length := by simpa using hkf
         have HSZ := Lib.hid (HM.out.e _ (List.getElem_mem hkl))
         have HCE := Lib.hid (chk_elem HCK.out k hkl HSZ.out.1)
         have HHJ := Lib.hid (hsJ_at N F k hkl hkf HSZ.out.1)
         have HFB := Lib.hid (HF2.out _ (List.getElem_mem hkf))
         obtain ⟨b, o, tv, rfl, hbl, x1, x2, x3, hTs⟩ := hS.eat hkl
         obtain ⟨b', o', rfl, hbl', y1⟩ := SsAt.at_ hFs hkf'
         simp only [List.getElem_map] at y1
         generalize (N.eqs[k]'hkl) = q at x1 x2 x3 hTs HSZ HCE HHJ
         have hgl := HSZ.out.1
         have hgn : q.grp < n1 := by rw [HN1.out]; exact hgl
         have HGZ := Lib.hid (HM.out.g _ (List.getElem_mem hgl))
         obtain ⟨bg, og_, rfl, hbg, z1, z2⟩ := hS.gat hgl
         generalize (N.grps[q.grp]'hgl) = gg at z1 z2 HGZ HCE HHJ
         clear hgl
         obtain ⟨p, qq⟩ := gg
         simp only [] at z1 z2
         generalize (F[k]'hkf) = ff at y1 HHJ HFB
         obtain ⟨qg, hqg⟩ : ∃ g, g = q.grp := ⟨_, rfl⟩
         rw [← hqg] at x1 z1 z2 hgn
         clear hqg
         have h0k : (0 : Int) ≤ (k : Int) := by omega
         have h1k : (k : Int) < (nF : Int) := by omega
         have h0g : (0 : Int) ≤ (qg : Int) := by omega
         have h1g : (qg : Int) < (n1 : Int) := by omega
         have g0 := gcl (a := ⟨b, o + k * 3, none⟩) hbl x1
         have g1 := gcl (a := ⟨b', o' + k, none⟩) hbl' y1
         have g2 := gcl (a := ⟨bg, og_ + qg * 2, none⟩) hbg z1
         have g3 := gcl (a := ⟨bg, og_ + qg * 2 + 1, none⟩) hbg z2
         have HBE : Hid (∀ w, Calls Tryz.prog 83 #[.agg #[.string (E p), .string (E qq)], .string (E ff)] w fun e w' => e = .returned (.bool (hsJ N F k)) ∧ Below w.heap.size w w') := fun w => by
          rw [HHJ.out]; exact rHasV_c p qq ff _ w HGZ.out.1 (lt128 HGZ.out.2) HCE.out.1 HFB.out rfl
         clear hTs
         cases hbb : hsJ N F k
         ·have HF' : Hid (r = 13) := by rw [Hid, HRES.out, ver_13 HL1.out HL2.out HCL.out HBL.out (ra_false hkl hbb)]
          rw [hbb] at HBE
          clear hbb
          obtain ⟨hFc0, hFf0, hFc1, hFf1, hFc2, hFf2⟩ := hF.x3
          obtain ⟨hPc0, hPf0, hPc1, hPf1, hPc2, hPf2⟩ := hP.x3
          have hFg0 := hF.gcell 0
          have hFg1 := hF.gcell 1
          have hFg2 := hF.gcell 2
          have hPg0 := hP.gcell 0
          have hPg1 := hP.gcell 1
          have hPg2 := hP.gcell 2
          go_wp2_with fail
          refine wp_region_gw (by kernel_rfl) (by kernel_rfl) ?_
          repeat (go_big_quiet_step (first | (go_at_call 83; exact gw_of (HBE.out _))))
          refine wpQuiet_nil ?_
          rintro w7 ⟨xw7, rfl⟩
          have hb7 := gw_below xw7
          generalize gw xw7 = w7 at hb7
          go_wp2
          go_ret
          exact ⟨by rw [HF'.out]; rfl, bt hBW hb7⟩
         ·have HX : Hid (∀ j, j < k + 1 → hsJ N F j = true) := fun j hj => by
           by_cases e : j = k
           ·rw [e]; exact hbb
           ·exact HA.out j (by omega)
          rw [hbb] at HBE
          clear hbb
          obtain ⟨hFc0, hFf0, hFc1, hFf1, hFc2, hFf2⟩ := hF.x3
          obtain ⟨hPc0, hPf0, hPc1, hPf1, hPc2, hPf2⟩ := hP.x3
          have hFg0 := hF.gcell 0
          have hFg1 := hF.gcell 1
          have hFg2 := hF.gcell 2
          have hPg0 := hP.gcell 0
          have hPg1 := hP.gcell 1
          have hPg2 := hP.gcell 2
          go_wp2_with fail
          refine wp_region_gw (by kernel_rfl) (by kernel_rfl) ?_
          repeat (go_big_quiet_step (first | (go_at_call 83; exact gw_of (HBE.out _))))
          refine wpQuiet_nil ?_
          rintro w7 ⟨xw7, rfl⟩
          have hb7 := gw_below xw7
          generalize gw xw7 = w7 at hb7
          go_wp2
          go_roundw
          case rel => exact ⟨k + 1, by omega, by go_num, HX, bt hbr hb7⟩
          case measure => simp [intOf]; omega
        ·have HHS : Hid (ra N.eqs.length (hsJ N F) = true) := ra_true fun j hj => HA.out j (by have := HL1.out; have := HNF.out; omega)
         clear hbr HA
         have HIMG := Lib.hid (rImages_c N Z _ _ _ _ wt HM.out hS hZs HZ2.out HL2.out HCK.out)
         obtain ⟨hPc0, hPf0, hPc1, hPf1, hPc2, hPf2⟩ := hP.x3
         obtain ⟨hFc0, hFf0, hFc1, hFf1, hFc2, hFf2⟩ := hF.x3
         go_wp2_with fail
         refine HIMG.out.mono ?_
         rintro e w8 ⟨iv, rfl, hIO, hb8⟩
         clear hPc0 hPf0 hPc1 hPf1 hPc2 hPf2
         clear hFc0 hFf0 hFc1 hFf1 hFc2 hFf2
         replace hR := hR.after hb8
         replace hP := hP.after hb8
         replace hF := hF.after hb8
         replace hS := hS.after hb8
         replace hFs := SsAt.after hFs hb8
         replace hZs := hZs.after hb8
         replace hBW := bt hBW hb8
         replace hLm := SsAt.after hLm hb8
         clear hb8 hFl hPl hRl HIMG
         have hIs := hIO.ss
         clear hIO
         obtain ⟨a7, c7, rfl⟩ := RAt.form hIs
         have HIL : Hid (((N.imgs Z).map E).length = nF) := by rw [Hid, List.length_map, NSta.imgs, List.length_map, ← HL1.out, ← HNF.out]
         rw [HIL.out] at hIs ⊢
         have hFl := hF.lt
         have hPl := hP.lt
         go_wp2
         go_loopw [15] (fun i wr => ∃ k : Nat, k ≤ nF ∧ i = .int .i64 k ∧ Hid (∀ j, j < k → imJ N F c Z j = true) ∧ Below w8.heap.size w8 wr) (fun i _ => nF - (intOf i).toNat)
         case atStart => exact ⟨0, by omega, rfl, fun j h => absurd h (Nat.not_lt_zero _), Below.refl _ _⟩
         case round =>
          clear hlt hk
          obtain ⟨k, hk, rfl, HA, hbr⟩ := hrel
          obtain ⟨wu, hwu⟩ : ∃ wp, wp = wr := ⟨_, rfl⟩
          subst hwu
          replace hP := hP.after hbr
          replace hF := hF.after hbr
          replace hS := hS.after hbr
          replace hFs := SsAt.after hFs hbr
          replace hBW := bt hBW hbr
          replace hIs := SsAt.after hIs hbr
          clear hFl hPl
          have hFl := hF.lt
          have hPl := hP.lt
          by_cases hlt : k < nF
          ·have hkl : k < N.eqs.length := by rw [← HL1.out, ← HNF.out]; exact hlt
           have hkf : k < F.length := by rw [← HNF.out]; exact hlt
           have hkf' : k < (F.map E).length := by simpa using hkf
           have hki : k < ((N.imgs Z).map E).length := by rw [HIL.out]; exact hlt
           have HSZ := Lib.hid (HM.out.e _ (List.getElem_mem hkl))
           have HCE := Lib.hid (chk_elem HCK.out k hkl HSZ.out.1)
           have HHF : Hid (hsJ N F k = true) := ra_at HHS.out hkl
           rw [hsJ_at N F k hkl hkf HSZ.out.1] at HHF
           have HIJ := Lib.hid (imJ_at N F c Z k hkl hkf HSZ.out.1)
           obtain ⟨b, o, tv, rfl, hbl, x1, x2, x3, hTs⟩ := hS.eat hkl
           obtain ⟨b', o', rfl, hbl', y1⟩ := SsAt.at_ hFs hkf'
           obtain ⟨b7, o7, rfl, hbl7, i1⟩ := SsAt.at_ hIs hki
           simp only [List.getElem_map] at y1
           rw [show ((N.imgs Z).map E)[k] = E (imgV N Z (N.eqs[k]'hkl)) by simp [NSta.imgs]] at i1
           generalize (N.eqs[k]'hkl) = q at x1 x2 x3 hTs HSZ HCE HHF HIJ i1
           have hgl := HSZ.out.1
           have hgn : q.grp < n1 := by rw [HN1.out]; exact hgl
           have HGZ := Lib.hid (HM.out.g _ (List.getElem_mem hgl))
           obtain ⟨bg, og_, rfl, hbg, z1, z2⟩ := hS.gat hgl
           generalize (N.grps[q.grp]'hgl) = gg at z1 z2 HGZ HCE HHF HIJ
           clear hgl
           obtain ⟨p, qq⟩ := gg
           simp only [] at z1 z2 HHF HIJ
           generalize (F[k]'hkf) = ff at y1 HHF HIJ
           generalize imgV N Z q = iq at i1 HIJ
           have HPW := Lib.hid (has_powN c (grp_gt HCE.out.1) HCE.out.2.1)
           have HEX := Lib.hid (fun w => rexpN_c p qq q.tgt c w HGZ.out.1 (lt128 HGZ.out.2) HCE.out.1 HCE.out.2.1 HCC.out)
           obtain ⟨qg, hqg⟩ : ∃ g, g = q.grp := ⟨_, rfl⟩
           obtain ⟨qt, hqt⟩ : ∃ g, g = q.tgt := ⟨_, rfl⟩
           rw [← hqg] at x1 z1 z2 hgn
           rw [← hqt] at x2 HEX HPW HIJ
           clear hqg hqt
           simp only [] at HPW HIJ
           generalize powI qt (c : Int) p = pv at HPW HEX HIJ
           have HML := Lib.hid (fun w => rmul13_c p qq pv ff w HGZ.out.1 (lt128 HGZ.out.2) HCE.out.1 HPW.out HHF.out)
           rw [Nat.mul_comm pv ff] at HML
           generalize ff * pv % p = yv at HML HIJ
           have h0k : (0 : Int) ≤ (k : Int) := by omega
           have h1k : (k : Int) < (nF : Int) := by omega
           have h0g : (0 : Int) ≤ (qg : Int) := by omega
           have h1g : (qg : Int) < (n1 : Int) := by omega
           clear hTs x3
           have hC : CA wu [(⟨w.heap.size + 1, 0, none⟩, .slice (some ⟨bg, og_, none⟩) n1 c1), (⟨w.heap.size + 1, 2, none⟩, .slice (some ⟨b, o, none⟩) nF c3), (⟨b, o + k * 3, none⟩, .int .i64 (qg : Int)), (⟨bg, og_ + qg * 2, none⟩, .string (E p)), (⟨bg, og_ + qg * 2 + 1, none⟩, .string (E qq))] := CA.cons hP.lt (hP.cell 0) (CA.cons hP.lt (hP.cell 2) (CA.cons hbl x1 (CA.cons hbg z1 (CA.cons hbg z2 (CA.nil _)))))
           have hneA := fun x hx => Nat.ne_of_lt (hC x hx).1
           obtain ⟨hFc0, hFf0, hFc1, hFf1, hFc2, hFf2⟩ := hF.x3
           go_upto_region 31 with fail
           clear hFc0 hFf0 hFc1 hFf1 hFc2 hFf2
           go_cut [16] (fun s16 wx => SBox wu 90 [.string (E p), .string (E qq)] s16 wx)
           case first =>
            go_region_held3 (fun w' => w'.cell? ⟨w.heap.size + 1, 0, none⟩ = some (.slice (some ⟨bg, og_, none⟩) n1 c1) ∧ w'.cell? ⟨w.heap.size + 1, 2, none⟩ = some (.slice (some ⟨b, o, none⟩) nF c3) ∧ w'.cell? ⟨b, o + k * 3, none⟩ = some (.int .i64 (qg : Int)) ∧ w'.cell? ⟨bg, og_ + qg * 2, none⟩ = some (.string (E p)) ∧ w'.cell? ⟨bg, og_ + qg * 2 + 1, none⟩ = some (.string (E qq))) ((refine CA.k5 ?_; repeat (first | (with_reducible exact hC) | (with_reducible refine CA.drew ?_) | (with_reducible refine CA.alloc ?_ _) | (refine CA.set ?_ _ _ _ hneA)))) (fail)
            all_goals
             go_wp2_with fail
             go_meet
             first
              | exact ⟨_, rfl, Blk.new _ _ _, Nat.le_refl _, ba (Below.drew (Below.refl _ _)) _⟩
              | exact ⟨_, rfl, Blk.new _ _ _, Nat.le_refl _, b1 _ _⟩
           case rest =>
            obtain ⟨g16, rfl, hG, hg16, hbx⟩ := hcut
            obtain ⟨wx, hwx⟩ : ∃ wx, wx = wc := ⟨_, rfl⟩
            subst hwx
            have hFv := hF.after hbx
            have hPv := hP.after hbx
            have x2' := (hbx.cell (p := ⟨b, o + k * 3 + 1, none⟩) hbl).trans x2
            have y1' := (hbx.cell (p := ⟨b', o' + k, none⟩) hbl').trans y1
            have i1' := (hbx.cell (p := ⟨b7, o7 + k, none⟩) hbl7).trans i1
            have hbl2 := Nat.lt_of_lt_of_le hbl hbx.size
            have hbl3 := Nat.lt_of_lt_of_le hbl' hbx.size
            have hbl8 := Nat.lt_of_lt_of_le hbl7 hbx.size
            clear hC hneA x1 x2 y1 i1 z1 z2 hbl hbl' hbl7 hbg hFl hPl
            have g1 := gcl (a := ⟨b, o + k * 3 + 1, none⟩) hbl2 x2'
            obtain ⟨hFvc0, hFvf0, hFvc1, hFvf1, hFvc2, hFvf2⟩ := hFv.x3
            obtain ⟨hGc0, hGf0, hGc1, hGf1⟩ := hG.x2
            obtain ⟨hPvc0, hPvf0, hPvc1, hPvf1, hPvc2, hPvf2⟩ := hPv.x3
            have hFvg0 := hFv.gcell 0
            have hFvg1 := hFv.gcell 1
            have hFvg2 := hFv.gcell 2
            have hGg0 := hG.gcell 0
            have hGg1 := hG.gcell 1
            have hPvg0 := hPv.gcell 0
            have hPvg1 := hPv.gcell 1
            have hPvg2 := hPv.gcell 2
            go_wp2_with fail
            refine wp_region_gw (by kernel_rfl) (by kernel_rfl) ?_
            repeat (go_big_quiet_step (first | (go_at_call 85; exact gw_of (HEX.out _))))
            refine wpQuiet_nil ?_
            rintro w9 ⟨xw9, rfl⟩
            have hb9 := gw_below xw9
            generalize gw xw9 = w9 at hb9
            clear hFvc0 hFvf0 hFvc1 hFvf1 hFvc2 hFvf2
            clear hGc0 hGf0 hGc1 hGf1
            clear hPvc0 hPvf0 hPvc1 hPvf1 hPvc2 hPvf2
            clear hFvg0 hFvg1 hFvg2
            clear hGg0 hGg1
            clear hPvg0 hPvg1 hPvg2
            clear g1 x2' hbl2 hPv
            replace hFv := hFv.after hb9
            replace hG := hG.after hb9
            replace y1' := (hb9.cell (p := ⟨b', o' + k, none⟩) hbl3).trans y1'
            replace i1' := (hb9.cell (p := ⟨b7, o7 + k, none⟩) hbl8).trans i1'
            replace hbl3 := Nat.lt_of_lt_of_le hbl3 hb9.size
            replace hbl8 := Nat.lt_of_lt_of_le hbl8 hb9.size
            have hbq9 := bt hbx hb9
            clear hb9 hbx
            have g1 := gcl (a := ⟨b', o' + k, none⟩) hbl3 y1'
            obtain ⟨hFvc0, hFvf0, hFvc1, hFvf1, hFvc2, hFvf2⟩ := hFv.x3
            obtain ⟨hGc0, hGf0, hGc1, hGf1⟩ := hG.x2
            have hFvg0 := hFv.gcell 0
            have hFvg1 := hFv.gcell 1
            have hFvg2 := hFv.gcell 2
            have hGg0 := hG.gcell 0
            have hGg1 := hG.gcell 1
            go_wp2_with fail
            refine wp_region_gw (by kernel_rfl) (by kernel_rfl) ?_
            repeat (go_big_quiet_step (first | (go_at_call 86; exact gw_of (HML.out _))))
            refine wpQuiet_nil ?_
            rintro wz ⟨xwz, rfl⟩
            have hbz := gw_below xwz
            generalize gw xwz = wz at hbz
            clear hFvc0 hFvf0 hFvc1 hFvf1 hFvc2 hFvf2
            clear hGc0 hGf0 hGc1 hGf1
            clear hFvg0 hFvg1 hFvg2
            clear hGg0 hGg1
            replace i1' := (hbz.cell (p := ⟨b7, o7 + k, none⟩) hbl8).trans i1'
            replace hbl8 := Nat.lt_of_lt_of_le hbl8 hbz.size
            clear g1 y1' hFv hG
            by_cases hyi : yv = iq
            ·have h1 := eqT hyi
             have h2 := eqE hyi
             have HX : Hid (∀ j, j < k + 1 → imJ N F c Z j = true) := fun j hj => by
              by_cases e : j = k
              ·rw [e, HIJ.out]; exact decide_eq_true hyi
              ·exact HA.out j (by omega)
             clear hyi
             go_wp2
             go_roundw
             case rel => exact ⟨k + 1, by omega, by go_num, HX, bt (bt hbr hbq9) hbz⟩
             case measure => simp [intOf]; omega
            ·have h1 := eqF hyi
             have h2 := neE hyi
             have HF' : Hid (r = 16) := by rw [Hid, HRES.out, ver_16 HL1.out HL2.out HCL.out HBL.out HHS.out (ra_false hkl (by rw [HIJ.out]; exact decide_eq_false hyi))]
             clear hyi
             go_wp2
             go_ret
             exact ⟨by rw [HF'.out]; rfl, bt (bt hBW hbq9) hbz⟩
          ·have HIM : Hid (ra N.eqs.length (imJ N F c Z) = true) := ra_true fun j hj => HA.out j (by have := HL1.out; have := HNF.out; omega)
           have HF' : Hid (r = 0) := by rw [Hid, HRES.out, ver_0 HL1.out HL2.out HCL.out HBL.out HHS.out HIM.out]
           obtain ⟨hFc0, hFf0, hFc1, hFf1, hFc2, hFf2⟩ := hF.x3
           go_wp2
           go_ret
           exact ⟨by rw [HF'.out]; rfl, hBW⟩
    ·have hcm := cmp_nneg c C hcg
     have hcm2 : 0 ≤ cmpN c C := by omega
     have HF' : Hid (r = 2) := by rw [Hid, HRES.out, ver_2 HL1.out HL2.out hcg]
     clear hcg
     obtain ⟨hFc0, hFf0, hFc1, hFf1, hFc2, hFf2⟩ := hF.x3
     obtain ⟨hPc0, hPf0, hPc1, hPf1, hPc2, hPf2⟩ := hP.x3
     obtain ⟨hRc0, hRf0, hRc1, hRf1⟩ := hR.x2
     go_wp2_with fail
     refine (rorder_c c C _ (szM HCC.out) (szM HC.out)).mono ?_
     rintro e w5 ⟨rfl, hb5⟩
     go_wp2
     go_ret
     exact ⟨by rw [HF'.out]; rfl, bt hBW hb5⟩
   ·have HF' : Hid (r = 6) := by
     rw [Hid, HRES.out, ver_6]
     rw [← HNF.out, ← HN3.out, ← HNZ.out, ← HN2.out]
     omega
    by_cases h1 : nF = n3
    ·have h2 : ((nZ : Int) != (n2 : Int)) = true := by rw [bne_iff_ne]; omega
     have h2' : ((nZ : Int) == (n2 : Int)) = false := by rw [beq_eq_false_iff_ne]; omega
     subst h1
     clear hln
     obtain ⟨hFc0, hFf0, hFc1, hFf1, hFc2, hFf2⟩ := hF.x3
     obtain ⟨hPc0, hPf0, hPc1, hPf1, hPc2, hPf2⟩ := hP.x3
     go_wp2
     go_ret
     exact ⟨by rw [HF'.out]; rfl, hBW⟩
    ·have h2 : ((nF : Int) != (n3 : Int)) = true := by rw [bne_iff_ne]; omega
     have h2' : ((nF : Int) == (n3 : Int)) = false := by rw [beq_eq_false_iff_ne]; omega
     clear hln h1
     obtain ⟨hFc0, hFf0, hFc1, hFf1, hFc2, hFf2⟩ := hF.x3
     obtain ⟨hPc0, hPf0, hPc1, hPf1, hPc2, hPf2⟩ := hP.x3
     go_wp2
     go_ret
     exact ⟨by rw [HF'.out]; rfl, hBW⟩

end Go.Proofs.YtehoiholhkfcpaaGreat
end
