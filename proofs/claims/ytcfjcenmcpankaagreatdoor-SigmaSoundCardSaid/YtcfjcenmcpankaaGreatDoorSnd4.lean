/- dominolaw16.SigmaSound: the walk. -/
import Derived.Test.YtcfjcenmcpankaaGreatDoorSat1
import Derived.Test.YtcfjcenmcpankaaGreatDoorHol
import Derived.Test.YtcfjcenmcpankaaGreatDoorSig4
import Derived.Test.YtcfjcenmcpankaaGreatDoorAw16
import Derived.Laws.PanicsMore
section
/- Two accepted proofs with one first message: in each equation the powers with the differences give 1. -/
set_option linter.unusedVariables false
set_option linter.unusedSimpArgs false
set_option maxRecDepth 100000
namespace Go.Proofs.YtcfjcenmcpankaaGreatDoor
open Go.RowKit Go.Shelf

/-- products modulo p -/
theorem mmod {a b c d p : Nat} (h1 : a % p = b % p) (h2 : c % p = d % p) : a * c % p = b * d % p := by
 rw [Nat.mul_mod, h1, h2, ← Nat.mul_mod]
theorem pmod {a b p : Nat} (n : Nat) (h : a % p = b % p) : a ^ n % p = b ^ n % p := by
 rw [Nat.pow_mod, h, ← Nat.pow_mod]
/-- a power with an integer exponent -/
def fx (p x : Nat) (z : Int) : Nat := bse p x z ^ z.natAbs
theorem fx_eq (p x : Nat) (z : Int) : fx p x z = x ^ z.toNat * invN x p ^ (-z).toNat := by
 unfold fx bse
 by_cases h : z < 0
 ·rw [if_pos h, show z.toNat = 0 by omega, show (-z).toNat = z.natAbs by omega, Nat.pow_zero, Nat.one_mul]
 ·rw [if_neg h, show (-z).toNat = 0 by omega, show z.toNat = z.natAbs by omega, Nat.pow_zero, Nat.mul_one]
theorem xy_pow {p x y : Nat} (h : x * y % p = 1 % p) (n : Nat) : x ^ n * y ^ n % p = 1 % p := by
 rw [← Nat.mul_pow, Nat.pow_mod, h, ← Nat.pow_mod, Nat.one_pow]
theorem fx_sub {p x : Nat} (hp : 0 < p) (hg : Nat.gcd x p = 1) (m n : Nat) : x ^ m * invN x p ^ n % p = fx p x ((m : Int) - n) % p := by
 have h := invN_spec x p hp hg
 rw [fx_eq]
 generalize invN x p = y at h
 by_cases hl : n ≤ m
 ·rw [show ((m : Int) - n).toNat = m - n by omega, show (-((m : Int) - n)).toNat = 0 by omega, Nat.pow_zero, Nat.mul_one]
  obtain ⟨d, rfl⟩ : ∃ d, m = d + n := ⟨m - n, by omega⟩
  rw [Nat.pow_add, Nat.mul_assoc, Nat.add_sub_cancel]
  have := mmod (p := p) (a := x ^ d) (b := x ^ d) rfl (xy_pow h n)
  rwa [Nat.mul_one] at this
 ·rw [show ((m : Int) - n).toNat = 0 by omega, show (-((m : Int) - n)).toNat = n - m by omega, Nat.pow_zero, Nat.one_mul]
  obtain ⟨d, rfl⟩ : ∃ d, n = m + d := ⟨n - m, by omega⟩
  rw [Nat.pow_add, ← Nat.mul_assoc, Nat.add_sub_cancel_left]
  have := mmod (p := p) (c := y ^ d) (d := y ^ d) (xy_pow h m) rfl
  rwa [Nat.one_mul] at this
theorem fx_add {p x : Nat} (hp : 0 < p) (hg : Nat.gcd x p = 1) (a b : Int) : fx p x a * fx p x b % p = fx p x (a + b) % p := by
 have h := fx_sub hp hg (a.toNat + b.toNat) ((-a).toNat + (-b).toNat)
 rw [show ((a.toNat + b.toNat : Nat) : Int) - (((-a).toNat + (-b).toNat : Nat) : Int) = a + b by omega] at h
 rw [← h, fx_eq, fx_eq, Nat.pow_add, Nat.pow_add]
 congr 1
 simp only [Nat.mul_assoc, Nat.mul_left_comm, Nat.mul_comm]
theorem fx_pos {p x q : Nat} (h : x ^ q % p = 1 % p) (k : Nat) : fx p x ((q : Int) * k) % p = 1 % p := by
 rw [fx_eq, ← Int.natCast_mul, Int.toNat_natCast, show (-((q * k : Nat) : Int)).toNat = 0 by omega, Nat.pow_zero, Nat.mul_one, Nat.pow_mul, Nat.pow_mod, h, ← Nat.pow_mod, Nat.one_pow]
theorem fx_ord {p x q : Nat} (hp : 0 < p) (hg : Nat.gcd x p = 1) (h : x ^ q % p = 1 % p) (k : Int) : fx p x ((q : Int) * k) % p = 1 % p := by
 obtain ⟨n, rfl | rfl⟩ := k.eq_nat_or_neg
 ·exact fx_pos h n
 ·have h1 := fx_add hp hg ((q : Int) * -(n : Int)) ((q : Int) * n)
  rw [← Int.mul_add, Int.add_left_neg, Int.mul_zero] at h1
  have h2 := mmod (p := p) (a := fx p x ((q : Int) * -(n : Int))) rfl (fx_pos h n)
  rw [Nat.mul_one] at h2
  rw [← h2, h1]
  rfl
/-- the product of an equation's terms -/
def ptx (p : Nat) (Z : List Int) (ts : List NTrm) : Nat := pw (prs p (ts.map (·.base)) (ts.map fun t => t.coef * Z.getD t.var 0)) 0
theorem ptx_cons (p : Nat) (Z : List Int) (t : NTrm) (ts : List NTrm) : ptx p Z (t :: ts) = fx p t.base (t.coef * Z.getD t.var 0) * ptx p Z ts := by
 unfold ptx fx
 simp [prs, pw]
theorem ptx_mul {p : Nat} (D Y X : List Int) (ts : List NTrm) (h : ∀ t ∈ ts, fx p t.base (t.coef * D.getD t.var 0) * fx p t.base (t.coef * Y.getD t.var 0) % p = fx p t.base (t.coef * X.getD t.var 0) % p) : ptx p D ts * ptx p Y ts % p = ptx p X ts % p := by
 induction ts with
 | nil => rfl
 | cons t ts ih =>
  rw [ptx_cons, ptx_cons, ptx_cons]
  have h1 := mmod (h t (by simp)) (ih fun u hu => h u (by simp [hu]))
  rw [← h1]
  congr 1
  simp only [Nat.mul_assoc, Nat.mul_left_comm]
theorem mcancel {a b u p : Nat} (hp : 0 < p) (hg : Nat.gcd u p = 1) (h : a * u % p = b * u % p) : a % p = b % p := by
 have hv := invN_spec u p hp hg
 have h1 := mmod (p := p) (c := invN u p) (d := invN u p) h rfl
 have e : ∀ z : Nat, z * u * invN u p % p = z % p := fun z => by
  rw [Nat.mul_assoc]
  have := mmod (p := p) (a := z) (b := z) rfl hv
  rwa [Nat.mul_one] at this
 rwa [e, e] at h1

/-- the differences of two lists of responses -/
def dfl (n : Nat) (X Y : List Int) : List Int := (List.range n).map fun v => X.getD v 0 - Y.getD v 0
theorem dfl_at (n : Nat) (X Y : List Int) (v : Nat) (h : v < n) : (dfl n X Y).getD v 0 = X.getD v 0 - Y.getD v 0 := by
 unfold dfl
 rw [List.getD_eq_getElem?_getD, List.getElem?_map, List.getElem?_range h]
 rfl
/-- what an accepted proof says of an equation -/
theorem ver_eq {N : NSta} {C K c : Nat} {F : List Nat} {Z : List Int} (hm : NOk N) (hv : N.ver C K F c Z = 0) (j : Nat) (hj : j < N.eqs.length) (hF : j < F.length) :
  F[j] * N.eqs[j].tgt ^ c % (N.gp N.eqs[j]).1 = ptx (N.gp N.eqs[j]).1 Z N.eqs[j].trms % (N.gp N.eqs[j]).1 ∧ hasB (N.gp N.eqs[j]).1 (N.gp N.eqs[j]).2 F[j] = true := by
 have hg := (hm.e _ (List.getElem_mem hj)).1
 have hgp := gp_at N N.eqs[j] hg
 unfold NSta.ver at hv
 split at hv
 ·omega
 split at hv
 ·omega
 split at hv
 ·omega
 split at hv
 ·omega
 rename_i h5
 have h7 := ra_at (by simpa using h5) hj
 rw [hsJ_at N F j hj hF hg, ← hgp] at h7
 split at hv
 ·omega
 rename_i h5
 have h6 := ra_at (by simpa using h5) hj
 rw [imJ_at N F c Z j hj hF hg, decide_eq_true_iff, powI_nat, ← hgp] at h6
 rw [Nat.mul_mod, Nat.mod_mod, ← Nat.mul_mod] at h6
 exact ⟨h6, h7⟩
/-- the product that the law forms -/
theorem sound_eq {N : NSta} {C K ca cb : Nat} {F : List Nat} {X Y : List Int} (hm : NOk N) (hc : N.chk = 0) (va : N.ver C K F ca X = 0) (vb : N.ver C K F cb Y = 0) (j : Nat) (hj : j < N.eqs.length) :
  pw (prs (N.gp N.eqs[j]).1 (N.eqs[j].tgt :: N.eqs[j].trms.map (·.base)) (((cb : Int) - (ca : Int)) :: N.eqs[j].trms.map fun t => t.coef * (X.getD t.var 0 - Y.getD t.var 0))) 0 % (N.gp N.eqs[j]).1 = 1 := by
 obtain ⟨f1, l1, _, _⟩ := ver_inv va
 obtain ⟨_, l2, _, _⟩ := ver_inv vb
 have hg := (hm.e _ (List.getElem_mem hj)).1
 obtain ⟨e1, e2, e3⟩ := chk_elem hc j hj hg
 have hgp := gp_at N N.eqs[j] hg
 rw [← hgp] at e1 e2 e3
 have hp := grp_gt e1
 have hp0 : 0 < (N.gp N.eqs[j]).1 := by omega
 have hF : j < F.length := by omega
 obtain ⟨w1, hFB⟩ := ver_eq hm va j hj hF
 obtain ⟨w2, _⟩ := ver_eq hm vb j hj hF
 have hmul := ptx_mul (p := (N.gp N.eqs[j]).1) (dfl N.vars.length X Y) Y X N.eqs[j].trms (fun t ht => by
  have hv := ((hm.e _ (List.getElem_mem hj)).2.2.2 t ht).2.1
  have hb := e3 t.base (List.mem_map.2 ⟨t, ht, rfl⟩)
  have hco := has_coprime hp hb
  rw [dfl_at _ _ _ _ hv, fx_add hp0 hco, ← Int.mul_add, Int.sub_add_cancel])
 have hct := has_coprime hp e2
 have hpt : pw (prs (N.gp N.eqs[j]).1 (N.eqs[j].tgt :: N.eqs[j].trms.map (·.base)) (((cb : Int) - (ca : Int)) :: N.eqs[j].trms.map fun t => t.coef * (X.getD t.var 0 - Y.getD t.var 0))) 0 = fx (N.gp N.eqs[j]).1 N.eqs[j].tgt ((cb : Int) - (ca : Int)) * ptx (N.gp N.eqs[j]).1 (dfl N.vars.length X Y) N.eqs[j].trms := by
  unfold ptx fx
  have e : (N.eqs[j].trms.map fun t => t.coef * (X.getD t.var 0 - Y.getD t.var 0)) = N.eqs[j].trms.map fun t => t.coef * (dfl N.vars.length X Y).getD t.var 0 := List.map_congr_left fun t ht => by
   rw [dfl_at _ _ _ _ ((hm.e _ (List.getElem_mem hj)).2.2.2 t ht).2.1]
  rw [e]
  simp [prs, pw]
 rw [hpt]
 generalize (N.gp N.eqs[j]).1 = p at *
 generalize ptx p (dfl N.vars.length X Y) N.eqs[j].trms = pd at *
 have h1 : 1 % p = 1 := Nat.mod_eq_of_lt hp
 rw [← h1]
 refine mcancel (u := F[j] * N.eqs[j].tgt ^ ca) hp0 (Nat.Coprime.mul_left (has_coprime hp hFB) (Nat.Coprime.pow_left ca hct)) ?_
 rw [Nat.one_mul, w1, ← hmul]
 have a1 : fx p N.eqs[j].tgt ((cb : Int) - (ca : Int)) * N.eqs[j].tgt ^ ca % p = N.eqs[j].tgt ^ cb % p := by
  have h := fx_add hp0 hct ((cb : Int) - (ca : Int)) (ca : Int)
  rw [Int.sub_add_cancel] at h
  have g : ∀ n : Nat, fx p N.eqs[j].tgt (n : Int) = N.eqs[j].tgt ^ n := fun n => by rw [fx_eq, Int.toNat_natCast, show (-(n : Int)).toNat = 0 by omega, Nat.pow_zero, Nat.mul_one]
  rw [g, g] at h
  exact h
 have a2 := mmod (p := p) (a := pd * F[j]) (b := pd * F[j]) rfl a1
 have a3 := mmod (p := p) (a := pd) (b := pd) rfl w2
 have e4 : fx p N.eqs[j].tgt ((cb : Int) - (ca : Int)) * pd * (F[j] * N.eqs[j].tgt ^ ca) = pd * F[j] * (fx p N.eqs[j].tgt ((cb : Int) - (ca : Int)) * N.eqs[j].tgt ^ ca) := by
  simp only [Nat.mul_assoc, Nat.mul_left_comm, Nat.mul_comm]
 rw [e4, a2, Nat.mul_assoc, a3]
end Go.Proofs.YtcfjcenmcpankaaGreatDoor
end

section
/- Verify for first messages of any length. -/
set_option linter.unusedVariables false
set_option linter.unusedSimpArgs false
set_option maxRecDepth 100000
namespace Go.Proofs.YtcfjcenmcpankaaGreatDoor
open Go.RowKit Go.Shelf

set_option maxHeartbeats 400000 in
theorem validL_c (s : ByteArray) (w : World) (hs : s.size ≤ 9223372036854775807) :
  Calls Tryz.prog 49 #[.string s] w fun e w' => e = .returned (.bool (vldB s)) ∧ w = w' := by
 by_cases h1 : 128 < s.size
 ·have HV := Lib.hid (vldB_long h1)
  go_enter Tryz.func49, Tryz.ntmps49
  go_wp2
  go_ret
  exact ⟨rb HV.out.symm, rfl⟩
 ·by_cases h2 : s.size = 0
  ·obtain rfl : s = ByteArray.empty := by
    apply ByteArray.ext; apply Array.eq_empty_of_size_eq_zero; exact h2
   go_enter Tryz.func49, Tryz.ntmps49
   go_wp2
   go_ret
   exact ⟨rb vldB_empty.symm, rfl⟩
  ·have h3 : 0 < s.size := by omega
   have h4 : s.size ≤ 128 := by omega
   have HV := Lib.hid (vldB_pos h3 h4)
   have hz : ((s.size : Int) == 0) = false := by rw [beq_eq_false_iff_ne]; omega
   go_enter Tryz.func49, Tryz.ntmps49
   go_wp2
   go_ret
   exact ⟨rb HV.out.symm, rfl⟩
theorem valBL_c (s : ByteArray) (b : Bool) (w : World) (hs : s.size ≤ 9223372036854775807) (h : vldB s = b) :
  Calls Tryz.prog 49 #[.string s] w fun e w' => e = .returned (.bool b) ∧ w' = w := (validL_c s w hs).mono fun _ _ hh => ⟨by rw [hh.1, h], hh.2.symm⟩

set_option maxHeartbeats 4000000 in
theorem verifyL_form (C K ch : ByteArray) (v1 v2 v3 f rs : Value) (F : List ByteArray) (R : List (Bool × ByteArray)) (w : World)
  (hch : ∀ w', Below w.heap.size w w' → Calls Tryz.prog 42 #[.agg #[.string C, .string K], .agg #[v1, v2, v3]] w' fun e w'' => ∃ v, e = .returned (.tuple #[v, .int .i64 0]) ∧ Below w'.heap.size w' w'')
  (hn1 : F.length ≤ 1000) (hs1 : ∀ x ∈ F, x.size ≤ 9223372036854775807) (hn2 : R.length ≤ 1000) (hs2 : ∀ x ∈ R, x.2.size ≤ 1000) (hsc : ch.size ≤ 1000) (hFs : SsAt w f F) (hIs : IsAt w rs R) (hb : prB F ch R = false) :
  Calls Tryz.prog 23 #[.agg #[.string C, .string K], .agg #[v1, v2, v3], .agg #[f, .string ch, rs]] w fun e w' => e = .returned (.int .i64 3) ∧ Below w.heap.size w w' := by
 have HCH := Lib.hid hch
 have HS1 := Lib.hid hs1
 have HS2 := Lib.hid hs2
 have HN2 := Lib.hid hn2
 have HSC := Lib.hid hsc
 have HB := Lib.hid hb
 obtain ⟨a1, c1, rfl⟩ := RAt.form hFs
 obtain ⟨a2, c2, rfl⟩ := RAt.form hIs
 obtain ⟨n, hn'⟩ : ∃ n, n = F.length := ⟨_, rfl⟩
 have HN := Lib.hid hn'
 rw [← hn'] at hFs hn1 ⊢
 clear hn'
 have hR := blk3a w #[.string C, .string K] #[v1, v2, v3] #[.slice a1 n c1, .string ch, .slice a2 R.length c2] 24 29 52
 have hP := blk3b w #[.string C, .string K] #[v1, v2, v3] #[.slice a1 n c1, .string ch, .slice a2 R.length c2] 24 29 52
 have hF := blk3c w #[.string C, .string K] #[v1, v2, v3] #[.slice a1 n c1, .string ch, .slice a2 R.length c2] 24 29 52
 have hBW := b3 w (.cells #[.string C, .string K] 24) (.cells #[v1, v2, v3] 29) (.cells #[.slice a1 n c1, .string ch, .slice a2 R.length c2] 52)
 replace hFs := SsAt.after hFs hBW
 replace hIs := IsAt.after hIs hBW
 clear hch hs1 hs2 hn2 hsc hb
 obtain ⟨hRc0, hRf0, hRc1, hRf1⟩ := hR.x2
 obtain ⟨hPc0, hPf0, hPc1, hPf1, hPc2, hPf2⟩ := hP.x3
 go_enter Tryz.func23, Tryz.ntmps23
 go_wp2_with fail
 refine (HCH.out _ hBW).mono ?_
 rintro e w2 ⟨lv, rfl, hb2⟩
 clear hRc0 hRf0 hRc1 hRf1
 clear hPc0 hPf0 hPc1 hPf1 hPc2 hPf2
 replace hF := hF.after hb2
 replace hFs := SsAt.after hFs hb2
 replace hIs := IsAt.after hIs hb2
 replace hBW := bt hBW hb2
 clear hb2 hR hP
 have hFl := hF.lt
 obtain ⟨hFc0, hFf0, hFc1, hFf1, hFc2, hFf2⟩ := hF.x3
 go_wp2
 clear hFc0 hFf0 hFc1 hFf1 hFc2 hFf2
 go_loopw [33] (fun i wr => ∃ k : Nat, k ≤ n ∧ i = .int .i64 k ∧ Hid ((F.take k).all vldB = true) ∧ Below w2.heap.size w2 wr) (fun i _ => n - (intOf i).toNat)
 case atStart => exact ⟨0, by omega, rfl, rfl, Below.refl _ _⟩
 case round =>
  obtain ⟨k, hk, rfl, HA, hbr⟩ := hrel
  obtain ⟨wp, hwp⟩ : ∃ wp, wp = wr := ⟨_, rfl⟩
  subst hwp
  replace hF := hF.after hbr
  replace hFs := SsAt.after hFs hbr
  replace hIs := IsAt.after hIs hbr
  replace hBW := bt hBW hbr
  by_cases hlt : k < n
  ·have hkl : k < F.length := by rw [← HN.out]; exact hlt
   have HT := Lib.hid (all_take vldB F k hkl)
   have HSZ := Lib.hid (HS1.out _ (List.getElem_mem hkl))
   obtain ⟨b, o, rfl, hbl, x1⟩ := SsAt.at_ hFs hkl
   generalize (F[k]'hkl) = s1 at x1 HT HSZ
   have h0k : (0 : Int) ≤ (k : Int) := by omega
   have h1k : (k : Int) < (n : Int) := by omega
   cases hv : vldB s1
   ·have HV := Lib.hid hv
    clear hv
    go_wp2_with fail
    refine (valBL_c s1 false _ HSZ.out HV.out).mono ?_
    rintro e w' ⟨rfl, hw'⟩
    subst w'
    go_wp2
    go_ret
    exact ⟨rfl, hBW⟩
   ·have HV := Lib.hid hv
    have HX : Hid ((F.take (k + 1)).all vldB = true) := by rw [Hid, HT.out, HA.out]; exact hv
    clear hv
    go_wp2_with fail
    refine (valBL_c s1 true _ HSZ.out HV.out).mono ?_
    rintro e w' ⟨rfl, hw'⟩
    subst w'
    go_wp2
    go_roundw
    case rel => exact ⟨k + 1, by omega, by go_num, HX, hbr⟩
    case measure => simp [intOf]; omega
  ·have HFA : Hid (F.all vldB = true) := all_end vldB F k (by rw [← HN.out]; omega) HA.out
   have hFl2 := hF.lt
   cases hv : vldB ch
   ·have HV := Lib.hid hv
    clear hv
    obtain ⟨hFc0, hFf0, hFc1, hFf1, hFc2, hFf2⟩ := hF.x3
    go_wp2_with fail
    refine (valB_c ch false _ HSC.out HV.out).mono ?_
    rintro e w' ⟨rfl, hw'⟩
    subst w'
    go_wp2
    go_ret
    exact ⟨rfl, hBW⟩
   ·have HV := Lib.hid hv
    have HRV : Hid ((R.all fun x => ivB x.1 x.2) = false) := by
     have := HB.out
     unfold prB at this
     rw [HFA.out, hv] at this
     exact this
    clear hv
    obtain ⟨hFc0, hFf0, hFc1, hFf1, hFc2, hFf2⟩ := hF.x3
    go_wp2_with fail
    refine (valB_c ch true _ HSC.out HV.out).mono ?_
    rintro e w' ⟨rfl, hw'⟩
    subst w'
    go_wp2_with fail
    refine (svalidV_c R _ false _ HN2.out HS2.out hIs HRV.out).mono ?_
    rintro e w5 ⟨rfl, hb5⟩
    go_wp2
    go_ret
    exact ⟨rfl, bt hBW hb5⟩

theorem vld_size {s : ByteArray} (h : vldB s = true) : s.size ≤ 128 := by
 apply Classical.byContradiction
 intro hn
 rw [vldB_long (by omega)] at h
 cases h
/-- one proof: the program's answer; an accepted one is numbers -/
theorem ver_numL (N : NSta) (C K : Nat) (ch : ByteArray) (F : List ByteArray) (R : List (Bool × ByteArray)) (v1 v2 v3 f rs : Value) (w : World) (hC : C < 256 ^ 16) (hK : K < 256 ^ 16) (hm : NOk N) (hS : NAt w v1 v2 v3 N) (hc : N.chk = 0)
  (h2 : 2 ≤ C) (h3 : 2 ≤ K) (hv : N.vars.any vz = true → C ≤ N.ord) (hn1 : F.length ≤ 1000) (hs1 : ∀ x ∈ F, x.size ≤ 9223372036854775807) (hn2 : R.length ≤ 1000) (hs2 : ∀ x ∈ R, x.2.size ≤ 60) (hsc : ch.size ≤ 100) (hFs : SsAt w f F) (hIs : IsAt w rs R) :
  ∃ k : Nat, (∀ w', Below w.heap.size w w' → Calls Tryz.prog 23 #[.agg #[.string (E C), .string (E K)], .agg #[v1, v2, v3], .agg #[f, .string ch, rs]] w' fun e w'' => e = .returned (.int .i64 k) ∧ Below w'.heap.size w' w'') ∧
   (k = 0 → ∃ (G : List Nat) (c : Nat) (Z : List Int), G.map E = F ∧ ch = E c ∧ Z.map zI = R ∧ c < 256 ^ 100 ∧ (∀ z ∈ Z, z.natAbs < 256 ^ 60) ∧ N.ver C K G c Z = 0) := by
 cases hp : prB F ch R
 ·refine ⟨3, fun w' hb => ?_, fun h => absurd h (by decide)⟩
  refine verifyL_form (E C) (E K) ch v1 v2 v3 f rs F R w' (fun w2 hb2 => (bounds_ok N C K v1 v2 v3 w2 hC hK h2 h3 hv hm (hS.after (bt hb hb2)) hc).mono ?_) (by omega) hs1 (by omega) (fun x hx => by have := hs2 x hx; omega) (by omega) (SsAt.after hFs hb) (IsAt.after hIs hb) hp
  rintro e w3 ⟨v, rfl, _, hb3⟩
  exact ⟨v, rfl, hb3⟩
 ·simp only [prB, Bool.and_eq_true, List.all_eq_true] at hp
  obtain ⟨⟨p1, p2⟩, p3⟩ := hp
  obtain ⟨G, rfl, hG⟩ := nums_lift F 128 p1 (fun x hx => vld_size (p1 x hx))
  obtain ⟨c, hcc, rfl⟩ := numk hsc p2
  obtain ⟨Z, rfl, hZ⟩ := ints_lift R 60 p3 hs2
  have hg : G.length ≤ 1000 := by simpa using hn1
  have hz : Z.length ≤ 1000 := by simpa using hn2
  have hZ2 : ∀ z ∈ Z, z.natAbs < 256 ^ 64 := fun x hx => Nat.lt_of_lt_of_le (hZ x hx) (Nat.pow_le_pow_right (by decide) (by decide))
  have hc2 : c < 256 ^ 128 := Nat.lt_of_lt_of_le hcc (Nat.pow_le_pow_right (by decide) (by decide))
  have hA := fun w' (hb : Below w.heap.size w w') => verify_num N C K c G Z v1 v2 v3 f rs w' hC hK hm (hS.after hb) hc (fun w2 hb2 => bounds_ok N C K v1 v2 v3 w2 hC hK h2 h3 hv hm (hS.after (bt hb hb2)) hc) (SsAt.after hFs hb) (ZsAt.after hIs hb) hg hG hc2 hz hZ2
  exact ⟨N.ver C K G c Z, hA, fun h0 => ⟨G, c, Z, rfl, rfl, rfl, hcc, hZ, h0⟩⟩
end Go.Proofs.YtcfjcenmcpankaaGreatDoor
end

section
/- Helpers of SigmaSound: two lists of strings compared; the difference of two integers. -/
set_option linter.unusedVariables false
set_option linter.unusedSimpArgs false
set_option maxRecDepth 100000
namespace Go.Proofs.YtcfjcenmcpankaaGreatDoor
open Go.RowKit Go.Shelf

set_option maxHeartbeats 1600000 in
theorem eqStr_c (A B : List ByteArray) (u v : Value) (w : World) (ha : A.length ≤ 1000) (hb : B.length ≤ 1000) (hA : SsAt w u A) (hB : SsAt w v B) :
  Calls Tryz.prog 15 #[u, v] w fun e w' => e = .returned (.bool (decide (A = B))) ∧ Below w.heap.size w w' := by
 obtain ⟨r, hr⟩ : ∃ r : Bool, r = decide (A = B) := ⟨_, rfl⟩
 have HRES := Lib.hid hr
 rw [← hr]
 clear hr
 obtain ⟨a1, c1, e1⟩ := RAt.form hA
 obtain ⟨a2, c2, e2⟩ := RAt.form hB
 obtain ⟨n, hn⟩ : ∃ n, n = A.length := ⟨_, rfl⟩
 obtain ⟨m, hm⟩ : ∃ n, n = B.length := ⟨_, rfl⟩
 have HN := Lib.hid hn
 have HM := Lib.hid hm
 rw [← hn] at e1 ha
 rw [← hm] at e2 hb
 subst e1 e2
 clear hn hm
 by_cases hnm : n = m
 ·subst hnm
  have hx1 : ((n : Int) != (n : Int)) = false := by simp
  go_enter Tryz.func15, Tryz.ntmps15
  go_wp2
  go_loopw [13] (fun i wr => ∃ k : Nat, k ≤ n ∧ i = .int .i64 k ∧ Hid (∀ j, j < k → A[j]? = B[j]?) ∧ Below w.heap.size w wr) (fun i _ => n - (intOf i).toNat)
  case atStart => exact ⟨0, by omega, rfl, fun j h => absurd h (Nat.not_lt_zero _), Below.refl _ _⟩
  case round =>
   obtain ⟨k, hk, rfl, HA, hbr⟩ := hrel
   obtain ⟨wp, hwp⟩ : ∃ wp, wp = wr := ⟨_, rfl⟩
   subst hwp
   replace hA := SsAt.after hA hbr
   replace hB := SsAt.after hB hbr
   by_cases hlt : k < n
   ·have hka : k < A.length := by rw [← HN.out]; exact hlt
    have hkb : k < B.length := by rw [← HM.out]; exact hlt
    obtain ⟨b, o, rfl, hbl, x1⟩ := SsAt.at_ hA hka
    obtain ⟨b', o', rfl, hbl', y1⟩ := SsAt.at_ hB hkb
    have HKA : Hid (A[k]? = some (A[k]'hka)) := List.getElem?_eq_getElem hka
    have HKB : Hid (B[k]? = some (B[k]'hkb)) := List.getElem?_eq_getElem hkb
    generalize (A[k]'hka) = xa at x1 HKA
    generalize (B[k]'hkb) = xb at y1 HKB
    have h0k : (0 : Int) ≤ (k : Int) := by omega
    have h1k : (k : Int) < (n : Int) := by omega
    have g1 := gcl (a := ⟨b, o + k, none⟩) hbl x1
    have g2 := gcl (a := ⟨b', o' + k, none⟩) hbl' y1
    by_cases hx : xa = xb
    ·have h2 : (xa.toList == xb.toList) = true := by rw [hx]; simp
     have h1 : (xa.toList != xb.toList) = false := by rw [bne, h2]; rfl
     have HX : Hid (∀ j, j < k + 1 → A[j]? = B[j]?) := fun j hj => by
      by_cases e : j = k
      ·rw [e, HKA.out, HKB.out, hx]
      ·exact HA.out j (by omega)
     clear hx
     go_wp2_with fail
     refine wp_region_gw (by kernel_rfl) (by kernel_rfl) ?_
     repeat (go_big_quiet_step (first | (fail)))
     refine wpQuiet_nil ?_
     rintro w5 ⟨xw5, rfl⟩
     have hb5 := gw_below xw5
     generalize gw xw5 = w5 at hb5
     go_wp2
     go_roundw
     case rel => exact ⟨k + 1, by omega, by go_num, HX, bt hbr hb5⟩
     case measure => simp [intOf]; omega
    ·have h2 : (xa.toList == xb.toList) = false := by
      rw [beq_eq_false_iff_ne, ByteArray.toList_eq, ByteArray.toList_eq]
      exact fun e => hx (ByteArray.ext (Array.toList_inj.1 e))
     have h1 : (xa.toList != xb.toList) = true := by rw [bne, h2]; rfl
     have HF : Hid (r = false) := by
      rw [Hid, HRES.out]
      exact decide_eq_false (fun e => hx (by have h3 := HKA.out; rw [e, HKB.out] at h3; exact (Option.some.inj h3).symm))
     clear hx
     go_wp2_with fail
     refine wp_region_gw (by kernel_rfl) (by kernel_rfl) ?_
     repeat (go_big_quiet_step (first | (fail)))
     refine wpQuiet_nil ?_
     rintro w5 ⟨xw5, rfl⟩
     have hb5 := gw_below xw5
     generalize gw xw5 = w5 at hb5
     go_wp2
     go_ret
     exact ⟨by rw [HF.out]; rfl, bt hbr hb5⟩
   ·have HF : Hid (r = true) := by
     rw [Hid, HRES.out]
     refine decide_eq_true (List.ext_getElem? fun j => ?_)
     by_cases hj : j < k
     ·exact HA.out j hj
     ·rw [List.getElem?_eq_none (by rw [← HN.out]; omega), List.getElem?_eq_none (by rw [← HM.out]; omega)]
    go_wp2
    go_ret
    exact ⟨by rw [HF.out]; rfl, hbr⟩
 ·have hx1 : ((n : Int) != (m : Int)) = true := by rw [bne_iff_ne]; omega
  have hx2 : ((n : Int) == (m : Int)) = false := by rw [beq_eq_false_iff_ne]; omega
  have HF : Hid (r = false) := by rw [Hid, HRES.out]; exact decide_eq_false (fun e => hnm (by rw [HN.out, HM.out, e]))
  clear hnm
  go_enter Tryz.func15, Tryz.ntmps15
  go_wp2
  go_ret
  exact ⟨by rw [HF.out]; rfl, Below.refl _ _⟩


set_option maxHeartbeats 1600000 in
theorem sless_c (x y : Int) (w : World) (h1 : x.natAbs < 256 ^ 127) (h2 : y.natAbs < 256 ^ 127) :
  Calls Tryz.prog 34 #[.agg #[.bool (sg (x)), .string (E (x).natAbs)], .agg #[.bool (sg (y)), .string (E (y).natAbs)]] w fun e w' => e = .returned (.agg #[.bool (sg (x - y)), .string (E (x - y).natAbs)]) ∧ Below w.heap.size w w' := by
 have hsp : (256 : Nat) ^ 128 = 256 ^ 127 * 256 := by rw [← Nat.pow_succ]
 have hd : (x - y).natAbs < 256 ^ 128 := by
  rw [hsp]
  generalize (256 : Nat) ^ 127 = q at *
  omega
 have HSU : Hid (∀ w, Calls Tryz.prog 35 #[.agg #[.bool (sg (x)), .string (E (x).natAbs)], .agg #[.bool (sg (y)), .string (E (y).natAbs)]] w fun e w' => e = .returned (.tuple #[.agg #[.bool (sg (x - y)), .string (E (x - y).natAbs)], .int .i64 0]) ∧ Below w.heap.size w w') := fun w => risub_c x y w (by rw [hsp]; omega) (by rw [hsp]; omega) hd
 clear hsp hd h1 h2
 generalize hd : x - y = d at HSU ⊢
 clear hd
 generalize sg x = sx at HSU ⊢
 generalize E x.natAbs = ex at HSU ⊢
 generalize sg y = sy at HSU ⊢
 generalize E y.natAbs = ey at HSU ⊢
 generalize sg d = sd at HSU ⊢
 generalize E d.natAbs = ed at HSU ⊢
 have hX := ((Blk.new w #[.bool sx, .string ex] 72).alloc (.cells #[.bool sy, .string ey] 72)).alloc (.cells #[.bool false, .string { data := #[] }] 72)
 have hY := (Blk.new (w.alloc (.cells #[.bool sx, .string ex] 72)) #[.bool sy, .string ey] 72).alloc (.cells #[.bool false, .string { data := #[] }] 72)
 have hR := Blk.new ((w.alloc (.cells #[.bool sx, .string ex] 72)).alloc (.cells #[.bool sy, .string ey] 72)) #[.bool false, .string { data := #[] }] 72
 simp only [World.size_alloc] at hY hR
 have hBW := b3 w (.cells #[.bool sx, .string ex] 72) (.cells #[.bool sy, .string ey] 72) (.cells #[.bool false, .string { data := #[] }] 72)
 obtain ⟨hXc0, hXf0, hXc1, hXf1⟩ := hX.x2
 obtain ⟨hYc0, hYf0, hYc1, hYf1⟩ := hY.x2
 go_enter Tryz.func34, Tryz.ntmps34
 go_wp2_with fail
 refine (HSU.out _).mono ?_
 rintro e w2 ⟨rfl, hb2⟩
 clear hXc0 hXf0 hXc1 hXf1
 clear hYc0 hYf0 hYc1 hYf1
 replace hR := hR.after hb2
 replace hBW := bt hBW hb2
 clear hb2 hX hY
 have hR5 := hR.alloc (.cells #[.bool false, .string { data := #[] }] 72)
 have hl := hR.lt
 have hRR : Blk (((w2.setCell ⟨w.heap.size + 1 + 1, 0, none⟩ (.bool sd)).setCell ⟨w.heap.size + 1 + 1, 1, none⟩ (.string ed)).alloc (.cells #[.bool sd, .string ed] 72)) (w.heap.size + 1 + 1) 72 [.bool sd, .string ed] := ((hR.set 0 (.bool sd)).set 1 (.string ed)).alloc _
 obtain ⟨hRc0, hRf0, hRc1, hRf1⟩ := hR.x2
 obtain ⟨hR5c0, hR5f0, hR5c1, hR5f1⟩ := hR5.x2
 go_wp2
 refine bodyPost_ret (v := .agg #[.bool sd, .string ed]) (results_cell_row (p := 4) (ty := 72) rfl _ _ (w.heap.size + 1 + 1) 72 _ (0, 0) _ rfl hRR Tryz.underlying72 rfl (by kernel_rfl)) rfl ⟨rfl, ?_⟩
 exact ba ((hBW.setCell (by show w.heap.size ≤ w.heap.size + 1 + 1; omega) _).setCell (by show w.heap.size ≤ w.heap.size + 1 + 1; omega) _) _
end Go.Proofs.YtcfjcenmcpankaaGreatDoor
end

section
set_option linter.unusedVariables false
set_option linter.unusedSimpArgs false
set_option maxRecDepth 100000
namespace Go.Proofs.YtcfjcenmcpankaaGreatDoor
open Go.RowKit Go.Shelf

theorem ix0 (a b c d e f : Value) (W : World) : (Instr.index 77 (.agg #[a, b, c, d, e, f]) (.int .i64 0)).run Tryz.prog W = .ok (.agg #[a, b, c]) W := by
 have hs : (Tryz.prog.info? 52).map (·.size) = some 3 := by kernel_rfl
 cases hq : Tryz.prog.info? 52 with
 | none => simp [hq] at hs
 | some i =>
  have hi : i.size = 3 := by simpa [hq] using hs
  simp [Instr.index, run_underlying Tryz.underlying77, asIntOf, sizeOf, typeInfo, hq, hi, go_sem]
theorem ix1 (a b c d e f : Value) (W : World) : (Instr.index 77 (.agg #[a, b, c, d, e, f]) (.int .i64 1)).run Tryz.prog W = .ok (.agg #[d, e, f]) W := by
 have hs : (Tryz.prog.info? 52).map (·.size) = some 3 := by kernel_rfl
 cases hq : Tryz.prog.info? 52 with
 | none => simp [hq] at hs
 | some i =>
  have hi : i.size = 3 := by simpa [hq] using hs
  simp [Instr.index, run_underlying Tryz.underlying77, asIntOf, sizeOf, typeInfo, hq, hi, go_sem]
/-- what two accepted proofs are in numbers -/
structure SndF (w : World) (N : NSta) (ca cb : Nat) (X Y : List Int) (ch0 ch1 : ByteArray) (v1 v2 v3 r0 r1 : Value) : Prop where
 m : NOk N
 c : N.chk = 0
 st : NAt w v1 v2 v3 N
 e0 : ch0 = E ca
 e1 : ch1 = E cb
 a : ca < 256 ^ 100
 b : cb < 256 ^ 100
 x : ZsAt w r0 X
 y : ZsAt w r1 Y
 lx : X.length = N.vars.length
 ly : Y.length = N.vars.length
 sx : ∀ z ∈ X, z.natAbs < 256 ^ 60
 sy : ∀ z ∈ Y, z.natAbs < 256 ^ 60
 eq : ∀ j (hj : j < N.eqs.length), pw (prs (N.gp N.eqs[j]).1 (N.eqs[j].tgt :: N.eqs[j].trms.map (·.base)) (((cb : Int) - (ca : Int)) :: N.eqs[j].trms.map fun t => t.coef * (X.getD t.var 0 - Y.getD t.var 0))) 0 % (N.gp N.eqs[j]).1 = 1

theorem own_blkB {w : World} {B b : Nat} {T : TypeId} {size n : Nat} {cs : List Value} (h : Blk w b T cs) (hB : B ≤ b) (hn : cs.length = n * size) (hm : n ≤ maxLen) : w.ownsRow B T size (.slice (some ⟨b, 0, none⟩) n n) n cs :=
 ⟨hn, .inr ⟨b, n, cs.toArray, rfl, hB, h, Nat.le_refl _, hm, by simpa using hn, by simp [← hn]⟩⟩
theorem CA.k9s {w : World} {a0 a1 a2 a3 a4 a5 a6 a7 a8 : Addr} {v0 v1 v2 v3 v4 v5 v6 v7 v8 : Value} (h : CA w [(a0, v0), (a1, v1), (a2, v2), (a3, v3), (a4, v4), (a5, v5), (a6, v6), (a7, v7), (a8, v8)]) : w.cell? a0 = some v0 ∧ w.cell? a1 = some v1 ∧ w.cell? a2 = some v2 ∧ w.cell? a3 = some v3 ∧ w.cell? a4 = some v4 ∧ w.cell? a5 = some v5 ∧ w.cell? a6 = some v6 ∧ w.cell? a7 = some v7 ∧ w.cell? a8 = some v8 := ⟨(h (a0, v0) (by simp)).2, (h (a1, v1) (by simp)).2, (h (a2, v2) (by simp)).2, (h (a3, v3) (by simp)).2, (h (a4, v4) (by simp)).2, (h (a5, v5) (by simp)).2, (h (a6, v6) (by simp)).2, (h (a7, v7) (by simp)).2, (h (a8, v8) (by simp)).2⟩
theorem sub_lt61 {x y : Int} (hx : x.natAbs < 256 ^ 60) (hy : y.natAbs < 256 ^ 60) : (x - y).natAbs < 256 ^ 61 := by
 have : (256 : Nat) ^ 61 = 256 ^ 60 * 256 := by rw [← Nat.pow_succ]
 rw [this]
 generalize (256 : Nat) ^ 60 = q at *
 omega
theorem getD_lt {X : List Int} {v : Nat} (h : ∀ z ∈ X, z.natAbs < 256 ^ 60) (hv : v < X.length) : (X.getD v 0).natAbs < 256 ^ 60 := by
 rw [List.getD_eq_getElem?_getD, List.getElem?_eq_getElem hv]
 exact h _ (List.getElem_mem _)
section
variable {w : World} {N : NSta} {ca cb : Nat} {X Y : List Int} {ch0 ch1 : ByteArray} {v1 v2 v3 r0 r1 : Value}
theorem SndF.trm (h : SndF w N ca cb X Y ch0 ch1 v1 v2 v3 r0 r1) (k : Nat) (hkl : k < N.eqs.length) (t : NTrm) (ht : t ∈ N.eqs[k].trms) : t.coef.natAbs < 256 ^ 16 ∧ (X.getD t.var 0 - Y.getD t.var 0).natAbs < 256 ^ 61 ∧ (t.coef * (X.getD t.var 0 - Y.getD t.var 0)).natAbs < 256 ^ 128 := by
 obtain ⟨_, hv, h1⟩ := (h.m.e _ (List.getElem_mem hkl)).2.2.2 t ht
 have hd := sub_lt61 (getD_lt h.sx (by rw [h.lx]; exact hv)) (getD_lt h.sy (by rw [h.ly]; exact hv))
 refine ⟨h1, hd, ?_⟩
 rw [Int.natAbs_mul]
 exact Nat.lt_of_lt_of_le (Nat.mul_lt_mul'' h1 hd) (by rw [← Nat.pow_add]; exact Nat.pow_le_pow_right (by decide) (by decide))
def sBL (N : NSta) (k : Nat) (h : k < N.eqs.length) : List Nat := N.eqs[k].trms.map (·.base)
def sZL (N : NSta) (X Y : List Int) (k : Nat) (h : k < N.eqs.length) : List Int := N.eqs[k].trms.map fun t => t.coef * (X.getD t.var 0 - Y.getD t.var 0)
theorem SndF.prod (h : SndF w N ca cb X Y ch0 ch1 v1 v2 v3 r0 r1) (k : Nat) (hkl : k < N.eqs.length) (hqg : (N.eqs[k]).grp < N.grps.length) (W : World) (bl bz cl cz : Nat) (hcl : N.eqs[k].trms.length + 1 ≤ cl) (hcz : N.eqs[k].trms.length + 1 ≤ cz)
  (hL : NatsAt W bl (N.eqs[k].tgt :: sBL N k hkl)) (hZ : IntsAt W bz (((cb : Int) - (ca : Int)) :: sZL N X Y k hkl)) :
  Calls Tryz.prog 37 #[.agg #[.string (E N.grps[N.eqs[k].grp].1), .string (E N.grps[N.eqs[k].grp].2)], .slice (some ⟨bl, 0, none⟩) (N.eqs[k].trms.length + 1) cl, .slice (some ⟨bz, 0, none⟩) (N.eqs[k].trms.length + 1) cz] W fun e w' => e = .returned (.tuple #[.string { data := #[1] }, .int .i64 0]) ∧ Below W.heap.size W w' := by
 obtain ⟨e1, e2, e3⟩ := chk_elem h.c k hkl hqg
 have hpq := h.m.g _ (List.getElem_mem hqg)
 have hpr := h.eq k hkl
 rw [gp_at N _ hqg] at hpr
 have h12 := (h.m.e _ (List.getElem_mem hkl)).2.2.1
 have hh := product_g N.grps[N.eqs[k].grp].1 N.grps[N.eqs[k].grp].2 bl bz cl cz (N.eqs[k].trms.length + 1) (N.eqs[k].tgt :: sBL N k hkl) (((cb : Int) - (ca : Int)) :: sZL N X Y k hkl) W hpq.1 (Nat.lt_of_lt_of_le hpq.2 (Nat.pow_le_pow_right (by decide) (by decide))) e1
  (by rw [List.length_cons, sBL, List.length_map]) (by rw [List.length_cons, sZL, List.length_map]) (by omega) hcl hcz (fun x hx => by
   rcases List.mem_cons.1 hx with rfl | hx
   ·exact e2
   ·exact e3 x hx) (fun z hz => by
   rcases List.mem_cons.1 hz with rfl | hz
   ·have ha := h.a
    have hb := h.b
    have : (256 : Nat) ^ 100 ≤ 256 ^ 128 := Nat.pow_le_pow_right (by decide) (by decide)
    omega
   ·obtain ⟨t, ht, rfl⟩ := List.mem_map.1 hz
    exact (h.trm k hkl t ht).2.2) hL hZ
 rw [show pw (prs N.grps[N.eqs[k].grp].1 (N.eqs[k].tgt :: sBL N k hkl) (((cb : Int) - (ca : Int)) :: sZL N X Y k hkl)) 0 % N.grps[N.eqs[k].grp].1 = 1 from hpr] at hh
 exact hh
end

set_option maxHeartbeats 16000000 in
theorem snd_w (C K ch0 ch1 : ByteArray) (s1 s2 s3 sf0 sr0 sf1 sr1 : Option Addr) (m1 m2 m3 mf0 mr0 mf1 mr1 d1 d2 d3 df0 dr0 df1 dr1 : Nat) (w : World) (bf b0 b1 be : Bool)
  (HAW : Hid (∀ w, Calls Tryz.prog 12 #[] w fun e w' => e = .returned (.bool true) ∧ Below w.heap.size w w'))
  (HF : Hid (∀ w', Below w.heap.size w w' → Calls Tryz.prog 11 #[.agg #[.string C, .string K], .agg #[.slice s1 m1 d1, .slice s2 m2 d2, .slice s3 m3 d3]] w' fun e w'' => e = .returned (.bool bf) ∧ Below w'.heap.size w' w''))
  (HS0 : Hid (∀ w', Below w.heap.size w w' → Calls Tryz.prog 20 #[.slice sr0 mr0 dr0] w' fun e w'' => e = .returned (.bool b0) ∧ Below w'.heap.size w' w''))
  (HS1 : Hid (∀ w', Below w.heap.size w w' → Calls Tryz.prog 20 #[.slice sr1 mr1 dr1] w' fun e w'' => e = .returned (.bool b1) ∧ Below w'.heap.size w' w''))
  (HE : Hid (mf0 ≤ 10 → mf1 ≤ 10 → ∀ w', Below w.heap.size w w' → Calls Tryz.prog 15 #[.slice sf0 mf0 df0, .slice sf1 mf1 df1] w' fun e w'' => e = .returned (.bool be) ∧ Below w'.heap.size w' w''))
  (HV : Hid (bf = true → b0 = true → b1 = true → ch0.size ≤ 20 → ch1.size ≤ 20 → mf0 ≤ 10 → mf1 ≤ 10 → be = true → ∃ k0 k1 : Nat,
   (∀ w', Below w.heap.size w w' → Calls Tryz.prog 23 #[.agg #[.string C, .string K], .agg #[.slice s1 m1 d1, .slice s2 m2 d2, .slice s3 m3 d3], .agg #[.slice sf0 mf0 df0, .string ch0, .slice sr0 mr0 dr0]] w' fun e w'' => e = .returned (.int .i64 (k0 : Int)) ∧ Below w'.heap.size w' w'') ∧
   (∀ w', Below w.heap.size w w' → Calls Tryz.prog 23 #[.agg #[.string C, .string K], .agg #[.slice s1 m1 d1, .slice s2 m2 d2, .slice s3 m3 d3], .agg #[.slice sf1 mf1 df1, .string ch1, .slice sr1 mr1 dr1]] w' fun e w'' => e = .returned (.int .i64 (k1 : Int)) ∧ Below w'.heap.size w' w'') ∧
   (k0 = 0 → k1 = 0 → ∃ N ca cb X Y, SndF w N ca cb X Y ch0 ch1 (.slice s1 m1 d1) (.slice s2 m2 d2) (.slice s3 m3 d3) (.slice sr0 mr0 dr0) (.slice sr1 mr1 dr1)))) :
  Calls Tryz.prog 9 #[.agg #[.string C, .string K], .agg #[.slice s1 m1 d1, .slice s2 m2 d2, .slice s3 m3 d3], .agg #[.slice sf0 mf0 df0, .string ch0, .slice sr0 mr0 dr0, .slice sf1 mf1 df1, .string ch1, .slice sr1 mr1 dr1]] w fun e w' => e = .returned (.bool true) ∧ Below w.heap.size w w' := by
 obtain ⟨i0, hi0, hz00, hz01, hz02⟩ := info_parts info_nat
 obtain ⟨i1, hi1, hz10, hz11, hz12⟩ := info_parts info_Int
 have HI0 := Lib.hid hi0
 have HA0 := Lib.hid hz00
 have HB0 := Lib.hid hz01
 have HC0 := Lib.hid hz02
 have HI1 := Lib.hid hi1
 have HA1 := Lib.hid hz10
 have HB1 := Lib.hid hz11
 have HC1 := Lib.hid hz12
 clear hi0 hz00 hz01 hz02 hi1 hz10 hz11 hz12
 have hR := ((Blk.new w #[.string C, .string K] 24).alloc (.cells #[.slice s1 m1 d1, .slice s2 m2 d2, .slice s3 m3 d3] 29)).alloc (.cells #[.slice sf0 mf0 df0, .string ch0, .slice sr0 mr0 dr0, .slice sf1 mf1 df1, .string ch1, .slice sr1 mr1 dr1] 77)
 have hS := (Blk.new (w.alloc (.cells #[.string C, .string K] 24)) #[.slice s1 m1 d1, .slice s2 m2 d2, .slice s3 m3 d3] 29).alloc (.cells #[.slice sf0 mf0 df0, .string ch0, .slice sr0 mr0 dr0, .slice sf1 mf1 df1, .string ch1, .slice sr1 mr1 dr1] 77)
 have hL := Blk.new ((w.alloc (.cells #[.string C, .string K] 24)).alloc (.cells #[.slice s1 m1 d1, .slice s2 m2 d2, .slice s3 m3 d3] 29)) #[.slice sf0 mf0 df0, .string ch0, .slice sr0 mr0 dr0, .slice sf1 mf1 df1, .string ch1, .slice sr1 mr1 dr1] 77
 have hBW := b3 w (.cells #[.string C, .string K] 24) (.cells #[.slice s1 m1 d1, .slice s2 m2 d2, .slice s3 m3 d3] 29) (.cells #[.slice sf0 mf0 df0, .string ch0, .slice sr0 mr0 dr0, .slice sf1 mf1 df1, .string ch1, .slice sr1 mr1 dr1] 77)
 simp only [World.size_alloc] at hS hL
 go_enter Tryz.func9, Tryz.ntmps9
 go_upto_region 1 with fail
 generalize ((w.alloc (.cells #[.string C, .string K] 24)).alloc (.cells #[.slice s1 m1 d1, .slice s2 m2 d2, .slice s3 m3 d3] 29)).alloc (.cells #[.slice sf0 mf0 df0, .string ch0, .slice sr0 mr0 dr0, .slice sf1 mf1 df1, .string ch1, .slice sr1 mr1 dr1] 77) = w1 at hR hS hL hBW ⊢
 obtain ⟨gL, hgL⟩ : ∃ g, w.heap.size + 1 + 1 = g := ⟨_, rfl⟩
 obtain ⟨gS, hgS⟩ : ∃ g, w.heap.size + 1 = g := ⟨_, rfl⟩
 obtain ⟨gR, hgR⟩ : ∃ g, w.heap.size = g := ⟨_, rfl⟩
 rw [hgL] at hL ⊢
 rw [hgS] at hS ⊢
 rw [hgR] at hR ⊢
 clear hgL hgS hgR
 replace hR : Blk w1 gR 24 [.string C, .string K] := hR
 replace hS : Blk w1 gS 29 [.slice s1 m1 d1, .slice s2 m2 d2, .slice s3 m3 d3] := hS
 replace hL : Blk w1 gL 77 [.slice sf0 mf0 df0, .string ch0, .slice sr0 mr0 dr0, .slice sf1 mf1 df1, .string ch1, .slice sr1 mr1 dr1] := hL
 have hRl := hR.lt
 obtain ⟨hRc0, hRf0, hRc1, hRf1⟩ := hR.x2
 obtain ⟨hSc0, hSf0, hSc1, hSf1, hSc2, hSf2⟩ := hS.x3
 go_wp2_with fail
 refine (HF.out _ hBW).mono ?_
 rintro e w2 ⟨rfl, hb2⟩
 clear hRc0 hRf0 hRc1 hRf1
 clear hSc0 hSf0 hSc1 hSf1 hSc2 hSf2
 replace hR := hR.after hb2
 replace hS := hS.after hb2
 replace hL := hL.after hb2
 replace hBW := bt hBW hb2
 clear hb2 hRl
 cases hbf : bf
 ·clear hR hS hL
  subst hbf
  go_wp2_with fail
  refine (HAW.out _).mono ?_
  rintro e w3 ⟨rfl, hb3⟩
  go_wp2
  go_ret
  exact ⟨rfl, bt hBW hb3⟩
 subst hbf
 have hq0 : gL < w2.heap.size := hL.lt
 have q0 : w2.cell? ⟨gL, 0, none⟩ = some (.slice sf0 mf0 df0) := hL.cell 0
 have q1 : w2.cell? ⟨gL, 1, none⟩ = some (.string ch0) := hL.cell 1
 have q2 : w2.cell? ⟨gL, 2, none⟩ = some (.slice sr0 mr0 dr0) := hL.cell 2
 have q3 : w2.cell? ⟨gL, 3, none⟩ = some (.slice sf1 mf1 df1) := hL.cell 3
 have q4 : w2.cell? ⟨gL, 4, none⟩ = some (.string ch1) := hL.cell 4
 have q5 : w2.cell? ⟨gL, 5, none⟩ = some (.slice sr1 mr1 dr1) := hL.cell 5
 go_wp2
 clear q0 q1 q2 q3 q4 q5 hq0
 go_loopw [28] (fun i wr => ∃ k : Nat, k ≤ 2 ∧ i = .int .i64 k ∧ Hid (0 < k → b0 = true ∧ ch0.size ≤ 20 ∧ mf0 ≤ 10) ∧ Hid (1 < k → b1 = true ∧ ch1.size ≤ 20 ∧ mf1 ≤ 10) ∧ Below w2.heap.size w2 wr) (fun i _ => 2 - (intOf i).toNat)
 case atStart => exact ⟨0, by omega, rfl, fun h => absurd h (Nat.lt_irrefl 0), fun h => absurd h (by omega), Below.refl _ _⟩
 case round =>
  obtain ⟨k, hk, rfl, HK0, HK1, hbr⟩ := hrel
  obtain ⟨wp, hwp⟩ : ∃ wp, wp = wr := ⟨_, rfl⟩
  subst hwp
  have hBWr := bt hBW hbr
  by_cases hlt : k < 2
  ·rcases (by omega : k = 0 ∨ k = 1) with rfl | rfl
   ·have hP := Blk.new wp #[.slice sf0 mf0 df0, .string ch0, .slice sr0 mr0 dr0] 52
    have hB2 := ba hbr (.cells #[.slice sf0 mf0 df0, .string ch0, .slice sr0 mr0 dr0] 52)
    have hBW2 := ba hBWr (.cells #[.slice sf0 mf0 df0, .string ch0, .slice sr0 mr0 dr0] 52)
    clear hR hS hL hbr hBWr HE HV
    have hix : ∀ W, (Instr.index 77 (.agg #[.slice sf0 mf0 df0, .string ch0, .slice sr0 mr0 dr0, .slice sf1 mf1 df1, .string ch1, .slice sr1 mr1 dr1]) (.int .i64 0)).run Tryz.prog W = .ok (.agg #[.slice sf0 mf0 df0, .string ch0, .slice sr0 mr0 dr0]) W := fun W => ix0 _ _ _ _ _ _ W
    go_upto_region 6 with fail
    generalize wp.alloc (.cells #[.slice sf0 mf0 df0, .string ch0, .slice sr0 mr0 dr0] 52) = w3 at hP hB2 hBW2 ⊢
    obtain ⟨g8, hg8⟩ : ∃ g, wp.heap.size = g := ⟨_, rfl⟩
    rw [hg8] at hP ⊢
    clear hg8
    replace hP : Blk w3 g8 52 [.slice sf0 mf0 df0, .string ch0, .slice sr0 mr0 dr0] := hP
    have hPl := hP.lt
    obtain ⟨hPc0, hPf0, hPc1, hPf1, hPc2, hPf2⟩ := hP.x3
    go_wp2_with fail
    refine (HS0.out _ hBW2).mono ?_
    rintro e w4 ⟨rfl, hb4⟩
    clear hPc0 hPf0 hPc1 hPf1 hPc2 hPf2
    replace hP := hP.after hb4
    replace hB2 := bt hB2 hb4
    replace hBW2 := bt hBW2 hb4
    clear hb4 hPl
    have hPl := hP.lt
    cases hbx : b0
    ·subst hbx
     obtain ⟨hPc0, hPf0, hPc1, hPf1, hPc2, hPf2⟩ := hP.x3
     go_wp2_with fail
     refine (HAW.out _).mono ?_
     rintro e w5 ⟨rfl, hb5⟩
     go_wp2
     go_ret
     exact ⟨rfl, bt hBW2 hb5⟩
    by_cases hz : ch0.size ≤ 20
    rotate_left
    ·have hd : decide ((20 : Int) < (ch0.size : Int)) = true := decide_eq_true (by omega)
     subst hbx
     obtain ⟨hPc0, hPf0, hPc1, hPf1, hPc2, hPf2⟩ := hP.x3
     go_wp2_with fail
     refine (HAW.out _).mono ?_
     rintro e w5 ⟨rfl, hb5⟩
     go_wp2
     go_ret
     exact ⟨rfl, bt hBW2 hb5⟩
    have hd : decide ((20 : Int) < (ch0.size : Int)) = false := decide_eq_false (by omega)
    by_cases hn : mf0 ≤ 10
    rotate_left
    ·have hd2 : decide ((10 : Int) < (mf0 : Int)) = true := decide_eq_true (by omega)
     subst hbx
     obtain ⟨hPc0, hPf0, hPc1, hPf1, hPc2, hPf2⟩ := hP.x3
     go_wp2_with fail
     refine (HAW.out _).mono ?_
     rintro e w5 ⟨rfl, hb5⟩
     go_wp2
     go_ret
     exact ⟨rfl, bt hBW2 hb5⟩
    have hd2 : decide ((10 : Int) < (mf0 : Int)) = false := decide_eq_false (by omega)
    have HOK : Hid (true = true ∧ ch0.size ≤ 20 ∧ mf0 ≤ 10) := ⟨rfl, hz, hn⟩
    clear hz hn
    subst hbx
    obtain ⟨hPc0, hPf0, hPc1, hPf1, hPc2, hPf2⟩ := hP.x3
    go_wp2
    go_roundw
    case rel => exact ⟨1, by omega, rfl, fun _ => HOK.out, fun h => absurd h (by omega), hB2⟩
    case measure => simp [intOf]
   ·have hP := Blk.new wp #[.slice sf1 mf1 df1, .string ch1, .slice sr1 mr1 dr1] 52
    have hB2 := ba hbr (.cells #[.slice sf1 mf1 df1, .string ch1, .slice sr1 mr1 dr1] 52)
    have hBW2 := ba hBWr (.cells #[.slice sf1 mf1 df1, .string ch1, .slice sr1 mr1 dr1] 52)
    clear hR hS hL hbr hBWr HE HV
    have hix : ∀ W, (Instr.index 77 (.agg #[.slice sf0 mf0 df0, .string ch0, .slice sr0 mr0 dr0, .slice sf1 mf1 df1, .string ch1, .slice sr1 mr1 dr1]) (.int .i64 1)).run Tryz.prog W = .ok (.agg #[.slice sf1 mf1 df1, .string ch1, .slice sr1 mr1 dr1]) W := fun W => ix1 _ _ _ _ _ _ W
    go_upto_region 6 with fail
    generalize wp.alloc (.cells #[.slice sf1 mf1 df1, .string ch1, .slice sr1 mr1 dr1] 52) = w3 at hP hB2 hBW2 ⊢
    obtain ⟨g8, hg8⟩ : ∃ g, wp.heap.size = g := ⟨_, rfl⟩
    rw [hg8] at hP ⊢
    clear hg8
    replace hP : Blk w3 g8 52 [.slice sf1 mf1 df1, .string ch1, .slice sr1 mr1 dr1] := hP
    have hPl := hP.lt
    obtain ⟨hPc0, hPf0, hPc1, hPf1, hPc2, hPf2⟩ := hP.x3
    go_wp2_with fail
    refine (HS1.out _ hBW2).mono ?_
    rintro e w4 ⟨rfl, hb4⟩
    clear hPc0 hPf0 hPc1 hPf1 hPc2 hPf2
    replace hP := hP.after hb4
    replace hB2 := bt hB2 hb4
    replace hBW2 := bt hBW2 hb4
    clear hb4 hPl
    have hPl := hP.lt
    cases hbx : b1
    ·subst hbx
     obtain ⟨hPc0, hPf0, hPc1, hPf1, hPc2, hPf2⟩ := hP.x3
     go_wp2_with fail
     refine (HAW.out _).mono ?_
     rintro e w5 ⟨rfl, hb5⟩
     go_wp2
     go_ret
     exact ⟨rfl, bt hBW2 hb5⟩
    by_cases hz : ch1.size ≤ 20
    rotate_left
    ·have hd : decide ((20 : Int) < (ch1.size : Int)) = true := decide_eq_true (by omega)
     subst hbx
     obtain ⟨hPc0, hPf0, hPc1, hPf1, hPc2, hPf2⟩ := hP.x3
     go_wp2_with fail
     refine (HAW.out _).mono ?_
     rintro e w5 ⟨rfl, hb5⟩
     go_wp2
     go_ret
     exact ⟨rfl, bt hBW2 hb5⟩
    have hd : decide ((20 : Int) < (ch1.size : Int)) = false := decide_eq_false (by omega)
    by_cases hn : mf1 ≤ 10
    rotate_left
    ·have hd2 : decide ((10 : Int) < (mf1 : Int)) = true := decide_eq_true (by omega)
     subst hbx
     obtain ⟨hPc0, hPf0, hPc1, hPf1, hPc2, hPf2⟩ := hP.x3
     go_wp2_with fail
     refine (HAW.out _).mono ?_
     rintro e w5 ⟨rfl, hb5⟩
     go_wp2
     go_ret
     exact ⟨rfl, bt hBW2 hb5⟩
    have hd2 : decide ((10 : Int) < (mf1 : Int)) = false := decide_eq_false (by omega)
    have HOK : Hid (true = true ∧ ch1.size ≤ 20 ∧ mf1 ≤ 10) := ⟨rfl, hz, hn⟩
    clear hz hn
    subst hbx
    obtain ⟨hPc0, hPf0, hPc1, hPf1, hPc2, hPf2⟩ := hP.x3
    go_wp2
    go_roundw
    case rel => exact ⟨2, by omega, rfl, fun _ => HK0.out (by omega), fun _ => HOK.out, hB2⟩
    case measure => simp [intOf]
  ·obtain rfl : k = 2 := by omega
   obtain ⟨hb0, hz0, hn0⟩ := HK0.out (by omega)
   obtain ⟨hb1, hz1, hn1⟩ := HK1.out (by omega)
   clear HK0 HK1 hlt hk
   replace hR := hR.after hbr
   replace hS := hS.after hbr
   replace hL := hL.after hbr
   clear hBW hbr
   have q0 : wp.cell? ⟨gL, 0, none⟩ = some (.slice sf0 mf0 df0) := hL.cell 0
   have q1 : wp.cell? ⟨gL, 1, none⟩ = some (.string ch0) := hL.cell 1
   have q2 : wp.cell? ⟨gL, 2, none⟩ = some (.slice sr0 mr0 dr0) := hL.cell 2
   have q3 : wp.cell? ⟨gL, 3, none⟩ = some (.slice sf1 mf1 df1) := hL.cell 3
   have q4 : wp.cell? ⟨gL, 4, none⟩ = some (.string ch1) := hL.cell 4
   have q5 : wp.cell? ⟨gL, 5, none⟩ = some (.slice sr1 mr1 dr1) := hL.cell 5
   have hLl := hL.lt
   go_upto_region 9 with fail
   go_cut [9, 10] (fun s9 s10 wx => (∃ g9 g10, s9 = .pointer (some ⟨g9, 0, none⟩) ∧ s10 = .pointer (some ⟨g10, 0, none⟩) ∧ Blk wx g9 52 [.slice sf0 mf0 df0, .string ch0, .slice sr0 mr0 dr0] ∧ Blk wx g10 52 [.slice sf1 mf1 df1, .string ch1, .slice sr1 mr1 dr1]) ∧ Below wp.heap.size wp wx)
   case first =>
    clear hR hS hL HE HV HAW HF HS0 HS1
    go_region
    all_goals
     go_wp2_with fail
     go_meet
     refine ⟨⟨_, _, rfl, rfl, ?_, ?_⟩, ?_⟩
     ·repeat (first | ((with_reducible refine blkR ?_ ?_) <;> (first | (with_reducible rfl) | (focus (simp; done)) | rfl | fail)) | (with_reducible refine Blk.alloc ?_ _) | (with_reducible refine Blk.drew ?_) | fail)
     ·repeat (first | ((with_reducible refine blkR ?_ ?_) <;> (first | (with_reducible rfl) | (focus (simp; done)) | rfl | fail)) | (with_reducible refine Blk.alloc ?_ _) | (with_reducible refine Blk.drew ?_) | fail)
     ·repeat (first | (with_reducible exact Below.refl _ _) | (with_reducible refine ba ?_ _) | (with_reducible refine Below.drew ?_) | fail)
   case rest =>
   obtain ⟨⟨g9, g10, rfl, rfl, hA, hB⟩, hbx⟩ := hcut
   obtain ⟨w3, hw3⟩ : ∃ wx, wx = wc := ⟨_, rfl⟩
   subst hw3
   replace hR := hR.after hbx
   replace hS := hS.after hbx
   have hBW3 := bt hBWr hbx
   clear hBWr hbx hL q0 q1 q2 q3 q4 q5 hLl
   have hAl := hA.lt
   have hBl := hB.lt
   have hRl := hR.lt
   have hSl := hS.lt
   obtain ⟨hAc0, hAf0, hAc1, hAf1, hAc2, hAf2⟩ := hA.x3
   obtain ⟨hBc0, hBf0, hBc1, hBf1, hBc2, hBf2⟩ := hB.x3
   go_wp2_with fail
   refine (HE.out hn0 hn1 _ hBW3).mono ?_
   rintro e w4 ⟨rfl, hb4⟩
   clear hAc0 hAf0 hAc1 hAf1 hAc2 hAf2
   clear hBc0 hBf0 hBc1 hBf1 hBc2 hBf2
   replace hR := hR.after hb4
   replace hS := hS.after hb4
   replace hA := hA.after hb4
   replace hB := hB.after hb4
   have hBW4 := bt hBW3 hb4
   clear hBW3 hb4 hAl hBl hRl hSl
   cases hbe : be
   ·subst hbe
    go_wp2_with fail
    refine (HAW.out _).mono ?_
    rintro e w5 ⟨rfl, hb5⟩
    go_wp2
    go_ret
    exact ⟨rfl, bt hBW4 hb5⟩
   obtain ⟨k0, k1, hv0, hv1, hmain⟩ := HV.out (by first | rfl | trivial) hb0 hb1 hz0 hz1 hn0 hn1 hbe
   have HV0 := Lib.hid hv0
   have HV1 := Lib.hid hv1
   have HM := Lib.hid hmain
   clear hv0 hv1 hmain HV HE HS0 HS1 HF hb0 hb1 hz0 hz1 hn0 hn1
   subst hbe
   have hAl := hA.lt
   have hBl := hB.lt
   have hRl := hR.lt
   have hSl := hS.lt
   obtain ⟨hRc0, hRf0, hRc1, hRf1⟩ := hR.x2
   obtain ⟨hSc0, hSf0, hSc1, hSf1, hSc2, hSf2⟩ := hS.x3
   obtain ⟨hAc0, hAf0, hAc1, hAf1, hAc2, hAf2⟩ := hA.x3
   go_wp2_with fail
   refine (HV0.out _ hBW4).mono ?_
   rintro e w5 ⟨rfl, hb5⟩
   clear hRc0 hRf0 hRc1 hRf1
   clear hSc0 hSf0 hSc1 hSf1 hSc2 hSf2
   clear hAc0 hAf0 hAc1 hAf1 hAc2 hAf2
   replace hR := hR.after hb5
   replace hS := hS.after hb5
   replace hA := hA.after hb5
   replace hB := hB.after hb5
   have hBW5 := bt hBW4 hb5
   clear hBW4 hb5 hAl hBl hRl hSl
   by_cases h0 : k0 = 0
   rotate_left
   ·have hd : ((k0 : Int) != 0) = true := by rw [bne_iff_ne]; omega
    go_wp2_with fail
    refine (HAW.out _).mono ?_
    rintro e w6 ⟨rfl, hb6⟩
    go_wp2
    go_ret
    exact ⟨rfl, bt hBW5 hb6⟩
   subst h0
   have hAl := hA.lt
   have hBl := hB.lt
   have hRl := hR.lt
   have hSl := hS.lt
   obtain ⟨hRc0, hRf0, hRc1, hRf1⟩ := hR.x2
   obtain ⟨hSc0, hSf0, hSc1, hSf1, hSc2, hSf2⟩ := hS.x3
   obtain ⟨hBc0, hBf0, hBc1, hBf1, hBc2, hBf2⟩ := hB.x3
   go_wp2_with fail
   refine (HV1.out _ hBW5).mono ?_
   rintro e w6 ⟨rfl, hb6⟩
   clear hRc0 hRf0 hRc1 hRf1
   clear hSc0 hSf0 hSc1 hSf1 hSc2 hSf2
   clear hBc0 hBf0 hBc1 hBf1 hBc2 hBf2
   replace hS := hS.after hb6
   replace hA := hA.after hb6
   replace hB := hB.after hb6
   have hBW6 := bt hBW5 hb6
   clear hBW5 hb6 hAl hBl hRl hSl hR
   by_cases h0 : k1 = 0
   rotate_left
   ·have hd : ((k1 : Int) != 0) = true := by rw [bne_iff_ne]; omega
    go_wp2_with fail
    refine (HAW.out _).mono ?_
    rintro e w7 ⟨rfl, hb7⟩
    go_wp2
    go_ret
    exact ⟨rfl, bt hBW6 hb7⟩
   subst h0
   obtain ⟨N, ca, cb, X, Y, hF⟩ := HM.out (by first | rfl | trivial) (by first | rfl | trivial)
   have HFF := Lib.hid hF
   have HN1 : Hid (m1 = N.grps.length) := by obtain ⟨_, _, h⟩ := RAt.form hF.st.g; injection h with _ h; rw [Hid, h]; simp [NSta.s]
   have HN2 : Hid (m2 = N.vars.length) := by obtain ⟨_, _, h⟩ := RAt.form hF.st.v; injection h with _ h; rw [Hid, h]; simp [NSta.s]
   have HN3 : Hid (m3 = N.eqs.length) := by obtain ⟨_, _, h⟩ := RAt.form hF.st.e; injection h with _ h; rw [Hid, h]; simp [NSta.s]
   have hr0 : mr0 = m2 := by
    obtain ⟨a, c, h⟩ := ZsAt.form hF.x
    injection h with _ h2
    rw [h2, hF.lx, HN2.out]
   have hr1 : mr1 = m2 := by
    obtain ⟨a, c, h⟩ := ZsAt.form hF.y
    injection h with _ h2
    rw [h2, hF.ly, HN2.out]
   have l1 : m1 ≤ 10 := by rw [HN1.out]; exact hF.m.ng
   have l2 : m2 ≤ 12 := by rw [HN2.out]; exact hF.m.nv
   have l3 : m3 ≤ 12 := by rw [HN3.out]; exact hF.m.ne
   have HCK := Lib.hid (fun W (hb : Below w.heap.size w W) => rCheck_c N _ _ _ W hF.m (hF.st.after hb))
   rw [hF.c] at HCK
   have he0 := hF.e0
   have he1 := hF.e1
   subst hr0 hr1 he0 he1
   have HLS : Hid (∀ w, Calls Tryz.prog 34 #[.agg #[.bool false, .string (E cb)], .agg #[.bool false, .string (E ca)]] w fun e w' => e = .returned (.agg #[.bool (sg (((cb : Int) - (ca : Int)))), .string (E (((cb : Int) - (ca : Int))).natAbs)]) ∧ Below w.heap.size w w') := fun w => by
    have h := sless_c (cb : Int) (ca : Int) w (by rw [Int.natAbs_natCast]; exact Nat.lt_of_lt_of_le hF.b (Nat.pow_le_pow_right (by decide) (by decide))) (by rw [Int.natAbs_natCast]; exact Nat.lt_of_lt_of_le hF.a (Nat.pow_le_pow_right (by decide) (by decide)))
    rw [sg_nat, sg_nat, Int.natAbs_natCast, Int.natAbs_natCast] at h
    exact h
   have hne : ((mr1 : Int) != (mr1 : Int)) = false := by simp
   clear HM HV0 HV1 hF
   have hAl := hA.lt
   have hBl := hB.lt
   have hSl := hS.lt
   obtain ⟨hSc0, hSf0, hSc1, hSf1, hSc2, hSf2⟩ := hS.x3
   go_wp2_with fail
   refine (HCK.out _ hBW6).mono ?_
   rintro e w7 ⟨rfl, hb7⟩
   clear hSc0 hSf0 hSc1 hSf1 hSc2 hSf2
   replace hS := hS.after hb7
   replace hA := hA.after hb7
   replace hB := hB.after hb7
   have hBW7 := bt hBW6 hb7
   clear hBW6 hb7 hAl hBl hSl HCK
   have hAl := hA.lt
   have hBl := hB.lt
   have hSl := hS.lt
   obtain ⟨hSc0, hSf0, hSc1, hSf1, hSc2, hSf2⟩ := hS.x3
   obtain ⟨hAc0, hAf0, hAc1, hAf1, hAc2, hAf2⟩ := hA.x3
   obtain ⟨hBc0, hBf0, hBc1, hBf1, hBc2, hBf2⟩ := hB.x3
   go_wp2
   clear hSc0 hSf0 hSc1 hSf1 hSc2 hSf2
   clear hAc0 hAf0 hAc1 hAf1 hAc2 hAf2
   clear hBc0 hBf0 hBc1 hBf1 hBc2 hBf2
   clear hAl hBl hSl hne
   go_loopw [98] (fun i wr => ∃ k : Nat, k ≤ m3 ∧ i = .int .i64 k ∧ Below w7.heap.size w7 wr) (fun i _ => m3 - (intOf i).toNat)
   case atStart => exact ⟨0, by omega, rfl, Below.refl _ _⟩
   case round =>
    obtain ⟨k, hk, rfl, hbr⟩ := hrel
    obtain ⟨wp, hwp⟩ : ∃ wp, wp = wr := ⟨_, rfl⟩
    subst hwp
    have hBWp := bt hBW7 hbr
    by_cases hlt : k < m3
    rotate_left
    ·clear hA hB hS hBW7
     go_wp2_with fail
     refine (HAW.out _).mono ?_
     rintro e w8 ⟨rfl, hb8⟩
     go_wp2
     go_ret
     exact ⟨rfl, bt hBWp hb8⟩
    have hkl : k < N.eqs.length := by rw [← HN3.out]; exact hlt
    have hS1 := HFF.out.st.after hBWp
    have hqg := (HFF.out.m.e _ (List.getElem_mem hkl)).1
    have hqe := HFF.out.m.e _ (List.getElem_mem hkl)
    obtain ⟨b, o, tv, rfl, hbl, x1, x2, x3, hTs⟩ := NAt.eat hS1 hkl
    obtain ⟨bg, og, rfl, hbg, y1, y2⟩ := NAt.gat hS1 hqg
    obtain ⟨to_, tc, rfl⟩ := hTs.form
    have HPR := Lib.hid (fun W bl bz cl cz => HFF.out.prod k hkl hqg W bl bz cl cz)
    have HTR := Lib.hid (fun t ht => HFF.out.trm k hkl t ht)
    have HTV : Hid (∀ t ∈ (N.eqs[k]'hkl).trms, t.var < mr1) := fun t ht => by rw [HN2.out]; exact (hqe.2.2.2 t ht).2.1
    have hn12 := hqe.2.2.1
    have HZT : Hid (∀ j (hj : j < (N.eqs[k]'hkl).trms.length), (sZL N X Y k hkl)[j]? = some ((N.eqs[k]'hkl).trms[j].coef * (X.getD (N.eqs[k]'hkl).trms[j].var 0 - Y.getD (N.eqs[k]'hkl).trms[j].var 0))) := fun j hj => by rw [sZL, List.getElem?_map, List.getElem?_eq_getElem hj]; rfl
    have HBT : Hid (∀ j (hj : j < (N.eqs[k]'hkl).trms.length), (sBL N k hkl)[j]? = some (N.eqs[k]'hkl).trms[j].base) := fun j hj => by rw [sBL, List.getElem?_map, List.getElem?_eq_getElem hj]; rfl
    have HBN : Hid ((sBL N k hkl).length = (N.eqs[k]'hkl).trms.length) := by rw [Hid, sBL, List.length_map]
    have HZN : Hid ((sZL N X Y k hkl).length = (N.eqs[k]'hkl).trms.length) := by rw [Hid, sZL, List.length_map]
    generalize sBL N k hkl = BL at HPR HBT HBN
    generalize sZL N X Y k hkl = ZL at HPR HZT HZN
    have h0g : (0 : Int) ≤ (((N.eqs[k]'hkl).grp : Nat) : Int) := by omega
    have h1g : (((N.eqs[k]'hkl).grp : Nat) : Int) < (m1 : Int) := by have := HN1.out; omega
    clear hS1 hqe
    generalize (N.grps[(N.eqs[k]'hkl).grp]'hqg).1 = gp1 at y1 HPR
    generalize (N.grps[(N.eqs[k]'hkl).grp]'hqg).2 = gp2 at y2 HPR
    clear hqg
    generalize (N.eqs[k]'hkl).grp = qg at x1 y1 y2 h0g h1g
    generalize (N.eqs[k]'hkl).tgt = qt at x2 HPR
    generalize (N.eqs[k]'hkl).trms = T at x3 hTs HPR HTR HTV hn12 HZT HBT HBN HZN
    clear hkl
    have HTL : Hid (T.length = T.length) := rfl
    obtain ⟨n4, hn4⟩ : ∃ n, n = T.length := ⟨_, rfl⟩
    have HN4 := Lib.hid hn4
    rw [← hn4] at x3 hTs HPR hn12 HBN HZN
    clear hn4
    have h0k : (0 : Int) ≤ (k : Int) := by omega
    have h1k : (k : Int) < (m3 : Int) := by omega
    -- the equation's box
    have hQ := Blk.new wp #[.int .i64 (qg : Int), .string (E qt), .slice to_ n4 tc] 84
    have hbq := b1' wp (.cells #[.int .i64 (qg : Int), .string (E qt), .slice to_ n4 tc] 84)
    go_upto_region 18 with fail
    have hAq := (hA.after hbr).after hbq
    have hBq := (hB.after hbr).after hbq
    have hSq := (hS.after hbr).after hbq
    have hTq := hTs.after hbq
    have hBWq := bt hBWp hbq
    have hbrq := bt hbr hbq
    have yy1 := (hbq.cell (p := ⟨bg, og + qg * 2, none⟩) hbg).trans y1
    have yy2 := (hbq.cell (p := ⟨bg, og + qg * 2 + 1, none⟩) hbg).trans y2
    have hbgq := Nat.lt_of_lt_of_le hbg hbq.size
    generalize wp.alloc (.cells #[.int .i64 (qg : Int), .string (E qt), .slice to_ n4 tc] 84) = wq at hQ hAq hBq hSq hTq hBWq hbrq yy1 yy2 hbgq ⊢
    obtain ⟨gq, hgq⟩ : ∃ g, wp.heap.size = g := ⟨_, rfl⟩
    rw [hgq] at hQ ⊢
    clear hgq x1 x2 x3 y1 y2 hbl hbg hTs hbq hBWp hbr hA hB hS hBW7
    replace hQ : Blk wq gq 84 [.int .i64 (qg : Int), .string (E qt), .slice to_ n4 tc] := hQ
    have hQl := hQ.lt
    obtain ⟨hQc0, hQf0, hQc1, hQf1, hQc2, hQf2⟩ := hQ.x3
    go_upto_region 19 with fail
    clear hQc0 hQf0 hQc1 hQf1 hQc2 hQf2
    clear hQl
    have hD := Blk.new wq #[.string (E qt)] 22
    have hb1q := b1' wq (.cells #[.string (E qt)] 22)
    have hAr := hAq.after hb1q
    have hBr := hBq.after hb1q
    generalize wq.alloc (.cells #[.string (E qt)] 22) = wr1 at hD hb1q hAr hBr ⊢
    have hAl := hAr.lt
    have hBl := hBr.lt
    obtain ⟨hArc0, hArf0, hArc1, hArf1, hArc2, hArf2⟩ := hAr.x3
    obtain ⟨hBrc0, hBrf0, hBrc1, hBrf1, hBrc2, hBrf2⟩ := hBr.x3
    go_wp2_with fail
    refine (HLS.out _).mono ?_
    rintro e wr2 ⟨rfl, hb2⟩
    clear hArc0 hArf0 hArc1 hArf1 hArc2 hArf2
    clear hBrc0 hBrf0 hBrc1 hBrf1 hBrc2 hBrf2
    have hQ0 := hQ
    have hS0 := hSq
    have hAe0 := hAq
    have hBe0 := hBq
    have hTe0 := hTq
    have hBWq0 := hBWq
    have hDr := hD.after hb2
    have hAr2 := hAr.after hb2
    have hBr2 := hBr.after hb2
    obtain ⟨dz, hdz⟩ : ∃ d : Int, d = (cb : Int) - (ca : Int) := ⟨_, rfl⟩
    rw [← hdz] at HPR ⊢
    clear hdz hAl hBl hAr hBr hD
    have hE := Blk.new wr2 #[.bool (sg dz), .string (E dz.natAbs)] 72
    have hb3 := b1' wr2 (.cells #[.bool (sg dz), .string (E dz.natAbs)] 72)
    have hb4 := bt hb1q (bt hb2 hb3)
    have hDe := hDr.after hb3
    have hAe := hAr2.after hb3
    have hBe := hBr2.after hb3
    have hQe := hQ.after hb4
    have hSe := hSq.after hb4
    have hTe := hTq.after hb4
    have hBWe := bt hBWq hb4
    have hg2 : wq.heap.size ≤ wr2.heap.size := by have := hb1q.size; have := hb2.size; omega
    go_upto_region 20 with fail
    generalize wr2.alloc (.cells #[.bool (sg dz), .string (E dz.natAbs)] 72) = wl at hE hb3 hb4 hDe hAe hBe hQe hSe hTe hBWe ⊢
    have hIR : IRel wq 1 (qt :: BL.take 0) (dz :: ZL.take 0) (.slice (some ⟨wq.heap.size, 0, none⟩) 1 1) (.slice (some ⟨wr2.heap.size, 0, none⟩) 1 1) wl :=
     ⟨own_blkB (T := 22) (size := 1) (n := 1) hDe (Nat.le_refl _) rfl (by decide), own_blkB (T := 72) (size := 2) (n := 1) hE hg2 rfl (by decide), rfl, rfl, fun h => by omega, fun h => by omega, hb4⟩
    have hQl := hQe.lt
    obtain ⟨hQec0, hQef0, hQec1, hQef1, hQec2, hQef2⟩ := hQe.x3
    clear hb1q hb2 hb3 hDr hAr2 hBr2 hQ hSq hTq hAq hBq hBWq hE hDe hg2
    go_wp2
    clear hQec0 hQef0 hQec1 hQef1 hQec2 hQef2
    clear hQl
    go_loopw [14, 15, 117] (fun v14 v15 i wr => ∃ j : Nat, j ≤ n4 ∧ i = .int .i64 j ∧ IRel wq (j + 1) (qt :: BL.take j) (dz :: ZL.take j) v14 v15 wr) (fun _ _ i _ => n4 - (intOf i).toNat)
    case atStart => exact ⟨0, by omega, rfl, hIR⟩
    case round =>
     clear hIR
     obtain ⟨j, hj, rfl, hI⟩ := hrel
     obtain ⟨wi, hwi⟩ : ∃ wp, wp = wr := ⟨_, rfl⟩
     subst hwi
     have hBWi := bt hBWq0 hI.b
     have hAi := hAe0.after hI.b
     have hBi := hBe0.after hI.b
     have hTi := hTe0.after hI.b
     have hXi := HFF.out.x.after hBWi
     have hYi := HFF.out.y.after hBWi
     by_cases hlj : j < n4
     ·have hjl : j < T.length := by rw [← HN4.out]; exact hlj
      have HTK := Lib.hid (HTR.out _ (List.getElem_mem hjl))
      have htv := HTV.out _ (List.getElem_mem hjl)
      have hzt := HZT.out j hjl
      have hbt2 := HBT.out j hjl
      obtain ⟨bt_, ot, rfl, hbl, x1, x2, x3, x4⟩ := hTi.at_ hjl
      generalize (T[j]'hjl) = t at x1 x2 x3 x4 HTK htv hzt hbt2
      obtain ⟨tb, tvv, tz⟩ := t
      simp only [] at x1 x2 x3 x4 htv hzt hbt2
      have hvx : tvv < X.length := by rw [HFF.out.lx, ← HN2.out]; exact htv
      have hvy : tvv < Y.length := by rw [HFF.out.ly, ← HN2.out]; exact htv
      obtain ⟨bx, ox, rfl, hblx, p1, p2⟩ := hXi.at_ hvx
      obtain ⟨by_, oy, rfl, hbly, q1, q2⟩ := hYi.at_ hvy
      have HLX : Hid ((X[tvv]'hvx).natAbs < 256 ^ 127 ∧ (Y[tvv]'hvy).natAbs < 256 ^ 127) := ⟨Nat.lt_of_lt_of_le (HFF.out.sx _ (List.getElem_mem hvx)) (Nat.pow_le_pow_right (by decide) (by decide)), Nat.lt_of_lt_of_le (HFF.out.sy _ (List.getElem_mem hvy)) (Nat.pow_le_pow_right (by decide) (by decide))⟩
      have HTM : Hid (tz.natAbs < 256 ^ 16 ∧ ((X[tvv]'hvx) - (Y[tvv]'hvy)).natAbs < 256 ^ 61 ∧ (tz * ((X[tvv]'hvx) - (Y[tvv]'hvy))).natAbs < 256 ^ 128) := by
       have h := HTK.out
       simp only [List.getD_eq_getElem?_getD, List.getElem?_eq_getElem hvx, List.getElem?_eq_getElem hvy, Option.getD_some] at h
       exact h
      simp only [List.getD_eq_getElem?_getD, List.getElem?_eq_getElem hvx, List.getElem?_eq_getElem hvy, Option.getD_some] at hzt
      generalize (X[tvv]'hvx) = xx at p1 p2 HLX HTM hzt
      generalize (Y[tvv]'hvy) = yy at q1 q2 HLX HTM hzt
      clear hvx hvy HTK hjl
      obtain ⟨dd, hdd⟩ : ∃ d, d = xx - yy := ⟨_, rfl⟩
      obtain ⟨pz, hpz⟩ : ∃ p, p = tz * dd := ⟨_, rfl⟩
      have HL2 : Hid (∀ w, Calls Tryz.prog 34 #[.agg #[.bool (sg (xx)), .string (E (xx).natAbs)], .agg #[.bool (sg (yy)), .string (E (yy).natAbs)]] w fun e w' => e = .returned (.agg #[.bool (sg (dd)), .string (E (dd).natAbs)]) ∧ Below w.heap.size w w') := fun w => by rw [hdd]; exact sless_c xx yy w HLX.out.1 HLX.out.2
      have HMUL : Hid (∀ w, Calls Tryz.prog 36 #[.agg #[.bool (sg (tz)), .string (E (tz).natAbs)], .agg #[.bool (sg (dd)), .string (E (dd).natAbs)]] w fun e w' => e = .returned (.tuple #[.agg #[.bool (sg (pz)), .string (E (pz).natAbs)], .int .i64 0]) ∧ Below w.heap.size w w') := fun w => by
       rw [hpz, hdd]
       have h3 := HTM.out.2.2
       rw [Int.natAbs_mul] at h3
       exact rimul_c tz (xx - yy) w (Nat.lt_of_lt_of_le HTM.out.1 (Nat.pow_le_pow_right (by decide) (by decide))) (Nat.lt_of_lt_of_le HTM.out.2.1 (Nat.pow_le_pow_right (by decide) (by decide))) h3
      rw [← hdd, ← hpz] at hzt
      have HSB : Hid (qt :: BL.take (j + 1) = (qt :: BL.take j) ++ [tb]) := by
       rw [Hid, List.take_add_one, hbt2]; rfl
      have HSX : Hid (dz :: ZL.take (j + 1) = (dz :: ZL.take j) ++ [pz]) := by
       rw [Hid, List.take_add_one, hzt]; rfl
      clear hdd hpz hzt hbt2
      have h0k : (0 : Int) ≤ (j : Int) := by omega
      have h1k : (j : Int) < (n4 : Int) := by omega
      have h0v : (0 : Int) ≤ (tvv : Int) := by omega
      have h1v : (tvv : Int) < (mr1 : Int) := by omega
      have hT9 := Blk.new wi #[.string (E tb), .int .i64 (tvv : Int), .bool (sg tz), .string (E tz.natAbs)] 86
      have hb9 := b1' wi (.cells #[.string (E tb), .int .i64 (tvv : Int), .bool (sg tz), .string (E tz.natAbs)] 86)
      have hC : CA (wi.alloc (.cells #[.string (E tb), .int .i64 (tvv : Int), .bool (sg tz), .string (E tz.natAbs)] 86)) [(⟨wi.heap.size, 1, none⟩, .int .i64 (tvv : Int)), (⟨wi.heap.size, 2, none⟩, .bool (sg tz)), (⟨wi.heap.size, 3, none⟩, .string (E tz.natAbs)), (⟨g9, 2, none⟩, .slice (some ⟨bx, ox, none⟩) mr1 dr0), (⟨g10, 2, none⟩, .slice (some ⟨by_, oy, none⟩) mr1 dr1), (⟨bx, ox + tvv * 2, none⟩, .bool (sg xx)), (⟨bx, ox + tvv * 2 + 1, none⟩, .string (E xx.natAbs)), (⟨by_, oy + tvv * 2, none⟩, .bool (sg yy)), (⟨by_, oy + tvv * 2 + 1, none⟩, .string (E yy.natAbs))] :=
       CA.cons hT9.lt (hT9.cell 1) (CA.cons hT9.lt (hT9.cell 2) (CA.cons hT9.lt (hT9.cell 3) (CA.alloc (CA.cons hAi.lt (hAi.cell 2) (CA.cons hBi.lt (hBi.cell 2) (CA.cons hblx p1 (CA.cons hblx p2 (CA.cons hbly q1 (CA.cons hbly q2 (CA.nil _))))))) _)))
      have hI9 := hI.after hb9
      have hrow : ∀ g, u15.ownBlock = some g → g < wi.heap.size := fun g hg => (own_lt hI.z hg).1
      go_upto_region 23 with fail
      generalize wi.alloc (.cells #[.string (E tb), .int .i64 (tvv : Int), .bool (sg tz), .string (E tz.natAbs)] 86) = wA at hC hT9 hI9 ⊢
      generalize wi.heap.size = gt at hC hT9 hrow ⊢
      clear x1 x2 x3 x4 p1 p2 q1 q2 hbl hblx hbly hTi hXi hYi hAi hBi hI hb9
      have hT9l : gt < wA.heap.size := hT9.lt
      go_cut [18, 19] (fun s18 s19 wx => ZBox wA pz s18 s19 wx)
      case first =>
       clear hI9 hrow HSB HSX HPR HTR HTV HZT HBT
       go_region_held3 (fun w' => w'.cell? ⟨gt, 1, none⟩ = some (.int .i64 (tvv : Int)) ∧ w'.cell? ⟨gt, 2, none⟩ = some (.bool (sg tz)) ∧ w'.cell? ⟨gt, 3, none⟩ = some (.string (E tz.natAbs)) ∧ w'.cell? ⟨g9, 2, none⟩ = some (.slice (some ⟨bx, ox, none⟩) mr1 dr0) ∧ w'.cell? ⟨g10, 2, none⟩ = some (.slice (some ⟨by_, oy, none⟩) mr1 dr1) ∧ w'.cell? ⟨bx, ox + tvv * 2, none⟩ = some (.bool (sg xx)) ∧ w'.cell? ⟨bx, ox + tvv * 2 + 1, none⟩ = some (.string (E xx.natAbs)) ∧ w'.cell? ⟨by_, oy + tvv * 2, none⟩ = some (.bool (sg yy)) ∧ w'.cell? ⟨by_, oy + tvv * 2 + 1, none⟩ = some (.string (E yy.natAbs))) ((refine CA.k9s ?_; repeat (first | (with_reducible exact hCf) | (with_reducible exact hCe) | (with_reducible exact hC) | (with_reducible refine CA.drew ?_) | (with_reducible refine CA.alloc ?_ _) | (refine CA.set ?_ _ _ _ (by intro x hx; have h1 := (hC x hx).1; (try have h2 := hBe.size); omega)))))
        (first | (go_at_call 34; (with_reducible refine Calls.mono (HL2.out _) ?_); rintro e we ⟨rfl, hbe⟩; (have hBe : Below wA.heap.size wA we := bt (by repeat (first | (with_reducible exact hBf) | (with_reducible exact hBe) | (with_reducible exact Below.refl _ _) | (with_reducible refine ba ?_ _) | (with_reducible refine Below.drew ?_) | fail)) hbe); (have hCe : CA we [(⟨gt, 1, none⟩, .int .i64 (tvv : Int)), (⟨gt, 2, none⟩, .bool (sg tz)), (⟨gt, 3, none⟩, .string (E tz.natAbs)), (⟨g9, 2, none⟩, .slice (some ⟨bx, ox, none⟩) mr1 dr0), (⟨g10, 2, none⟩, .slice (some ⟨by_, oy, none⟩) mr1 dr1), (⟨bx, ox + tvv * 2, none⟩, .bool (sg xx)), (⟨bx, ox + tvv * 2 + 1, none⟩, .string (E xx.natAbs)), (⟨by_, oy + tvv * 2, none⟩, .bool (sg yy)), (⟨by_, oy + tvv * 2 + 1, none⟩, .string (E yy.natAbs))] := CA.after (by repeat (first | (with_reducible exact hC) | (with_reducible refine CA.drew ?_) | (with_reducible refine CA.alloc ?_ _) | fail)) hbe); (try (have kA0 : Blk we wA.heap.size 72 [.bool false, .string { data := #[] }] := by (refine Blk.after ?_ hbe; (repeat (first | ((with_reducible refine blkR ?_ ?_) <;> (first | (with_reducible rfl) | (focus (simp; done)) | rfl | fail)) | (with_reducible exact kA0) | (with_reducible refine Blk.alloc ?_ _) | (with_reducible refine Blk.drew ?_) | fail)); done)))) | (go_at_call 36; (with_reducible refine Calls.mono (HMUL.out _) ?_); rintro e wf ⟨rfl, hbf⟩; (have hBf : Below wA.heap.size wA wf := bt (by repeat (first | (with_reducible exact hBf) | (with_reducible exact hBe) | (with_reducible exact Below.refl _ _) | (with_reducible refine ba ?_ _) | (with_reducible refine Below.drew ?_) | fail)) hbf); (have hCf : CA wf [(⟨gt, 1, none⟩, .int .i64 (tvv : Int)), (⟨gt, 2, none⟩, .bool (sg tz)), (⟨gt, 3, none⟩, .string (E tz.natAbs)), (⟨g9, 2, none⟩, .slice (some ⟨bx, ox, none⟩) mr1 dr0), (⟨g10, 2, none⟩, .slice (some ⟨by_, oy, none⟩) mr1 dr1), (⟨bx, ox + tvv * 2, none⟩, .bool (sg xx)), (⟨bx, ox + tvv * 2 + 1, none⟩, .string (E xx.natAbs)), (⟨by_, oy + tvv * 2, none⟩, .bool (sg yy)), (⟨by_, oy + tvv * 2 + 1, none⟩, .string (E yy.natAbs))] := CA.after (by repeat (first | (with_reducible exact hCe) | (with_reducible refine CA.drew ?_) | (with_reducible refine CA.alloc ?_ _) | fail)) hbf); (try (have kA : Blk wf wA.heap.size 72 [.bool false, .string { data := #[] }] := by (refine Blk.after ?_ hbf; (repeat (first | ((with_reducible refine blkR ?_ ?_) <;> (first | (with_reducible rfl) | (focus (simp; done)) | rfl | fail)) | (with_reducible exact kA0) | (with_reducible refine Blk.alloc ?_ _) | (with_reducible refine Blk.drew ?_) | fail)); done))); (try (have kA1 := kA.cell 0; have kA2 := kA.cell 1; have kA3 := kA.free 0; have kA4 := kA.free 1)); (try (have kB : Blk wf we.heap.size 72 [.bool false, .string { data := #[] }] := by (refine Blk.after ?_ hbf; (repeat (first | ((with_reducible refine blkR ?_ ?_) <;> (first | (with_reducible rfl) | (focus (simp; done)) | rfl | fail)) | (with_reducible exact kA0) | (with_reducible refine Blk.alloc ?_ _) | (with_reducible refine Blk.drew ?_) | fail)); done))); (try (have kB1 := kB.cell 0; have kB2 := kB.cell 1; have kB3 := kB.free 0; have kB4 := kB.free 1))))
       all_goals
        go_wp2_with fail
        go_meet
        have z1 := hBe.size
        have z2 := hBf.size
        first
         | exact ⟨_, rfl, rfl, Blk.new _ _ _, hBf.size, ba hBf _⟩
         | exact ⟨_, rfl, rfl, (kA.set 0 _).set 1 _, Nat.le_refl _, (hBf.setCell (Nat.le_refl _) _).setCell (Nat.le_refl _) _⟩
         | exact ⟨_, rfl, rfl, (kB.set 0 _).set 1 _, z1, (hBf.setCell z1 _).setCell z1 _⟩
      case rest =>
      obtain ⟨gx, rfl, rfl, hX, hgx, hbx⟩ := hcut
      obtain ⟨wx, hwx⟩ : ∃ wx, wx = wc := ⟨_, rfl⟩
      subst hwx
      replace hT9 := hT9.after hbx
      replace hI9 := hI9.after hbx
      clear hC HL2 HMUL HTM HLX
      have hRA : wx.ownsRow wq.heap.size 22 1 u14 (j + 1) (strs (qt :: BL.take j)) := by have h : wx.ownsRow _ _ _ _ _ _ := hI9.a; rw [hI9.la] at h; exact h
      have hRZ : wx.ownsRow wq.heap.size 72 2 u15 (j + 1) (ics ((dz :: ZL.take j).map zI)) := by have h : wx.ownsRow _ _ _ _ _ _ := hI9.z; rw [hI9.lz] at h; exact h
      have hBx := hI9.b
      have hsx := hBx.size
      have HLA := Lib.hid hI9.la
      have HLZ := Lib.hid hI9.lz
      have HHI := Lib.hid hI9
      clear hI9
      generalize (qt :: BL.take j) = LB at hRA HSB HLA HHI
      generalize (dz :: ZL.take j) = LX at hRZ HSX HLZ HHI
      have hC : CA wx [(⟨gt, 0, none⟩, .string (E tb)), (⟨gx, 0, none⟩, .bool (sg pz)), (⟨gx, 1, none⟩, .string (E pz.natAbs))] := CA.cons hT9.lt (hT9.cell 0) (CA.cons hX.lt (hX.cell 0) (CA.cons hX.lt (hX.cell 1) (CA.nil _)))
      have hneA : ∀ x ∈ [((⟨gt, 0, none⟩ : Addr), Value.string (E tb)), (⟨gx, 0, none⟩, .bool (sg pz)), (⟨gx, 1, none⟩, .string (E pz.natAbs))], u14.ownBlock ≠ some x.1.block := by
       have q1 := own_ne hRA hT9 (by decide)
       have q2 := own_ne hRA hX (by decide)
       intro x hx
       simp only [List.mem_cons, List.not_mem_nil, or_false] at hx
       rcases hx with rfl | rfl | rfl
       ·exact q1
       ·exact q2
       ·exact q2
      have hneB : ∀ x ∈ [((⟨gt, 0, none⟩ : Addr), Value.string (E tb)), (⟨gx, 0, none⟩, .bool (sg pz)), (⟨gx, 1, none⟩, .string (E pz.natAbs))], u15.ownBlock ≠ some x.1.block := by
       have q1 := own_ne hRZ hT9 (by decide)
       have q2 : u15.ownBlock ≠ some gx := fun e => by have := hrow gx e; omega
       intro x hx
       simp only [List.mem_cons, List.not_mem_nil, or_false] at hx
       rcases hx with rfl | rfl | rfl
       ·exact q1
       ·exact q2
       ·exact q2
      have HNA := Lib.hid hneA
      have HNB := Lib.hid hneB
      clear hneA hneB hrow
      go_upto_region 26 with fail
      go_region_held3 (fun w' => w'.cell? ⟨gt, 0, none⟩ = some (.string (E tb)) ∧ w'.cell? ⟨gx, 0, none⟩ = some (.bool (sg pz)) ∧ w'.cell? ⟨gx, 1, none⟩ = some (.string (E pz.natAbs))) ((refine CA.k3 ?_; repeat (first | (with_reducible exact hCb) | (with_reducible exact hCa) | (with_reducible exact hC) | (with_reducible refine CA.drew ?_) | (with_reducible refine CA.alloc ?_ _))))
       (first | (refine step_append_lies _ (by rfl) (.tmp 144) (.tmp 147) _ (by rfl) wq.heap.size 22 i0 _ 1 16 Tryz.underlying32 HI0.out HA0.out HB0.out HC0.out rfl (by omega) u14 (j + 1) (strs LB) (by rfl) (by repeat (first | (with_reducible exact hRA) | (with_reducible refine World.ownsRow.drew ?_) | (with_reducible refine World.ownsRow.alloc ?_ _))) _ 1 1 [.string (E tb)] (by rfl) rfl (Blk.cells (T := 22) (by first | exact blkN (by simp) | exact (blkN (by simp)).alloc _)) (by simp [Value.oneCell']) (by omega) (by simp only [maxLen]; omega) (by omega) (by simp; omega) _ rfl ?_; intro ga ca' wa hownA hgrowA hatA hltA; clear hatA; have hZa : wa.ownsRow wq.heap.size 72 2 u15 (j + 1) (ics (LX.map zI)) := own_grown (b1 := wq.heap.size) (b2 := wq.heap.size) (e1 := 72) (e2 := 22) (s1 := 2) (s2 := 1) (n1 := (j + 1)) (n2 := (j + 1)) (v1 := u15) (v2 := u14) (x1 := ics (LX.map zI)) (x2 := strs LB) (by repeat (first | (with_reducible exact hRZ) | (with_reducible refine World.ownsRow.drew ?_) | (with_reducible refine World.ownsRow.alloc ?_ _))) (by repeat (first | (with_reducible exact hRA) | (with_reducible refine World.ownsRow.drew ?_) | (with_reducible refine World.ownsRow.alloc ?_ _))) (by decide) hgrowA; have hCa : CA wa [(⟨gt, 0, none⟩, .string (E tb)), (⟨gx, 0, none⟩, .bool (sg pz)), (⟨gx, 1, none⟩, .string (E pz.natAbs))] := CA.grown (by repeat (first | (with_reducible exact hC) | (with_reducible refine CA.drew ?_) | (with_reducible refine CA.alloc ?_ _))) hgrowA HNA.out; have hBa : Below wq.heap.size wq wa := Below.grown (by repeat (first | (with_reducible exact hBx) | (with_reducible refine Below.drew ?_) | (with_reducible refine Below.alloc ?_ (by first | omega | (simp; omega)) _))) hgrowA (by simp; omega) (fun g hg => (own_lt hRA hg).2); have hsa := hgrowA.size; (try (have hLB0 : Blk wa wx.heap.size 72 [.bool (sg pz), .string (E pz.natAbs)] := Blk.grown (by first | exact (blkN (by simp)).alloc _) hgrowA (fun e => by have := (own_lt hRA e).1; omega))); (try (have hLB1 : Blk wa (wx.heap.size + 1) 72 [.bool (sg pz), .string (E pz.natAbs)] := Blk.grown (by first | exact blkN (by simp)) hgrowA (fun e => by have := (own_lt hRA e).1; omega)))) | (refine step_append_lies _ (by rfl) (.tmp 149) (.tmp 151) _ (by rfl) wq.heap.size 72 i1 _ 2 24 Tryz.underlying39 HI1.out HA1.out HB1.out HC1.out rfl (by omega) u15 (j + 1) (ics (LX.map zI)) (by rfl) (by repeat (first | (with_reducible exact hZa) | (with_reducible refine World.ownsRow.drew ?_) | (with_reducible refine World.ownsRow.alloc ?_ _))) _ 1 1 [.bool (sg pz), .string (E pz.natAbs)] (by rfl) rfl (Blk.cells (T := 72) (by first | exact blkN (by simp) | exact hLB0 | exact hLB1)) (by simp [Value.oneCell']) (by omega) (by simp only [maxLen]; omega) (by omega) (by have := hBa.size; simp; omega) _ rfl ?_; intro gb cb' wb hownB hgrowB hatB hltB; clear hatB; have hAb : wb.ownsRow wq.heap.size 22 1 (.slice (some ⟨ga, 0, none⟩) (j + 1 + 1) ca') (j + 1 + 1) (strs LB ++ [.string (E tb)]) := own_grown (b1 := wq.heap.size) (b2 := wq.heap.size) (e1 := 22) (e2 := 72) (s1 := 1) (s2 := 2) (n1 := (j + 1) + 1) (n2 := (j + 1)) (v1 := .slice (some ⟨ga, 0, none⟩) (j + 1 + 1) ca') (v2 := u15) (x1 := strs LB ++ [.string (E tb)]) (x2 := ics (LX.map zI)) (by repeat (first | (with_reducible exact hownA) | (with_reducible refine World.ownsRow.drew ?_) | (with_reducible refine World.ownsRow.alloc ?_ _))) (by repeat (first | (with_reducible exact hZa) | (with_reducible refine World.ownsRow.drew ?_) | (with_reducible refine World.ownsRow.alloc ?_ _))) (by decide) hgrowB; have hCb : CA wb [(⟨gt, 0, none⟩, .string (E tb)), (⟨gx, 0, none⟩, .bool (sg pz)), (⟨gx, 1, none⟩, .string (E pz.natAbs))] := CA.grown (by repeat (first | (with_reducible exact hCa) | (with_reducible refine CA.drew ?_) | (with_reducible refine CA.alloc ?_ _))) hgrowB HNB.out; have hBb : Below wq.heap.size wq wb := Below.grown (by repeat (first | (with_reducible exact hBa) | (with_reducible refine Below.drew ?_) | (with_reducible refine Below.alloc ?_ (by have := hBa.size; first | omega | (simp; omega)) _))) hgrowB (by have := hBa.size; simp; omega) (fun g hg => (own_lt hRZ hg).2)))
      all_goals
       have hIR : IRel wq (j + 1 + 1) (LB ++ [tb]) (LX ++ [pz]) (.slice (some ⟨ga, 0, none⟩) (j + 1 + 1) ca') (.slice (some ⟨gb, 0, none⟩) (j + 1 + 1) cb') wb := by
        refine ⟨?_, ?_, by simp [HLA.out], by simp [HLZ.out], fun h => by omega, fun h => by omega, hBb⟩
        ·rw [NOwn, List.length_append, HLA.out, ← strs_app]; exact hAb
        ·rw [ZOwn, List.length_append, HLZ.out, ← ics_app]; exact hownB
       rw [← HSB.out, ← HSX.out] at hIR
       clear hAb hownB hownA hCa hCb hBa hBb hgrowA hgrowB hZa HHI
       go_wp2
       go_roundw
       case rel => exact ⟨j + 1, by omega, by go_num, hIR⟩
       case measure => simp [intOf]; omega
     ·obtain rfl : j = n4 := by omega
      have hTB : BL.take j = BL := List.take_of_length_le (by rw [HBN.out]; omega)
      have hTZ : ZL.take j = ZL := List.take_of_length_le (by rw [HZN.out]; omega)
      rw [hTB, hTZ] at hI
      have hLB : (qt :: BL).length = j + 1 := by rw [List.length_cons, HBN.out]
      have hLZ : (dz :: ZL).length = j + 1 := by rw [List.length_cons, HZN.out]
      obtain ⟨gl, cl, rfl, _, hcl, hNA⟩ := hI.a.form (by rw [hLB]; omega)
      obtain ⟨gz, cz, rfl, _, hcz, hZA⟩ := hI.z.form (by rw [hLZ]; omega)
      rw [hLB] at hcl ⊢
      rw [hLZ] at hcz ⊢
      have hPRD := Lib.hid (HPR.out wi gl gz cl cz hcl hcz hNA hZA)
      have hQi := hQ0.after hI.b
      have hSi := hS0.after hI.b
      have c1 := (hI.b.cell (p := ⟨bg, og + qg * 2, none⟩) hbgq).trans yy1
      have c2 := (hI.b.cell (p := ⟨bg, og + qg * 2 + 1, none⟩) hbgq).trans yy2
      have hbl := Nat.lt_of_lt_of_le hbgq hI.b.size
      have hBI := Lib.hid hI.b
      have hQl := hQi.lt
      have hSl := hSi.lt
      clear hI hTi hXi hYi hAi hBi hNA hZA hcl hcz hLB hLZ hTB hTZ
      obtain ⟨hQic0, hQif0, hQic1, hQif1, hQic2, hQif2⟩ := hQi.x3
      obtain ⟨hSic0, hSif0, hSic1, hSif1, hSic2, hSif2⟩ := hSi.x3
      go_wp2_with fail
      refine hPRD.out.mono ?_
      rintro e w9 ⟨rfl, hb9⟩
      clear hQic0 hQif0 hQic1 hQif1 hQic2 hQif2
      clear hSic0 hSif0 hSic1 hSif1 hSic2 hSif2
      clear c1 c2 hQl hSl hbl hQi hSi
      have hfin := bt hbrq (bt hBI.out hb9)
      go_wp2
      go_roundw
      case rel => exact ⟨k + 1, by omega, by go_num, hfin⟩
      case measure => simp [intOf]; omega
end Go.Proofs.YtcfjcenmcpankaaGreatDoor
end
