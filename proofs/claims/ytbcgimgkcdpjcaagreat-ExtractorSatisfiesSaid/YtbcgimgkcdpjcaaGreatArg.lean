/- A case of the extractor's laws as an argument: opened into what its slices read. -/
import Derived.Test.YtbcgimgkcdpjcaaGreatExm2
import Derived.Test.YtbcgimgkcdpjcaaGreatBase
import Derived.Below
import Derived.ChangeSame
import Derived.ChangeMaps5
import Derived.JoinedOf
import Derived.JoinedAt
import Derived.RowKit3
import Derived.Deep.Strs
import Derived.Lib.SmallJoins
import Derived.OpenShut
import Derived.ProofKit
import Derived.Carry
import Derived.ChangeSlices
import Derived.WideKeyArgs
import Derived.Deep.Slices
set_option linter.unusedVariables false
set_option linter.unusedSimpArgs false
set_option maxRecDepth 100000
section
namespace Go.Proofs.YtbcgimgkcdpjcaaGreat
open Go.RowKit Go.Shelf

/-- whether all strings have at most n bytes -/
def shB (n : Nat) (l : List ByteArray) : Bool := l.all fun s => decide (s.size ≤ n)

set_option maxHeartbeats 1600000 in
theorem short_c (n : Nat) (D : List ByteArray) (v : Value) (w : World) (hn : n ≤ 1000) (hl : D.length ≤ 9223372036854775807) (hs : ∀ s ∈ D, s.size ≤ 9223372036854775807) (hD : SsAt w v D) :
  Calls Tryz.prog 23 #[.int .i64 n, v] w fun e w' => e = .returned (.bool (shB n D)) ∧ w' = w := by
 obtain ⟨ao, c, rfl⟩ := RAt.form hD
 obtain ⟨r, hr⟩ : ∃ r, r = shB n D := ⟨_, rfl⟩
 rw [← hr]
 have HR := Lib.hid hr
 obtain ⟨m, hm⟩ : ∃ m, m = D.length := ⟨_, rfl⟩
 have HM := Lib.hid hm
 have hm1 : m ≤ 9223372036854775807 := by omega
 rw [← hm] at hD ⊢
 have HS := Lib.hid hs
 have HDD := Lib.hid hD
 clear hr hm hs hD hl
 go_enter Tryz.func23, Tryz.ntmps23
 go_wp2
 go_loop [5] (fun i => ∃ k : Nat, k ≤ m ∧ i = .int .i64 k ∧ Hid (∀ j (h : j < D.length), j < k → D[j].size ≤ n)) (fun i => m - (intOf i).toNat)
 case atStart => exact ⟨0, by omega, rfl, fun j _ h => absurd h (Nat.not_lt_zero _)⟩
 case round =>
  obtain ⟨k, hk, rfl, HK⟩ := hrel
  by_cases hlt : k < m
  ·have hkl : k < D.length := by rw [← HM.out]; exact hlt
   obtain ⟨b, o, rfl, hb, hc⟩ := SsAt.at_ HDD.out hkl
   have hsz := HS.out _ (List.getElem_mem hkl)
   have h0k : (0 : Int) ≤ (k : Int) := by omega
   have h1k : (k : Int) < (m : Int) := by omega
   by_cases h8 : (D[k]'hkl).size ≤ n
   ·have HNX : Hid (∀ j (h : j < D.length), j < k + 1 → D[j].size ≤ n) := fun j h hj => by
     by_cases e : j = k
     ·subst e; exact h8
     ·exact HK.out j h (by omega)
    generalize D[k]'hkl = s at hc hsz h8
    go_wp2
    go_round
    case rel => exact ⟨k + 1, by omega, by go_num, HNX⟩
    case measure => simp [intOf]; omega
   ·have HF : Hid (r = false) := by
     rw [Hid, HR.out, shB, List.all_eq_false]
     exact ⟨_, List.getElem_mem hkl, by simpa using h8⟩
    generalize D[k]'hkl = s at hc hsz h8
    go_wp2
    go_ret
    refine ⟨?_, rfl⟩; show Ending.returned (.bool _) = Ending.returned (.bool r); rw [HF.out]
  ·have HF : Hid (r = true) := by
    rw [Hid, HR.out, shB, List.all_eq_true]
    intro x hx
    obtain ⟨j, hj, rfl⟩ := List.mem_iff_getElem.1 hx
    exact decide_eq_true (HK.out j hj (by have := HM.out; omega))
   go_wp2
   go_ret
   refine ⟨?_, rfl⟩; show Ending.returned (.bool _) = Ending.returned (.bool r); rw [HF.out]
end Go.Proofs.YtbcgimgkcdpjcaaGreat
end

section
namespace Go.Proofs.YtbcgimgkcdpjcaaGreat
open Go.RowKit Go.Shelf

/-- sizes that Go can hold -/
structure SSz (S : Sta) : Prop where
 g : ∀ x ∈ S.grps, x.1.size ≤ 9223372036854775807 ∧ x.2.size ≤ 9223372036854775807
 v : ∀ x ∈ S.vars, x.size ≤ 9223372036854775807
 e : ∀ x ∈ S.eqs, x.tgt.size ≤ 9223372036854775807 ∧ x.trms.length ≤ 9223372036854775807 ∧ ∀ t ∈ x.trms, t.base.size ≤ 9223372036854775807 ∧ t.abs.size ≤ 9223372036854775807

/-- a row of two strings -/
theorem row2s {w : World} {b : Nat} {T : TypeId} {s t : ByteArray} (h : Blk w b T [.string s, .string t]) : SsAt w (.slice (some ⟨b, 0, none⟩) 2 2) [s, t] := by
 refine ⟨_, _, rfl, .inr ⟨b, 0, rfl, h.lt, fun j hj => ⟨_, rfl, fun i hi => ?_⟩⟩⟩
 obtain rfl : i = 0 := by omega
 have hj2 : j < 2 := hj
 rw [show 0 + j * 1 + 0 = j by omega, h.cell j]
 match j, hj2 with
 | 0, _ => rfl
 | 1, _ => rfl

theorem short1_c (n : Nat) (z : Int) (s : ByteArray) (r : Bool) (w : World) (hz : z = (n : Int)) (hn : n ≤ 1000) (hs : s.size ≤ 9223372036854775807) (hr : decide (s.size ≤ n) = r) :
  Calls Tryz.prog 23 #[.int .i64 z, .slice (some ⟨w.heap.size, 0, none⟩) 1 1] (w.alloc (.cells #[.string s] 22)) fun e w' => e = .returned (.bool r) ∧ w' = w.alloc (.cells #[.string s] 22) := by
 subst hz; subst hr
 refine (short_c n [s] _ _ hn (by simp) (by simpa using hs) (row1 (Blk.new w #[.string s] 22) rfl)).mono ?_
 rintro e w' ⟨rfl, h⟩
 exact ⟨by simp [shB], h⟩

theorem short2_c (n : Nat) (z : Int) (s t : ByteArray) (r : Bool) (g : Nat) (w : World) (hz : z = (n : Int)) (hn : n ≤ 1000) (hs : s.size ≤ 9223372036854775807) (ht : t.size ≤ 9223372036854775807) (hr : (decide (s.size ≤ n) && decide (t.size ≤ n)) = r) (hB : Blk w g 22 [.string s, .string t]) :
  Calls Tryz.prog 23 #[.int .i64 z, .slice (some ⟨g, 0, none⟩) 2 2] w fun e w' => e = .returned (.bool r) ∧ w' = w := by
 subst hz; subst hr
 refine (short_c n [s, t] _ _ hn (by simp) (by simpa using ⟨hs, ht⟩) (row2s hB)).mono ?_
 rintro e w' ⟨rfl, h⟩
 exact ⟨by simp [shB], h⟩

set_option maxHeartbeats 8000000 in
theorem fewS_c (S : Sta) (v1 v2 v3 : Value) (w : World) (hm : SSz S) (hS : StAt w v1 v2 v3 S) :
  Calls Tryz.prog 24 #[.agg #[v1, v2, v3]] w fun e w' => e = .returned (.bool (fewB S)) ∧ Below w.heap.size w w' := by
 obtain ⟨r, hr⟩ : ∃ r : Bool, r = fewB S := ⟨_, rfl⟩
 have HRES := Lib.hid hr
 rw [← hr]
 clear hr
 obtain ⟨a1, c1, rfl⟩ := hS.g.form
 obtain ⟨a2, c2, rfl⟩ := hS.v.form
 obtain ⟨a3, c3, rfl⟩ := hS.e.form
 have HM := Lib.hid hm
 obtain ⟨n1, hn1⟩ : ∃ n, n = S.grps.length := ⟨_, rfl⟩
 obtain ⟨n2, hn2⟩ : ∃ n, n = S.vars.length := ⟨_, rfl⟩
 obtain ⟨n3, hn3⟩ : ∃ n, n = S.eqs.length := ⟨_, rfl⟩
 have HN1 := Lib.hid hn1
 have HN2 := Lib.hid hn2
 have HN3 := Lib.hid hn3
 rw [← hn1, ← hn2, ← hn3] at hS ⊢
 clear hm hn1 hn2 hn3
 have hP := Blk.new w #[.slice a1 n1 c1, .slice a2 n2 c2, .slice a3 n3 c3] 29
 have hBW := b1 w (.cells #[.slice a1 n1 c1, .slice a2 n2 c2, .slice a3 n3 c3] 29)
 replace hS := hS.after hBW
 by_cases g1 : 9 < n1
 ·have e1 : decide ((9 : Int) < (n1 : Int)) = true := decide_eq_true (by omega)
  have HF : Hid (fewB S = false) := by unfold Hid fewB; rw [← HN1.out, decide_eq_false (show ¬ n1 ≤ 9 by omega)]; simp
  clear g1
  have hPc0 := hP.cell 0
  have hPf0 := hP.free 0
  have hPc1 := hP.cell 1
  have hPf1 := hP.free 1
  have hPc2 := hP.cell 2
  have hPf2 := hP.free 2
  go_enter Tryz.func24, Tryz.ntmps24
  go_wp2
  go_ret
  exact ⟨by rw [HRES.out, HF.out]; rfl, hBW⟩
 have e1 : decide ((9 : Int) < (n1 : Int)) = false := decide_eq_false (by omega)
 by_cases g2 : 6 < n2
 ·have e2 : decide ((6 : Int) < (n2 : Int)) = true := decide_eq_true (by omega)
  have HF : Hid (fewB S = false) := by unfold Hid fewB; rw [← HN2.out, decide_eq_false (show ¬ n2 ≤ 6 by omega)]; simp
  clear g1 g2
  have hPc0 := hP.cell 0
  have hPf0 := hP.free 0
  have hPc1 := hP.cell 1
  have hPf1 := hP.free 1
  have hPc2 := hP.cell 2
  have hPf2 := hP.free 2
  go_enter Tryz.func24, Tryz.ntmps24
  go_wp2
  go_ret
  exact ⟨by rw [HRES.out, HF.out]; rfl, hBW⟩
 have e2 : decide ((6 : Int) < (n2 : Int)) = false := decide_eq_false (by omega)
 by_cases g3 : 6 < n3
 ·have e3 : decide ((6 : Int) < (n3 : Int)) = true := decide_eq_true (by omega)
  have HF : Hid (fewB S = false) := by unfold Hid fewB; rw [← HN3.out, decide_eq_false (show ¬ n3 ≤ 6 by omega)]; simp
  clear g1 g2 g3
  have hPc0 := hP.cell 0
  have hPf0 := hP.free 0
  have hPc1 := hP.cell 1
  have hPf1 := hP.free 1
  have hPc2 := hP.cell 2
  have hPf2 := hP.free 2
  go_enter Tryz.func24, Tryz.ntmps24
  go_wp2
  go_ret
  exact ⟨by rw [HRES.out, HF.out]; rfl, hBW⟩
 have e3 : decide ((6 : Int) < (n3 : Int)) = false := decide_eq_false (by omega)
 have HL1 : Hid (decide (S.grps.length ≤ 9) = true) := decide_eq_true (by have := HN1.out; omega)
 have HL2 : Hid (decide (S.vars.length ≤ 6) = true) := decide_eq_true (by have := HN2.out; omega)
 have HL3 : Hid (decide (S.eqs.length ≤ 6) = true) := decide_eq_true (by have := HN3.out; omega)
 have l1 : n1 ≤ 9 := by omega
 have l2 : n2 ≤ 6 := by omega
 have l3 : n3 ≤ 6 := by omega
 clear g1 g2 g3
 have hPc0 := hP.cell 0
 have hPf0 := hP.free 0
 have hPc1 := hP.cell 1
 have hPf1 := hP.free 1
 have hPc2 := hP.cell 2
 have hPf2 := hP.free 2
 go_enter Tryz.func24, Tryz.ntmps24
 go_wp2
 clear hPc0 hPf0 hPc1 hPf1 hPc2 hPf2
 clear e1 e2 e3
 generalize w.alloc (.cells #[.slice a1 n1 c1, .slice a2 n2 c2, .slice a3 n3 c3] 29) = w1 at hP hBW hS
 obtain ⟨gp, hgp⟩ : ∃ g, w.heap.size = g := ⟨_, rfl⟩
 have HGP := Lib.hid hgp
 replace hP : Blk w1 w.heap.size 29 [.slice a1 n1 c1, .slice a2 n2 c2, .slice a3 n3 c3] := hP
 rw [hgp] at hP ⊢
 clear hgp
 go_loopw [3] (fun i wr => ∃ k : Nat, k ≤ n1 ∧ i = .int .i64 k ∧ Hid ((S.grps.take k).all gszB = true) ∧ Below w1.heap.size w1 wr) (fun i _ => n1 - (intOf i).toNat)
 case atStart => exact ⟨0, by omega, rfl, rfl, Below.refl _ _⟩
 case round =>
  obtain ⟨k, hk, rfl, HA, hbr⟩ := hrel
  obtain ⟨wp, hwp⟩ : ∃ wp, wp = wr := ⟨_, rfl⟩
  subst hwp
  replace hS := hS.after hbr
  replace hP := hP.after hbr
  replace hBW := bt hBW hbr
  by_cases hlt : k < n1
  ·have hkl : k < S.grps.length := by rw [← HN1.out]; exact hlt
   have HSZ := Lib.hid (HM.out.g _ (List.getElem_mem hkl))
   have HT := Lib.hid (all_take gszB S.grps k hkl)
   have HBAD : Hid (gszB S.grps[k] = false → fewB S = false) := fun h => by unfold fewB; rw [all_bad gszB S.grps k hkl h]; simp
   obtain ⟨b, o, rfl, hbl, x1, x2⟩ := hS.g.at_ hkl
   have HG : Hid (gszB S.grps[k] = (decide (S.grps[k].1.size ≤ 8) && decide (S.grps[k].2.size ≤ 8))) := rfl
   generalize gszB (S.grps[k]'hkl) = gk at HT HBAD HG
   generalize (S.grps[k]'hkl).1 = s1 at x1 HSZ HG
   generalize (S.grps[k]'hkl).2 = s2 at x2 HSZ HG
   have h0k : (0 : Int) ≤ (k : Int) := by omega
   have h1k : (k : Int) < (n1 : Int) := by omega
   have hC : CA wp [(⟨gp, 0, none⟩, .slice (some ⟨b, o, none⟩) n1 c1), (⟨b, o + k * 2, none⟩, .string s1), (⟨b, o + k * 2 + 1, none⟩, .string s2)] := CA.cons hP.lt (hP.cell 0) (CA.cons hbl x1 (CA.cons hbl x2 (CA.nil _)))
   have HSH : Hid (Calls Tryz.prog 23 #[.int .i64 8, .slice (some ⟨wp.heap.size, 0, none⟩) 2 2] (wp.alloc (.cells #[.string s1, .string s2] 22)).drew fun e w' => e = .returned (.bool gk) ∧ w' = (wp.alloc (.cells #[.string s1, .string s2] 22)).drew) := short2_c 8 8 s1 s2 gk wp.heap.size _ rfl (by decide) HSZ.out.1 HSZ.out.2 HG.out.symm (Blk.new wp #[.string s1, .string s2] 22)
   have hPc0 := hP.cell 0
   have hPf0 := hP.free 0
   go_wp2_with fail
   go_region_held3 (fun w' => w'.cell? ⟨gp, 0, none⟩ = some (.slice (some ⟨b, o, none⟩) n1 c1) ∧ w'.cell? ⟨b, o + k * 2, none⟩ = some (.string s1) ∧ w'.cell? ⟨b, o + k * 2 + 1, none⟩ = some (.string s2)) ((refine CA.k3 ?_; repeat (first | (with_reducible exact hC) | (with_reducible refine CA.drew ?_) | (with_reducible refine CA.alloc ?_ _)))) ((go_at_call 23; refine HSH.out.mono ?_; rintro e w' ⟨rfl, rfl⟩))
   cases hgk : gk
   ·have HF : Hid (fewB S = false) := HBAD.out hgk
    go_wp2
    go_ret
    exact ⟨by rw [HRES.out, HF.out]; rfl, (ba hBW _).drew⟩
   ·have HX : Hid ((S.grps.take (k + 1)).all gszB = true) := by rw [Hid, HT.out, HA.out, hgk]; rfl
    go_wp2
    go_roundw
    case rel => exact ⟨k + 1, by omega, by go_num, HX, (ba hbr _).drew⟩
    case measure => simp [intOf]; omega
  ·have HG : Hid (S.grps.all gszB = true) := all_end gszB S.grps k (by rw [← HN1.out]; omega) HA.out
   clear hbr
   have hPc0 := hP.cell 0
   have hPf0 := hP.free 0
   have hPc1 := hP.cell 1
   have hPf1 := hP.free 1
   have hPc2 := hP.cell 2
   have hPf2 := hP.free 2
   go_wp2
   clear hPc0 hPf0 hPc1 hPf1 hPc2 hPf2
   clear HA hlt hk
   go_loopw [4] (fun i wr => ∃ k : Nat, k ≤ n2 ∧ i = .int .i64 k ∧ Hid ((S.vars.take k).all vszB = true) ∧ Below wp.heap.size wp wr) (fun i _ => n2 - (intOf i).toNat)
   case atStart => exact ⟨0, by omega, rfl, rfl, Below.refl _ _⟩
   case round =>
    obtain ⟨k, hk, rfl, HA, hbr⟩ := hrel
    obtain ⟨wq, hwq⟩ : ∃ wq, wq = wr := ⟨_, rfl⟩
    subst hwq
    replace hS := hS.after hbr
    replace hP := hP.after hbr
    replace hBW := bt hBW hbr
    by_cases hlt : k < n2
    ·have hkl : k < S.vars.length := by rw [← HN2.out]; exact hlt
     have HSZ := Lib.hid (HM.out.v _ (List.getElem_mem hkl))
     have HT := Lib.hid (all_take vszB S.vars k hkl)
     have HBAD : Hid (vszB S.vars[k] = false → fewB S = false) := fun h => by unfold fewB; rw [all_bad vszB S.vars k hkl h]; simp
     obtain ⟨b, o, rfl, hbl, x1⟩ := hS.v.at_ hkl
     generalize S.vars[k]'hkl = s1 at x1 HSZ HT HBAD
     have h0k : (0 : Int) ≤ (k : Int) := by omega
     have h1k : (k : Int) < (n2 : Int) := by omega
     have hPc0 := hP.cell 0
     have hPf0 := hP.free 0
     have hPc1 := hP.cell 1
     have hPf1 := hP.free 1
     have hPc2 := hP.cell 2
     have hPf2 := hP.free 2
     cases hv1 : vszB s1
     ·have HF : Hid (fewB S = false) := HBAD.out hv1
      go_wp2_with fail
      refine (short1_c 16 16 s1 false _ rfl (by decide) HSZ.out hv1).mono ?_
      rintro e w' ⟨rfl, rfl⟩
      go_wp2
      go_ret
      exact ⟨by rw [HRES.out, HF.out]; rfl, ba hBW _⟩
     ·have HX : Hid ((S.vars.take (k + 1)).all vszB = true) := by rw [Hid, HT.out, HA.out, hv1]; rfl
      go_wp2_with fail
      refine (short1_c 16 16 s1 true _ rfl (by decide) HSZ.out hv1).mono ?_
      rintro e w' ⟨rfl, rfl⟩
      go_wp2
      go_roundw
      case rel => exact ⟨k + 1, by omega, by go_num, HX, ba hbr _⟩
      case measure => simp [intOf]; omega
    ·have HV : Hid (S.vars.all vszB = true) := all_end vszB S.vars k (by rw [← HN2.out]; omega) HA.out
     clear hbr
     have hPc0 := hP.cell 0
     have hPf0 := hP.free 0
     have hPc1 := hP.cell 1
     have hPf1 := hP.free 1
     have hPc2 := hP.cell 2
     have hPf2 := hP.free 2
     go_wp2
     clear hPc0 hPf0 hPc1 hPf1 hPc2 hPf2
     clear HA hlt hk
     go_loopw [5] (fun i wr => ∃ k : Nat, k ≤ n3 ∧ i = .int .i64 k ∧ Hid ((S.eqs.take k).all eszB = true) ∧ Below wq.heap.size wq wr) (fun i _ => n3 - (intOf i).toNat)
     case atStart => exact ⟨0, by omega, rfl, rfl, Below.refl _ _⟩
     case round =>
      obtain ⟨k, hk, rfl, HA, hbr⟩ := hrel
      obtain ⟨wt, hwt⟩ : ∃ wt, wt = wr := ⟨_, rfl⟩
      subst hwt
      replace hS := hS.after hbr
      replace hP := hP.after hbr
      replace hBW := bt hBW hbr
      by_cases hlt : k < n3
      ·have hkl : k < S.eqs.length := by rw [← HN3.out]; exact hlt
       have HSZ := Lib.hid (HM.out.e _ (List.getElem_mem hkl))
       have HT := Lib.hid (all_take eszB S.eqs k hkl)
       have HBAD : Hid (eszB S.eqs[k] = false → fewB S = false) := fun h => by unfold fewB; rw [all_bad eszB S.eqs k hkl h]; simp
       obtain ⟨b, o, tv, rfl, hbl, x1, x2, x3, hTs⟩ := hS.e.at_ hkl
       generalize S.eqs[k]'hkl = q at x1 x2 x3 hTs HSZ HT HBAD
       obtain ⟨qg, qt, qs⟩ := q
       simp only [] at x1 x2 x3 hTs
       obtain ⟨to_, tc, rfl⟩ := RAt.form hTs
       obtain ⟨n4, hn4⟩ : ∃ n, n = qs.length := ⟨_, rfl⟩
       have HN4 := Lib.hid hn4
       rw [← hn4] at x3 hTs
       clear hn4
       have h0k : (0 : Int) ≤ (k : Int) := by omega
       have h1k : (k : Int) < (n3 : Int) := by omega
       have HQ : Hid (eszB ⟨qg, qt, qs⟩ = (decide (qs.length ≤ 8) && decide (qt.size ≤ 9) && qs.all tszB)) := rfl
       generalize eszB ⟨qg, qt, qs⟩ = ek at HT HBAD HQ
       have hPc0 := hP.cell 0
       have hPf0 := hP.free 0
       have hPc1 := hP.cell 1
       have hPf1 := hP.free 1
       have hPc2 := hP.cell 2
       have hPf2 := hP.free 2
       by_cases g4 : 8 < n4
       ·have e4 : decide ((8 : Int) < (n4 : Int)) = true := decide_eq_true (by omega)
        have HF : Hid (fewB S = false) := HBAD.out (by rw [HQ.out, ← HN4.out, decide_eq_false (show ¬ n4 ≤ 8 by omega)]; rfl)
        clear g4
        go_wp2
        go_ret
        exact ⟨by rw [HRES.out, HF.out]; rfl, hBW⟩
       have e4 : decide ((8 : Int) < (n4 : Int)) = false := decide_eq_false (by omega)
       have HY : Hid (decide (qs.length ≤ 8) = true) := decide_eq_true (by have := HN4.out; omega)
       have l4 : n4 ≤ 8 := by omega
       clear g4
       cases hv : decide (qt.size ≤ 9)
       ·have HF : Hid (fewB S = false) := HBAD.out (by rw [HQ.out, HY.out, hv]; rfl)
        clear l4
        go_wp2_with fail
        refine (short1_c 9 9 qt false _ rfl (by decide) HSZ.out.1 hv).mono ?_
        rintro e w' ⟨rfl, rfl⟩
        go_wp2
        go_ret
        exact ⟨by rw [HRES.out, HF.out]; rfl, ba hBW _⟩
       have HV9 := Lib.hid hv
       clear hv
       go_wp2_with fail
       refine (short1_c 9 9 qt true _ rfl (by decide) HSZ.out.1 HV9.out).mono ?_
       rintro e w' ⟨rfl, rfl⟩
       clear hPc0 hPf0 hPc1 hPf1 hPc2 hPf2
       replace hP := hP.alloc (.cells #[.string qt] 22)
       replace hTs := TsAt.after hTs (b1 _ (.cells #[.string qt] 22))
       have x3' : (wt.alloc (.cells #[.string qt] 22)).cell? ⟨b, o + k * 3 + 2, none⟩ = some (.slice to_ n4 tc) := ((b1 wt (.cells #[.string qt] 22)).cell (p := ⟨b, o + k * 3 + 2, none⟩) hbl).trans x3
       replace hBW := ba hBW (.cells #[.string qt] 22)
       replace hbr := ba hbr (.cells #[.string qt] 22)
       have hbl' : b < (wt.alloc (.cells #[.string qt] 22)).heap.size := Nat.lt_of_lt_of_le hbl (b1 wt (.cells #[.string qt] 22)).size
       generalize wt.alloc (.cells #[.string qt] 22) = wu at hP hTs hBW hbr x3' hbl' ⊢
       clear hS x1 x2 x3 e4
       go_wp2
       go_loopw [6] (fun i wr => ∃ k : Nat, k ≤ n4 ∧ i = .int .i64 k ∧ Hid ((qs.take k).all tszB = true) ∧ Below wu.heap.size wu wr) (fun i _ => n4 - (intOf i).toNat)
       case atStart => exact ⟨0, by omega, rfl, rfl, Below.refl _ _⟩
       case round =>
        obtain ⟨j, hj, rfl, HJ, hbs⟩ := hrel
        obtain ⟨wv, hwv⟩ : ∃ wv, wv = wr := ⟨_, rfl⟩
        subst hwv
        replace hP := hP.after hbs
        replace hTs := TsAt.after hTs hbs
        replace hBW := bt hBW hbs
        replace x3' := (hbs.cell (p := ⟨b, o + k * 3 + 2, none⟩) hbl').trans x3'
        replace hbl' := Nat.lt_of_lt_of_le hbl' hbs.size
        have hPc2 := hP.cell 2
        have hPf2 := hP.free 2
        by_cases hltj : j < n4
        ·have hjl : j < qs.length := by rw [← HN4.out]; exact hltj
         have HSJ := Lib.hid (HSZ.out.2.2 _ (List.getElem_mem hjl))
         have HTJ := Lib.hid (all_take tszB qs j hjl)
         have HBJ : Hid (tszB qs[j] = false → fewB S = false) := fun h => HBAD.out (by rw [HQ.out, all_bad tszB qs j hjl h]; simp)
         obtain ⟨b4, o4, rfl, hbl4, y1, y2, y3, y4⟩ := TsAt.at_ hTs hjl
         generalize qs[j]'hjl = t at y1 y2 y3 y4 HSJ HTJ HBJ
         obtain ⟨tb, tv, tn, ta⟩ := t
         simp only [] at y1 y2 y3 y4
         have h0j : (0 : Int) ≤ (j : Int) := by omega
         have h1j : (j : Int) < (n4 : Int) := by omega
         have HTK : Hid (tszB ⟨tb, tv, tn, ta⟩ = (decide (tb.size ≤ 9) && decide (ta.size ≤ 9))) := rfl
         generalize tszB ⟨tb, tv, tn, ta⟩ = tk at HTJ HBJ HTK
         have hC : CA wv [(⟨gp, 2, none⟩, .slice (some ⟨b, o, none⟩) n3 c3), (⟨b, o + k * 3 + 2, none⟩, .slice (some ⟨b4, o4, none⟩) n4 tc), (⟨b4, o4 + j * 4, none⟩, .string tb), (⟨b4, o4 + j * 4 + 3, none⟩, .string ta)] := CA.cons hP.lt (hP.cell 2) (CA.cons hbl' x3' (CA.cons hbl4 y1 (CA.cons hbl4 y4 (CA.nil _))))
         have HSH : Hid (Calls Tryz.prog 23 #[.int .i64 9, .slice (some ⟨wv.heap.size, 0, none⟩) 2 2] (wv.alloc (.cells #[.string tb, .string ta] 22)).drew fun e w' => e = .returned (.bool tk) ∧ w' = (wv.alloc (.cells #[.string tb, .string ta] 22)).drew) := short2_c 9 9 tb ta tk wv.heap.size _ rfl (by decide) HSJ.out.1 HSJ.out.2 HTK.out.symm (Blk.new wv #[.string tb, .string ta] 22)
         go_wp2_with fail
         go_region_held3 (fun w' => w'.cell? ⟨gp, 2, none⟩ = some (.slice (some ⟨b, o, none⟩) n3 c3) ∧ w'.cell? ⟨b, o + k * 3 + 2, none⟩ = some (.slice (some ⟨b4, o4, none⟩) n4 tc) ∧ w'.cell? ⟨b4, o4 + j * 4, none⟩ = some (.string tb) ∧ w'.cell? ⟨b4, o4 + j * 4 + 3, none⟩ = some (.string ta)) ((refine CA.k4 ?_; repeat (first | (with_reducible exact hC) | (with_reducible refine CA.drew ?_) | (with_reducible refine CA.alloc ?_ _)))) ((go_at_call 23; refine HSH.out.mono ?_; rintro e w' ⟨rfl, rfl⟩))
         cases htk : tk
         ·have HF : Hid (fewB S = false) := HBJ.out htk
          go_wp2
          go_ret
          exact ⟨by rw [HRES.out, HF.out]; rfl, (ba hBW _).drew⟩
         ·have HX : Hid ((qs.take (j + 1)).all tszB = true) := by rw [Hid, HTJ.out, HJ.out, htk]; rfl
          go_wp2
          go_roundw
          case rel => exact ⟨j + 1, by omega, by go_num, HX, (ba hbs _).drew⟩
          case measure => simp [intOf]; omega
        ·have HE4 : Hid (qs.all tszB = true) := all_end tszB qs j (by rw [← HN4.out]; omega) HJ.out
         have HX : Hid ((S.eqs.take (k + 1)).all eszB = true) := by rw [Hid, HT.out, HA.out, HQ.out, HY.out, HV9.out, HE4.out]; rfl
         go_wp2
         go_roundw
         case rel => exact ⟨k + 1, by omega, by go_num, HX, bt hbr hbs⟩
         case measure => simp [intOf]; omega
      ·have HE : Hid (S.eqs.all eszB = true) := all_end eszB S.eqs k (by rw [← HN3.out]; omega) HA.out
       have HF : Hid (fewB S = true) := by unfold Hid fewB; rw [HG.out, HV.out, HE.out, HL1.out, HL2.out, HL3.out]; rfl
       have hPc0 := hP.cell 0
       have hPf0 := hP.free 0
       have hPc1 := hP.cell 1
       have hPf1 := hP.free 1
       have hPc2 := hP.cell 2
       have hPf2 := hP.free 2
       go_wp2
       go_ret
       exact ⟨by rw [HRES.out, HF.out]; rfl, hBW⟩
end Go.Proofs.YtbcgimgkcdpjcaaGreat
end

section
namespace Go.Proofs.YtbcgimgkcdpjcaaGreat
open Go.RowKit Go.Shelf

def rszB (x : Bool × ByteArray) : Bool := decide (x.2.size ≤ 40)
/-- the sizes of a proof -/
def prfB (F : List ByteArray) (ch : ByteArray) (R : List (Bool × ByteArray)) : Bool := decide (F.length ≤ 9) && decide (R.length ≤ 9) && shB 9 F && decide (ch.size ≤ 16) && R.all rszB

/-- sizes of a proof that Go can hold -/
structure PSz (F : List ByteArray) (ch : ByteArray) (R : List (Bool × ByteArray)) : Prop where
 n : F.length ≤ 9223372036854775807
 f : ∀ x ∈ F, x.size ≤ 9223372036854775807
 c : ch.size ≤ 9223372036854775807
 r : ∀ x ∈ R, x.2.size ≤ 9223372036854775807

theorem shortF_c (n : Nat) (z : Int) (D : List ByteArray) (v : Value) (r : Bool) (w : World) (hz : z = (n : Int)) (hn : n ≤ 1000) (hl : D.length ≤ 9223372036854775807) (hs : ∀ s ∈ D, s.size ≤ 9223372036854775807) (hr : shB n D = r) (hD : SsAt w v D) :
  Calls Tryz.prog 23 #[.int .i64 z, v] w fun e w' => e = .returned (.bool r) ∧ w' = w := by
 subst hz; subst hr
 exact short_c n D v w hn hl hs hD

theorem short1g_c (n : Nat) (z : Int) (s : ByteArray) (r : Bool) (g : Nat) (w : World) (hz : z = (n : Int)) (hn : n ≤ 1000) (hs : s.size ≤ 9223372036854775807) (hr : decide (s.size ≤ n) = r) (hB : Blk w g 22 [.string s]) :
  Calls Tryz.prog 23 #[.int .i64 z, .slice (some ⟨g, 0, none⟩) 1 1] w fun e w' => e = .returned (.bool r) ∧ w' = w := by
 subst hz; subst hr
 refine (short_c n [s] _ _ hn (by simp) (by simpa using hs) (row1 hB rfl)).mono ?_
 rintro e w' ⟨rfl, h⟩
 exact ⟨by simp [shB], h⟩

set_option maxHeartbeats 8000000 in
theorem fewC_c (S : Sta) (C K cha chb : ByteArray) (FA FB : List ByteArray) (RA RB : List (Bool × ByteArray)) (s1 s2 s3 xa ya xb yb : Option Addr) (m1 m2 m3 d1 d2 d3 na pa ma qa nb pb mb qb : Nat) (w : World)
  (hC : C.size ≤ 9223372036854775807) (hK : K.size ≤ 9223372036854775807) (hz : SSz S) (hS : StAt w (.slice s1 m1 d1) (.slice s2 m2 d2) (.slice s3 m3 d3) S)
  (hpa : PSz FA cha RA) (hFa : SsAt w (.slice xa na pa) FA) (hRa : IsAt w (.slice ya ma qa) RA)
  (hpb : PSz FB chb RB) (hFb : SsAt w (.slice xb nb pb) FB) (hRb : IsAt w (.slice yb mb qb) RB) :
  Calls Tryz.prog 8 #[.agg #[.string C, .string K, .slice s1 m1 d1, .slice s2 m2 d2, .slice s3 m3 d3, .slice xa na pa, .string cha, .slice ya ma qa, .slice xb nb pb, .string chb, .slice yb mb qb]] w fun e w' =>
   e = .returned (.bool (prfB FA cha RA && prfB FB chb RB && fewB S && (decide (C.size ≤ 8) && decide (K.size ≤ 8)))) ∧ Below w.heap.size w w' := by
 obtain ⟨r, hr⟩ : ∃ r : Bool, r = (prfB FA cha RA && prfB FB chb RB && fewB S && (decide (C.size ≤ 8) && decide (K.size ≤ 8))) := ⟨_, rfl⟩
 have HRES := Lib.hid hr
 rw [← hr]
 clear hr
 have HCZ := Lib.hid hC
 have HKZ := Lib.hid hK
 have HSZ := Lib.hid hz
 have HPA := Lib.hid hpa
 have HPB := Lib.hid hpb
 clear hC hK hz hpa hpb
 have hP := Blk.new w #[.string C, .string K, .slice s1 m1 d1, .slice s2 m2 d2, .slice s3 m3 d3, .slice xa na pa, .string cha, .slice ya ma qa, .slice xb nb pb, .string chb, .slice yb mb qb] 35
 have hBW := b1 w (.cells #[.string C, .string K, .slice s1 m1 d1, .slice s2 m2 d2, .slice s3 m3 d3, .slice xa na pa, .string cha, .slice ya ma qa, .slice xb nb pb, .string chb, .slice yb mb qb] 35)
 replace hS := hS.after hBW
 replace hFa := SsAt.after hFa hBW
 replace hFb := SsAt.after hFb hBW
 replace hRa := IsAt.after hRa hBW
 replace hRb := IsAt.after hRb hBW
 have hPc0 := hP.cell 0
 have hPf0 := hP.free 0
 have hPc1 := hP.cell 1
 have hPf1 := hP.free 1
 have hPc2 := hP.cell 2
 have hPf2 := hP.free 2
 have hPc3 := hP.cell 3
 have hPf3 := hP.free 3
 have hPc4 := hP.cell 4
 have hPf4 := hP.free 4
 have hPc5 := hP.cell 5
 have hPf5 := hP.free 5
 have hPc6 := hP.cell 6
 have hPf6 := hP.free 6
 have hPc7 := hP.cell 7
 have hPf7 := hP.free 7
 have hPc8 := hP.cell 8
 have hPf8 := hP.free 8
 have hPc9 := hP.cell 9
 have hPf9 := hP.free 9
 have hPc10 := hP.cell 10
 have hPf10 := hP.free 10
 go_enter Tryz.func8, Tryz.ntmps8
 go_wp2
 clear hPc0 hPf0 hPc1 hPf1 hPc2 hPf2 hPc3 hPf3 hPc4 hPf4 hPc5 hPf5 hPc6 hPf6 hPc7 hPf7 hPc8 hPf8 hPc9 hPf9 hPc10 hPf10
 obtain ⟨gp, hgp⟩ : ∃ g, w.heap.size = g := ⟨_, rfl⟩
 have HGP := Lib.hid hgp
 replace hP : Blk (w.alloc (.cells #[.string C, .string K, .slice s1 m1 d1, .slice s2 m2 d2, .slice s3 m3 d3, .slice xa na pa, .string cha, .slice ya ma qa, .slice xb nb pb, .string chb, .slice yb mb qb] 35)) w.heap.size 35 [.string C, .string K, .slice s1 m1 d1, .slice s2 m2 d2, .slice s3 m3 d3, .slice xa na pa, .string cha, .slice ya ma qa, .slice xb nb pb, .string chb, .slice yb mb qb] := hP
 have hsz : (w.alloc (.cells #[.string C, .string K, .slice s1 m1 d1, .slice s2 m2 d2, .slice s3 m3 d3, .slice xa na pa, .string cha, .slice ya ma qa, .slice xb nb pb, .string chb, .slice yb mb qb] 35)).heap.size = w.heap.size + 1 := Array.size_push _
 generalize w.alloc (.cells #[.string C, .string K, .slice s1 m1 d1, .slice s2 m2 d2, .slice s3 m3 d3, .slice xa na pa, .string cha, .slice ya ma qa, .slice xb nb pb, .string chb, .slice yb mb qb] 35) = w0 at hP hBW hS hFa hFb hRa hRb hsz ⊢
 rw [hgp] at hP
 have hA := Blk.new w0 #[.slice xa na pa, .string cha, .slice ya ma qa, .slice xb nb pb, .string chb, .slice yb mb qb] 33
 have hb0 := b1 w0 (.cells #[.slice xa na pa, .string cha, .slice ya ma qa, .slice xb nb pb, .string chb, .slice yb mb qb] 33)
 replace hP := hP.after hb0
 replace hBW := bt hBW hb0
 replace hS := hS.after hb0
 replace hFa := SsAt.after hFa hb0
 replace hFb := SsAt.after hFb hb0
 replace hRa := IsAt.after hRa hb0
 replace hRb := IsAt.after hRb hb0
 clear hb0
 generalize w0.alloc (.cells #[.slice xa na pa, .string cha, .slice ya ma qa, .slice xb nb pb, .string chb, .slice yb mb qb] 33) = w1 at hA hP hBW hS hFa hFb hRa hRb ⊢
 rw [hsz, hgp] at hA
 rw [hgp]
 clear hgp hsz
 obtain ⟨ga, hga⟩ : ∃ g, gp + 1 = g := ⟨_, rfl⟩
 rw [hga] at hA ⊢
 clear hga
 go_loopw [12] (fun i wr => ∃ k : Nat, k ≤ 2 ∧ i = .int .i64 k ∧ Hid ((0 < k → prfB FA cha RA = true) ∧ (1 < k → prfB FB chb RB = true)) ∧ Below w1.heap.size w1 wr) (fun i _ => 2 - (intOf i).toNat)
 case atStart => exact ⟨0, by omega, rfl, ⟨fun h => absurd h (Nat.lt_irrefl _), fun h => absurd h (by omega)⟩, Below.refl _ _⟩
 case round =>
  obtain ⟨k, hk, rfl, HA, hbr⟩ := hrel
  obtain ⟨wp, hwp⟩ : ∃ wp, wp = wr := ⟨_, rfl⟩
  subst hwp
  replace hA := hA.after hbr
  replace hP := hP.after hbr
  replace hBW := bt hBW hbr
  replace hS := hS.after hbr
  by_cases hlt : k < 2
  ·have HX : ∃ (xo yo : Option Addr) (nn cc mm qq : Nat) (ch : ByteArray) (F : List ByteArray) (R : List (Bool × ByteArray)), wp.cell? ⟨ga, k * 3, none⟩ = some (.slice xo nn cc) ∧ wp.cell? ⟨ga, k * 3 + 1, none⟩ = some (.string ch) ∧ wp.cell? ⟨ga, k * 3 + 2, none⟩ = some (.slice yo mm qq) ∧
     SsAt wp (.slice xo nn cc) F ∧ IsAt wp (.slice yo mm qq) R ∧ PSz F ch R ∧ (prfB F ch R = false → r = false) ∧ (prfB F ch R = true → ((0 < k + 1 → prfB FA cha RA = true) ∧ (1 < k + 1 → prfB FB chb RB = true))) := by
    obtain rfl | rfl : k = 0 ∨ k = 1 := by omega
    ·refine ⟨xa, ya, na, pa, ma, qa, cha, FA, RA, hA.cell 0, hA.cell 1, hA.cell 2, SsAt.after hFa hbr, IsAt.after hRa hbr, HPA.out, fun h => ?_, fun h => ⟨fun _ => h, fun h => absurd h (by omega)⟩⟩
     rw [HRES.out, h]; rfl
    ·refine ⟨xb, yb, nb, pb, mb, qb, chb, FB, RB, hA.cell 3, hA.cell 4, hA.cell 5, SsAt.after hFb hbr, IsAt.after hRb hbr, HPB.out, fun h => ?_, fun h => ⟨fun _ => HA.out.1 (by omega), fun _ => h⟩⟩
     rw [HRES.out, h]; simp
   obtain ⟨xo, yo, nn, cc, mm, qq, ch, F, R, x1, x2, x3, hF, hR, hpz, hbad, hgood⟩ := HX
   have HBAD := Lib.hid hbad
   have HGOOD := Lib.hid hgood
   have HPZ := Lib.hid hpz
   clear hbad hgood hpz
   obtain ⟨xo', xc', hxe⟩ := RAt.form hF
   obtain ⟨yo', yc', hye⟩ := RAt.form hR
   injection hxe with e1 e2 e3
   injection hye with e4 e5 e6
   have HN := Lib.hid e2
   have HM := Lib.hid e5
   clear e1 e2 e3 e4 e5 e6 xo' xc' yo' yc'
   have h0k : (0 : Int) ≤ (k : Int) := by omega
   have h1k : (k : Int) < 2 := by omega
   have HPQ : Hid (prfB F ch R = (decide (F.length ≤ 9) && decide (R.length ≤ 9) && shB 9 F && decide (ch.size ≤ 16) && R.all rszB)) := rfl
   generalize prfB F ch R = pk at HBAD HGOOD HPQ
   by_cases g1 : 9 < nn
   ·have e1 : decide ((9 : Int) < (nn : Int)) = true := decide_eq_true (by omega)
    have HF : Hid (r = false) := HBAD.out (by rw [HPQ.out, ← HN.out, decide_eq_false (show ¬ nn ≤ 9 by omega)]; rfl)
    clear g1
    go_wp2
    go_ret
    exact ⟨by rw [HF.out]; rfl, ba hBW _⟩
   have e1 : decide ((9 : Int) < (nn : Int)) = false := decide_eq_false (by omega)
   by_cases g2 : 9 < mm
   ·have e2 : decide ((9 : Int) < (mm : Int)) = true := decide_eq_true (by omega)
    have HF : Hid (r = false) := HBAD.out (by rw [HPQ.out, ← HM.out, decide_eq_false (show ¬ mm ≤ 9 by omega)]; simp)
    clear g1 g2
    go_wp2
    go_ret
    exact ⟨by rw [HF.out]; rfl, ba hBW _⟩
   have e2 : decide ((9 : Int) < (mm : Int)) = false := decide_eq_false (by omega)
   have HY1 : Hid (decide (F.length ≤ 9) = true) := decide_eq_true (by have := HN.out; omega)
   have HY2 : Hid (decide (R.length ≤ 9) = true) := decide_eq_true (by have := HM.out; omega)
   have lm : mm ≤ 9 := by omega
   clear g1 g2
   replace hF := SsAt.after hF (b1 _ (.cells #[.slice xo nn cc, .string ch, .slice yo mm qq] 33))
   replace hR := IsAt.after hR (b1 _ (.cells #[.slice xo nn cc, .string ch, .slice yo mm qq] 33))
   have hQ := Blk.new wp #[.slice xo nn cc, .string ch, .slice yo mm qq] 33
   cases hsh : shB 9 F
   ·have HF : Hid (r = false) := HBAD.out (by rw [HPQ.out, hsh]; simp)
    clear lm
    go_wp2_with fail
    refine (shortF_c 9 9 F _ false _ rfl (by decide) HPZ.out.n HPZ.out.f hsh hF).mono ?_
    rintro e w' ⟨rfl, rfl⟩
    go_wp2
    go_ret
    exact ⟨by rw [HF.out]; rfl, ba hBW _⟩
   have HSH := Lib.hid hsh
   clear hsh
   cases hch : decide (ch.size ≤ 16)
   ·have HF : Hid (r = false) := HBAD.out (by rw [HPQ.out, hch]; simp)
    clear lm
    go_wp2_with fail
    refine (shortF_c 9 9 F _ true _ rfl (by decide) HPZ.out.n HPZ.out.f HSH.out hF).mono ?_
    rintro e w' ⟨rfl, rfl⟩
    go_wp2_with fail
    refine (short1g_c 16 16 ch false _ _ rfl (by decide) HPZ.out.c hch (blk2b wp #[.slice xo nn cc, .string ch, .slice yo mm qq] #[.string ch] 33 22)).mono ?_
    rintro e w' ⟨rfl, rfl⟩
    go_wp2
    go_ret
    exact ⟨by rw [HF.out]; rfl, ba (ba hBW _) _⟩
   have HCH := Lib.hid hch
   clear hch
   have hQc0 := hQ.cell 0
   have hQf0 := hQ.free 0
   have hQc1 := hQ.cell 1
   have hQf1 := hQ.free 1
   have hQc2 := hQ.cell 2
   have hQf2 := hQ.free 2
   go_wp2_with fail
   refine (shortF_c 9 9 F _ true _ rfl (by decide) HPZ.out.n HPZ.out.f HSH.out hF).mono ?_
   rintro e w' ⟨rfl, rfl⟩
   go_wp2_with fail
   refine (short1g_c 16 16 ch true _ _ rfl (by decide) HPZ.out.c HCH.out (blk2b wp #[.slice xo nn cc, .string ch, .slice yo mm qq] #[.string ch] 33 22)).mono ?_
   rintro e w' ⟨rfl, rfl⟩
   go_wp2
   clear hQc0 hQf0 hQc1 hQf1 hQc2 hQf2
   replace hQ := hQ.alloc (.cells #[.string ch] 22)
   replace hR := IsAt.after hR (b1 _ (.cells #[.string ch] 22))
   replace hBW := ba (ba hBW (.cells #[.slice xo nn cc, .string ch, .slice yo mm qq] 33)) (.cells #[.string ch] 22)
   replace hbr := ba (ba hbr (.cells #[.slice xo nn cc, .string ch, .slice yo mm qq] 33)) (.cells #[.string ch] 22)
   replace hQ : Blk ((wp.alloc (.cells #[.slice xo nn cc, .string ch, .slice yo mm qq] 33)).alloc (.cells #[.string ch] 22)) wp.heap.size 33 [.slice xo nn cc, .string ch, .slice yo mm qq] := hQ
   generalize (wp.alloc (.cells #[.slice xo nn cc, .string ch, .slice yo mm qq] 33)).alloc (.cells #[.string ch] 22) = wu at hQ hR hBW hbr ⊢
   obtain ⟨g8, hg8⟩ : ∃ g, wp.heap.size = g := ⟨_, rfl⟩
   rw [hg8] at hQ ⊢
   clear hg8 hA hP hS hF x1 x2 x3 e1 e2
   go_loopw [5] (fun i wr => ∃ j : Nat, j ≤ mm ∧ i = .int .i64 j ∧ Hid ((R.take j).all rszB = true) ∧ Below wu.heap.size wu wr) (fun i _ => mm - (intOf i).toNat)
   case atStart => exact ⟨0, by omega, rfl, rfl, Below.refl _ _⟩
   case round =>
    obtain ⟨j, hj, rfl, HJ, hbs⟩ := hrel
    obtain ⟨wv, hwv⟩ : ∃ wv, wv = wr := ⟨_, rfl⟩
    subst hwv
    replace hQ := hQ.after hbs
    replace hR := IsAt.after hR hbs
    replace hBW := bt hBW hbs
    have hQc := hQ.cell 2
    by_cases hltj : j < mm
    ·have hjl : j < R.length := by rw [← HM.out]; exact hltj
     have HSJ := Lib.hid (HPZ.out.r _ (List.getElem_mem hjl))
     have HTJ := Lib.hid (all_take rszB R j hjl)
     have HBJ : Hid (rszB R[j] = false → r = false) := fun h => HBAD.out (by rw [HPQ.out, all_bad rszB R j hjl h]; simp)
     obtain ⟨b4, o4, rfl, hbl4, y1, y2⟩ := IsAt.at_ hR hjl
     generalize R[j]'hjl = t at y1 y2 HSJ HTJ HBJ
     obtain ⟨tn, ta⟩ := t
     simp only [] at y1 y2
     have h0j : (0 : Int) ≤ (j : Int) := by omega
     have h1j : (j : Int) < (mm : Int) := by omega
     have HTK : Hid (rszB (tn, ta) = decide (ta.size ≤ 40)) := rfl
     generalize rszB (tn, ta) = tk at HTJ HBJ HTK
     cases htk : tk
     ·have HF : Hid (r = false) := HBJ.out htk
      go_wp2_with fail
      refine (short1g_c 40 40 ta false _ _ rfl (by decide) HSJ.out (by rw [← HTK.out]; exact htk) (Blk.new wv #[.string ta] 22)).mono ?_
      rintro e w' ⟨rfl, rfl⟩
      go_wp2
      go_ret
      exact ⟨by rw [HF.out]; rfl, ba hBW _⟩
     ·have HX : Hid ((R.take (j + 1)).all rszB = true) := by rw [Hid, HTJ.out, HJ.out, htk]; rfl
      go_wp2_with fail
      refine (short1g_c 40 40 ta true _ _ rfl (by decide) HSJ.out (by rw [← HTK.out]; exact htk) (Blk.new wv #[.string ta] 22)).mono ?_
      rintro e w' ⟨rfl, rfl⟩
      go_wp2
      go_roundw
      case rel => exact ⟨j + 1, by omega, by go_num, HX, ba hbs _⟩
      case measure => simp [intOf]; omega
    ·have HE4 : Hid (R.all rszB = true) := all_end rszB R j (by rw [← HM.out]; omega) HJ.out
     have HX : Hid ((0 < k + 1 → prfB FA cha RA = true) ∧ (1 < k + 1 → prfB FB chb RB = true)) := HGOOD.out (by rw [HPQ.out, HY1.out, HY2.out, HSH.out, HCH.out, HE4.out]; rfl)
     go_wp2
     go_roundw
     case rel => exact ⟨k + 1, by omega, by go_num, HX, bt hbr hbs⟩
     case measure => simp [intOf]; omega
  ·obtain rfl : k = 2 := by omega
   have HR2 : Hid (r = (fewB S && (decide (C.size ≤ 8) && decide (K.size ≤ 8)))) := by rw [Hid, HRES.out, HA.out.1 (by omega), HA.out.2 (by omega)]; rfl
   clear hlt hk HA
   have hPc0 := hP.cell 0
   have hPf0 := hP.free 0
   have hPc1 := hP.cell 1
   have hPf1 := hP.free 1
   have hPc2 := hP.cell 2
   have hPf2 := hP.free 2
   have hPc3 := hP.cell 3
   have hPf3 := hP.free 3
   have hPc4 := hP.cell 4
   have hPf4 := hP.free 4
   have hPc5 := hP.cell 5
   have hPf5 := hP.free 5
   have hPc6 := hP.cell 6
   have hPf6 := hP.free 6
   have hPc7 := hP.cell 7
   have hPf7 := hP.free 7
   have hPc8 := hP.cell 8
   have hPf8 := hP.free 8
   have hPc9 := hP.cell 9
   have hPf9 := hP.free 9
   have hPc10 := hP.cell 10
   have hPf10 := hP.free 10
   cases hfw : fewB S
   ·have HF : Hid (r = false) := by rw [Hid, HR2.out, hfw]; rfl
    go_wp2_with fail
    refine (fewS_c S _ _ _ _ HSZ.out hS).mono ?_
    rintro e w7 ⟨rfl, hb7⟩
    rw [hfw]
    go_wp2
    go_ret
    exact ⟨by rw [HF.out]; rfl, bt hBW hb7⟩
   ·go_wp2_with fail
    refine (fewS_c S _ _ _ _ HSZ.out hS).mono ?_
    rintro e w7 ⟨rfl, hb7⟩
    rw [hfw]
    clear hPc0 hPf0 hPc1 hPf1 hPc2 hPf2 hPc3 hPf3 hPc4 hPf4 hPc5 hPf5 hPc6 hPf6 hPc7 hPf7 hPc8 hPf8 hPc9 hPf9 hPc10 hPf10
    replace hP := hP.after hb7
    have hPc0 := hP.cell 0
    have hPf0 := hP.free 0
    have hPc1 := hP.cell 1
    have hPf1 := hP.free 1
    have hPc2 := hP.cell 2
    have hPf2 := hP.free 2
    have hPc3 := hP.cell 3
    have hPf3 := hP.free 3
    have hPc4 := hP.cell 4
    have hPf4 := hP.free 4
    have hPc5 := hP.cell 5
    have hPf5 := hP.free 5
    have hPc6 := hP.cell 6
    have hPf6 := hP.free 6
    have hPc7 := hP.cell 7
    have hPf7 := hP.free 7
    have hPc8 := hP.cell 8
    have hPf8 := hP.free 8
    have hPc9 := hP.cell 9
    have hPf9 := hP.free 9
    have hPc10 := hP.cell 10
    have hPf10 := hP.free 10
    obtain ⟨z, hz⟩ : ∃ z, z = (decide (C.size ≤ 8) && decide (K.size ≤ 8)) := ⟨_, rfl⟩
    have HZ := Lib.hid hz
    clear hz
    go_wp2_with fail
    refine (short2_c 8 8 C K z _ _ rfl (by decide) HCZ.out HKZ.out HZ.out.symm (Blk.new w7 #[.string C, .string K] 22)).mono ?_
    rintro e w' ⟨rfl, rfl⟩
    go_wp2
    go_ret
    exact ⟨by rw [HR2.out, hfw, ← HZ.out]; rfl, ba (bt hBW hb7) _⟩
end Go.Proofs.YtbcgimgkcdpjcaaGreat
end

section
namespace Go.Proofs.YtbcgimgkcdpjcaaGreat
open Go.RowKit Go.Shelf

/-- what the functions of the examples return, with letters for the numbers -/
def HOf (z : Int) (k : ByteArray) : Prop := ∀ w, Calls Tryz.prog 25 #[.int .u64 z] w fun e w' => e = .returned (.string k) ∧ Below w.heap.size w w'
def HIof (z : Int) (k : ByteArray) : Prop := ∀ w, Calls Tryz.prog 28 #[.int .i64 z] w fun e w' => e = .returned (.agg #[.bool false, .string k]) ∧ Below w.heap.size w w'
def HEx (t : Int) (N : NSta) : Prop := ∀ w, Calls Tryz.prog 26 #[.int .u64 t] w fun e w' => ∃ a1 a2 a3 n1 n2 n3 c1 c2 c3, e = .returned (.agg #[.slice a1 n1 c1, .slice a2 n2 c2, .slice a3 n3 c3]) ∧ NAt w' (.slice a1 n1 c1) (.slice a2 n2 c2) (.slice a3 n3 c3) N ∧ Below w.heap.size w w'
def HPr (f c r : Int) (k : ByteArray) (F : List ByteArray) (Z : List Int) : Prop := ∀ w, Calls Tryz.prog 27 #[.int .u64 f, .int .u64 c, .int .i64 r] w fun e w' => ∃ a b n m c d, e = .returned (.agg #[.slice a n c, .string k, .slice b m d]) ∧ SsAt w' (.slice a n c) F ∧ ZsAt w' (.slice b m d) Z ∧ Below w.heap.size w w'
def HDf (k3 k2 ka kb kc kz : ByteArray) (N : NSta) (F : List ByteArray) (X Y : List Int) : Prop := ∀ (w : World) (s1 s2 s3 xa ya xb yb : Option Addr) (m1 m2 m3 d1 d2 d3 na pa ma qa nb pb mb qb : Nat), NAt w (.slice s1 m1 d1) (.slice s2 m2 d2) (.slice s3 m3 d3) N → SsAt w (.slice xa na pa) F → SsAt w (.slice xb nb pb) F → ZsAt w (.slice ya ma qa) X → ZsAt w (.slice yb mb qb) Y →
 Calls Tryz.prog 10 #[.agg #[.string k3, .string k2], .agg #[.slice s1 m1 d1, .slice s2 m2 d2, .slice s3 m3 d3], .agg #[.slice xa na pa, .string ka, .slice ya ma qa], .agg #[.slice xb nb pb, .string kb, .slice yb mb qb]] w fun e w' => ∃ b o c, e = .returned (.tuple #[.agg #[.bool false, .string kc], .slice (some ⟨b, o, none⟩) 1 c, .int .i64 0]) ∧ w.heap.size ≤ b ∧ CA w' [(⟨b, o, none⟩, .bool false), (⟨b, o + 1, none⟩, .string kz)] ∧ Below w.heap.size w w'
def HXt (k3 k2 ka kb kz : ByteArray) (N : NSta) (F : List ByteArray) (X Y : List Int) : Prop := ∀ (w : World) (s1 s2 s3 xa ya xb yb : Option Addr) (m1 m2 m3 d1 d2 d3 na pa ma qa nb pb mb qb : Nat), NAt w (.slice s1 m1 d1) (.slice s2 m2 d2) (.slice s3 m3 d3) N → SsAt w (.slice xa na pa) F → SsAt w (.slice xb nb pb) F → ZsAt w (.slice ya ma qa) X → ZsAt w (.slice yb mb qb) Y →
 Calls Tryz.prog 13 #[.agg #[.string k3, .string k2], .agg #[.slice s1 m1 d1, .slice s2 m2 d2, .slice s3 m3 d3], .agg #[.slice xa na pa, .string ka, .slice ya ma qa], .agg #[.slice xb nb pb, .string kb, .slice yb mb qb]] w fun e w' => ∃ b o c, e = .returned (.tuple #[.slice (some ⟨b, o, none⟩) 1 c, .int .i64 0]) ∧ CA w' [(⟨b, o, none⟩, .bool false), (⟨b, o + 1, none⟩, .string kz)] ∧ Below w.heap.size w w'
def HXn (k3 k2 ka kb : ByteArray) (N : NSta) (F : List ByteArray) (X Y : List Int) : Prop := ∀ (w : World) (s1 s2 s3 xa ya xb yb : Option Addr) (m1 m2 m3 d1 d2 d3 na pa ma qa nb pb mb qb : Nat), NAt w (.slice s1 m1 d1) (.slice s2 m2 d2) (.slice s3 m3 d3) N → SsAt w (.slice xa na pa) F → SsAt w (.slice xb nb pb) F → ZsAt w (.slice ya ma qa) X → ZsAt w (.slice yb mb qb) Y →
 Calls Tryz.prog 13 #[.agg #[.string k3, .string k2], .agg #[.slice s1 m1 d1, .slice s2 m2 d2, .slice s3 m3 d3], .agg #[.slice xa na pa, .string ka, .slice ya ma qa], .agg #[.slice xb nb pb, .string kb, .slice yb mb qb]] w fun e w' => e = .returned (.tuple #[.slice none 0 0, .int .i64 17]) ∧ Below w.heap.size w w'

theorem CA.ne {w : World} {l : List (Addr × Value)} (h : CA w l) : ∀ x ∈ l, x.1.block ≠ w.heap.size := fun x hx => Nat.ne_of_lt (h x hx).1

/-- what the first examples leave -/
def A1Box (w : World) (k2 k4 : ByteArray) (s2 s3 s4 : Value) (wx : World) : Prop := ∃ g b o c, s2 = .pointer (some ⟨g, 0, none⟩) ∧ s3 = .slice (some ⟨b, o, none⟩) 1 c ∧ s4 = .int .i64 0 ∧ CA wx [(⟨g, 0, none⟩, .bool false), (⟨g, 1, none⟩, .string k2), (⟨b, o, none⟩, .bool false), (⟨b, o + 1, none⟩, .string k4)] ∧ Below w.heap.size w wx

theorem a1_new {w wd : World} {k2 k4 : ByteArray} {b o c : Nat} (hZ : CA wd [(⟨b, o, none⟩, .bool false), (⟨b, o + 1, none⟩, .string k4)]) (hB : Below w.heap.size w wd) :
  A1Box w k2 k4 (.pointer (some ⟨wd.heap.size, 0, none⟩)) (.slice (some ⟨b, o, none⟩) 1 c) (.int .i64 0) (wd.alloc (.cells #[.bool false, .string k2] 39)) := by
 have hn := Blk.new wd #[.bool false, .string k2] 39
 have hz := hZ.alloc (.cells #[.bool false, .string k2] 39)
 exact ⟨_, b, o, c, rfl, rfl, rfl, CA.cons hn.lt (hn.cell 0) (CA.cons hn.lt (hn.cell 1) hz), ba hB _⟩
theorem a1_set {w wd : World} {k2 k4 : ByteArray} {b o c x : Nat} (hZ : CA wd [(⟨b, o, none⟩, .bool false), (⟨b, o + 1, none⟩, .string k4)]) (hB : Below w.heap.size w wd) (hx : w.heap.size ≤ x) (kD : Blk wd x 39 [.bool false, .string { data := #[] }]) (hne : b ≠ x) :
  A1Box w k2 k4 (.pointer (some ⟨x, 0, none⟩)) (.slice (some ⟨b, o, none⟩) 1 c) (.int .i64 0) ((wd.setCell ⟨x, 0, none⟩ (.bool false)).setCell ⟨x, 1, none⟩ (.string k2)) := by
 have hn := (kD.set 0 (.bool false)).set 1 (.string k2)
 have hz := (hZ.set x 0 (.bool false) (by simp [hne])).set x 1 (.string k2) (by simp [hne])
 exact ⟨x, b, o, c, rfl, rfl, rfl, CA.cons hn.lt (hn.cell 0) (CA.cons hn.lt (hn.cell 1) hz), (hB.setCell hx _).setCell hx _⟩

set_option maxHeartbeats 8000000 in
theorem awake_l (k0 k2 k3 k4 : ByteArray) (N1 N2 N3 : NSta) (F1 F2 : List ByteArray) (U0 U5 V0 V2 V1 : List Int) (w : World)
  (h3 : HOf 3 k3) (h2 : HOf 2 k2) (i2 : HIof 2 k2) (i4 : HIof 4 k4) (e1 : HEx 16 N1) (e2 : HEx 73 N2) (e3 : HEx 2 N3)
  (p0 : HPr 4 0 1 k0 F1 U0) (p5 : HPr 4 2 5 k2 F1 U5) (pa : HPr 1 0 0 k0 F2 V0) (pb : HPr 1 2 2 k2 F2 V2) (pc : HPr 1 2 1 k2 F2 V1)
  (d1 : HDf k3 k2 k0 k2 k2 k4 N1 F1 U0 U5) (x1 : HXt k3 k2 k2 k0 k2 N1 F1 U5 U0) (x2 : HXn k3 k2 k0 k2 N2 F2 V0 V2) (x3 : HXn k3 k2 k0 k2 N3 F2 V0 V1) :
  Calls Tryz.prog 9 #[] w fun e w' => e = .returned (.bool true) ∧ Below w.heap.size w w' := by
 unfold HOf at h3 h2
 unfold HIof at i2 i4
 unfold HEx at e1 e2 e3
 unfold HPr at p0 p5 pa pb pc
 unfold HDf at d1
 unfold HXt at x1
 unfold HXn at x2 x3
 have H3 := Lib.hid h3
 have H2 := Lib.hid h2
 have I2 := Lib.hid i2
 have I4 := Lib.hid i4
 have HE1 := Lib.hid e1
 have HE2 := Lib.hid e2
 have HE3 := Lib.hid e3
 have HP0 := Lib.hid p0
 have HP5 := Lib.hid p5
 have HPa := Lib.hid pa
 have HPb := Lib.hid pb
 have HPc := Lib.hid pc
 have HD1 := Lib.hid d1
 have HX1 := Lib.hid x1
 have HX2 := Lib.hid x2
 have HX3 := Lib.hid x3
 clear h3 h2 i2 i4 e1 e2 e3 p0 p5 pa pb pc d1 x1 x2 x3
 go_enter Tryz.func9, Tryz.ntmps9
 go_wp2_with fail
 refine (H3.out _).mono ?_
 rintro e wa ⟨rfl, hba⟩
 go_wp2_with fail
 refine (H2.out _).mono ?_
 rintro e wb ⟨rfl, hbb⟩
 have hBW := bt hba hbb
 clear hba hbb
 go_upto_region 2 with fail
 have hR := Blk.new wb #[.string k3, .string k2] 24
 replace hBW := ba hBW (.cells #[.string k3, .string k2] 24)
 generalize wb.alloc (.cells #[.string k3, .string k2] 24) = wA at hR hBW
 obtain ⟨g, hg⟩ : ∃ g, wb.heap.size = g := ⟨_, rfl⟩
 rw [hg] at hR ⊢
 clear hg H3 H2
 have hC : CA wA [(⟨g, 0, none⟩, .string k3), (⟨g, 1, none⟩, .string k2)] := CA.cons hR.lt (hR.cell 0) (CA.cons hR.lt (hR.cell 1) (CA.nil _))
 clear hR
 go_cut [2, 3, 4] (fun s2 s3 s4 wx => A1Box wA k2 k4 s2 s3 s4 wx)
 case first =>
  clear hBW
  go_region_held3 (fun w' => w'.cell? ⟨g, 0, none⟩ = some (.string k3) ∧ w'.cell? ⟨g, 1, none⟩ = some (.string k2)) ((refine CA.k2 ?_; repeat (first | (with_reducible exact hCd) | (with_reducible exact hCq) | (with_reducible exact hCp) | (with_reducible exact hCe) | (with_reducible exact hC) | (with_reducible refine CA.drew ?_) | (with_reducible refine CA.alloc ?_ _) | (refine CA.set ?_ _ _ _ (by first | exact CA.ne hC | exact CA.ne hCe | exact CA.ne hCp | exact CA.ne hCq | exact CA.ne hCd)))))
   (first | (go_at_call 26; (with_reducible refine (HE1.out _).mono ?_); rintro e we ⟨a1, a2, a3, n1, n2, n3, c1, c2, c3, rfl, hSe, hbe⟩; have hCe : CA we [(⟨g, 0, none⟩, .string k3), (⟨g, 1, none⟩, .string k2)] := (by first | exact (hC.drew).after hbe | exact ((hC.alloc _).drew).after hbe | exact ((hC.drew).alloc _).after hbe); have hBe : Below wA.heap.size wA we := (by first | exact Below.trans (Below.drew (Below.refl wA.heap.size wA)) hbe | exact bt (b1 wA _).drew hbe); (try (have kA := (Blk.drew (Blk.new wA #[Value.bool false, Value.string { data := #[] }] 39)).after hbe))) | (go_at_call 27; (with_reducible refine (HP0.out _).mono ?_); rintro e wp ⟨a4, a5, n4, n5, c4, c5, rfl, hF1, hU1, hbp⟩; have hCp : CA wp [(⟨g, 0, none⟩, .string k3), (⟨g, 1, none⟩, .string k2)] := (by first | exact hCe.after hbp | exact (hCe.after (b1 _ _)).after hbp); have hSp : NAt wp (.slice a1 n1 c1) (.slice a2 n2 c2) (.slice a3 n3 c3) N1 := (by first | exact hSe.after hbp | exact (hSe.after (b1 _ _)).after hbp); have hBp : Below wA.heap.size wA wp := (by first | exact bt hBe hbp | exact bt (ba hBe _) hbp); (first | (have kB := kA.after hbp) | (have kB := (Blk.new we #[Value.bool false, Value.string { data := #[] }] 39).after hbp) | skip)) | (go_at_call 27; (with_reducible refine (HP5.out _).mono ?_); rintro e wq ⟨a6, a7, n6, n7, c6, c7, rfl, hF2, hU2, hbq⟩; have hCq : CA wq [(⟨g, 0, none⟩, .string k3), (⟨g, 1, none⟩, .string k2)] := (by first | exact hCp.after hbq | exact (hCp.after (b1 _ _)).after hbq); have hSq : NAt wq (.slice a1 n1 c1) (.slice a2 n2 c2) (.slice a3 n3 c3) N1 := (by first | exact hSp.after hbq | exact (hSp.after (b1 _ _)).after hbq); have hF1q : SsAt wq (.slice a4 n4 c4) F1 := (by first | exact SsAt.after hF1 hbq | exact SsAt.after (SsAt.after hF1 (b1 _ _)) hbq); have hU1q : ZsAt wq (.slice a5 n5 c5) U0 := (by first | exact ZsAt.after hU1 hbq | exact ZsAt.after (ZsAt.after hU1 (b1 _ _)) hbq); have hBq : Below wA.heap.size wA wq := (by first | exact bt hBp hbq | exact bt (ba hBp _) hbq); (first | (have kC := kB.after hbq) | (have kC := (Blk.new wp #[Value.bool false, Value.string { data := #[] }] 39).after hbq) | skip)) | (go_at_call 10; (first | (with_reducible refine (HD1.out _ _ _ _ _ _ _ _ _ _ _ _ _ _ _ _ _ _ _ _ _ _  hSq hF1q hF2 hU1q hU2).mono ?_) | (with_reducible refine (HD1.out _ _ _ _ _ _ _ _ _ _ _ _ _ _ _ _ _ _ _ _ _ _  (hSq.after (b1 _ _)) (SsAt.after hF1q (b1 _ _)) (SsAt.after hF2 (b1 _ _)) (ZsAt.after hU1q (b1 _ _)) (ZsAt.after hU2 (b1 _ _))).mono ?_)); rintro e wd ⟨b, o, c, rfl, hbge, hZd, hbd⟩; have hCd : CA wd [(⟨g, 0, none⟩, .string k3), (⟨g, 1, none⟩, .string k2)] := (by first | exact hCq.after hbd | exact (hCq.after (b1 _ _)).after hbd); have hBd : Below wA.heap.size wA wd := (by first | exact bt hBq hbd | exact bt (ba hBq _) hbd); (first | (have kD := kC.after hbd) | (have kD := (Blk.new wq #[Value.bool false, Value.string { data := #[] }] 39).after hbd) | skip); (first | (have kN := Nat.ne_of_gt (Nat.lt_of_lt_of_le kC.lt hbge)) | (have kN := Nat.ne_of_gt (Nat.lt_of_lt_of_le (Blk.lt (Blk.new wq #[Value.bool false, Value.string { data := #[] }] 39)) hbge)) | skip); (try (have kD0 := kD.cell 0; have kD1 := kD.cell 1; have kD2 := kD.free 0; have kD3 := kD.free 1))))
  all_goals
   go_wp2_with fail
   go_meet
   first
    | exact a1_new hZd hBd
    | exact a1_set hZd hBd hBq.size kD kN
    | exact a1_set hZd hBd hBp.size kD kN
    | exact a1_set hZd hBd hBe.size kD kN
    | exact a1_set hZd hBd (Nat.le_refl _) kD kN
 case rest =>
  obtain ⟨g2, b, o, c, rfl, rfl, rfl, hL, hbx⟩ := hcut
  obtain ⟨wx, hwx⟩ : ∃ wx, wx = wc := ⟨_, rfl⟩
  subst hwx
  replace hC := hC.after hbx
  replace hBW := bt hBW hbx
  clear hbx HD1
  go_wp2_with fail
  go_region_held3 (fun w' => w'.cell? ⟨g, 0, none⟩ = some (.string k3) ∧ w'.cell? ⟨g, 1, none⟩ = some (.string k2)) ((refine CA.k2 ?_; repeat (first | (with_reducible exact hCdx) | (with_reducible exact hCqx) | (with_reducible exact hCpx) | (with_reducible exact hCex) | (with_reducible exact hC) | (with_reducible refine CA.drew ?_) | (with_reducible refine CA.alloc ?_ _))))
   (first | (go_at_call 26; (with_reducible refine (HE1.out _).mono ?_); rintro e wex ⟨a1x, a2x, a3x, n1x, n2x, n3x, c1x, c2x, c3x, rfl, hSex, hbex⟩; have hCex : CA wex [(⟨g, 0, none⟩, .string k3), (⟨g, 1, none⟩, .string k2)] := (hC.drew).after hbex; have hBex : Below wx.heap.size wx wex := Below.trans (Below.drew (Below.refl wx.heap.size wx)) hbex) | (go_at_call 27; (with_reducible refine (HP5.out _).mono ?_); rintro e wpx ⟨a4x, a5x, n4x, n5x, c4x, c5x, rfl, hF1x, hU1x, hbpx⟩; have hCpx : CA wpx [(⟨g, 0, none⟩, .string k3), (⟨g, 1, none⟩, .string k2)] := hCex.after hbpx; have hSpx : NAt wpx (.slice a1x n1x c1x) (.slice a2x n2x c2x) (.slice a3x n3x c3x) N1 := hSex.after hbpx; have hBpx : Below wx.heap.size wx wpx := bt hBex hbpx) | (go_at_call 27; (with_reducible refine (HP0.out _).mono ?_); rintro e wqx ⟨a6x, a7x, n6x, n7x, c6x, c7x, rfl, hF2x, hU2x, hbqx⟩; have hCqx : CA wqx [(⟨g, 0, none⟩, .string k3), (⟨g, 1, none⟩, .string k2)] := hCpx.after hbqx; have hSqx : NAt wqx (.slice a1x n1x c1x) (.slice a2x n2x c2x) (.slice a3x n3x c3x) N1 := hSpx.after hbqx; have hF1qx : SsAt wqx (.slice a4x n4x c4x) F1 := SsAt.after hF1x hbqx; have hU1qx : ZsAt wqx (.slice a5x n5x c5x) U5 := ZsAt.after hU1x hbqx; have hBqx : Below wx.heap.size wx wqx := bt hBpx hbqx) | (go_at_call 13; (with_reducible refine (HX1.out _ _ _ _ _ _ _ _ _ _ _ _ _ _ _ _ _ _ _ _ _ _  hSqx hF1qx hF2x hU1qx hU2x).mono ?_); rintro e wdx ⟨b8, o8, c8, rfl, hW, hbdx⟩; have hCdx : CA wdx [(⟨g, 0, none⟩, .string k3), (⟨g, 1, none⟩, .string k2)] := hCqx.after hbdx; have hBdx : Below wx.heap.size wx wdx := bt hBqx hbdx))
  clear hCex hBex hSex hbex hF1x hU1x hbpx hCpx hSpx hBpx hF2x hU2x hbqx hCqx hSqx hF1qx hU1qx hBqx hbdx
  replace hL := hL.after hBdx
  replace hBW := bt hBW hBdx
  clear hBdx hC HX1 HE1 HP0 HP5
  go_wp2_with fail
  go_region_held3 (fun w' => w'.cell? ⟨g, 0, none⟩ = some (.string k3) ∧ w'.cell? ⟨g, 1, none⟩ = some (.string k2)) ((refine CA.k2 ?_; repeat (first | (with_reducible exact hCdy) | (with_reducible exact hCqy) | (with_reducible exact hCpy) | (with_reducible exact hCey) | (with_reducible exact hCdx) | (with_reducible refine CA.drew ?_) | (with_reducible refine CA.alloc ?_ _))))
   (first | (go_at_call 26; (with_reducible refine (HE2.out _).mono ?_); rintro e wey ⟨a1y, a2y, a3y, n1y, n2y, n3y, c1y, c2y, c3y, rfl, hSey, hbey⟩; have hCey : CA wey [(⟨g, 0, none⟩, .string k3), (⟨g, 1, none⟩, .string k2)] := (hCdx.drew).after hbey; have hBey : Below wdx.heap.size wdx wey := Below.trans (Below.drew (Below.refl wdx.heap.size wdx)) hbey) | (go_at_call 27; (with_reducible refine (HPa.out _).mono ?_); rintro e wpy ⟨a4y, a5y, n4y, n5y, c4y, c5y, rfl, hF1y, hU1y, hbpy⟩; have hCpy : CA wpy [(⟨g, 0, none⟩, .string k3), (⟨g, 1, none⟩, .string k2)] := hCey.after hbpy; have hSpy : NAt wpy (.slice a1y n1y c1y) (.slice a2y n2y c2y) (.slice a3y n3y c3y) N2 := hSey.after hbpy; have hBpy : Below wdx.heap.size wdx wpy := bt hBey hbpy) | (go_at_call 27; (with_reducible refine (HPb.out _).mono ?_); rintro e wqy ⟨a6y, a7y, n6y, n7y, c6y, c7y, rfl, hF2y, hU2y, hbqy⟩; have hCqy : CA wqy [(⟨g, 0, none⟩, .string k3), (⟨g, 1, none⟩, .string k2)] := hCpy.after hbqy; have hSqy : NAt wqy (.slice a1y n1y c1y) (.slice a2y n2y c2y) (.slice a3y n3y c3y) N2 := hSpy.after hbqy; have hF1qy : SsAt wqy (.slice a4y n4y c4y) F2 := SsAt.after hF1y hbqy; have hU1qy : ZsAt wqy (.slice a5y n5y c5y) V0 := ZsAt.after hU1y hbqy; have hBqy : Below wdx.heap.size wdx wqy := bt hBpy hbqy) | (go_at_call 13; (with_reducible refine (HX2.out _ _ _ _ _ _ _ _ _ _ _ _ _ _ _ _ _ _ _ _ _ _  hSqy hF1qy hF2y hU1qy hU2y).mono ?_); rintro e wdy ⟨rfl, hbdy⟩; have hCdy : CA wdy [(⟨g, 0, none⟩, .string k3), (⟨g, 1, none⟩, .string k2)] := hCqy.after hbdy; have hBdy : Below wdx.heap.size wdx wdy := bt hBqy hbdy))
  clear hCey hBey hSey hbey hF1y hU1y hbpy hCpy hSpy hBpy hF2y hU2y hbqy hCqy hSqy hF1qy hU1qy hBqy hbdy
  replace hL := hL.after hBdy
  replace hW := hW.after hBdy
  replace hBW := bt hBW hBdy
  clear hBdy hCdx HX2 HE2 HPb
  go_wp2_with fail
  go_region_held3 (fun w' => w'.cell? ⟨g, 0, none⟩ = some (.string k3) ∧ w'.cell? ⟨g, 1, none⟩ = some (.string k2)) ((refine CA.k2 ?_; repeat (first | (with_reducible exact hCdz) | (with_reducible exact hCqz) | (with_reducible exact hCpz) | (with_reducible exact hCez) | (with_reducible exact hCdy) | (with_reducible refine CA.drew ?_) | (with_reducible refine CA.alloc ?_ _))))
   (first | (go_at_call 26; (with_reducible refine (HE3.out _).mono ?_); rintro e wez ⟨a1z, a2z, a3z, n1z, n2z, n3z, c1z, c2z, c3z, rfl, hSez, hbez⟩; have hCez : CA wez [(⟨g, 0, none⟩, .string k3), (⟨g, 1, none⟩, .string k2)] := (hCdy.drew).after hbez; have hBez : Below wdy.heap.size wdy wez := Below.trans (Below.drew (Below.refl wdy.heap.size wdy)) hbez) | (go_at_call 27; (with_reducible refine (HPa.out _).mono ?_); rintro e wpz ⟨a4z, a5z, n4z, n5z, c4z, c5z, rfl, hF1z, hU1z, hbpz⟩; have hCpz : CA wpz [(⟨g, 0, none⟩, .string k3), (⟨g, 1, none⟩, .string k2)] := hCez.after hbpz; have hSpz : NAt wpz (.slice a1z n1z c1z) (.slice a2z n2z c2z) (.slice a3z n3z c3z) N3 := hSez.after hbpz; have hBpz : Below wdy.heap.size wdy wpz := bt hBez hbpz) | (go_at_call 27; (with_reducible refine (HPc.out _).mono ?_); rintro e wqz ⟨a6z, a7z, n6z, n7z, c6z, c7z, rfl, hF2z, hU2z, hbqz⟩; have hCqz : CA wqz [(⟨g, 0, none⟩, .string k3), (⟨g, 1, none⟩, .string k2)] := hCpz.after hbqz; have hSqz : NAt wqz (.slice a1z n1z c1z) (.slice a2z n2z c2z) (.slice a3z n3z c3z) N3 := hSpz.after hbqz; have hF1qz : SsAt wqz (.slice a4z n4z c4z) F2 := SsAt.after hF1z hbqz; have hU1qz : ZsAt wqz (.slice a5z n5z c5z) V0 := ZsAt.after hU1z hbqz; have hBqz : Below wdy.heap.size wdy wqz := bt hBpz hbqz) | (go_at_call 13; (with_reducible refine (HX3.out _ _ _ _ _ _ _ _ _ _ _ _ _ _ _ _ _ _ _ _ _ _  hSqz hF1qz hF2z hU1qz hU2z).mono ?_); rintro e wdz ⟨rfl, hbdz⟩; have hCdz : CA wdz [(⟨g, 0, none⟩, .string k3), (⟨g, 1, none⟩, .string k2)] := hCqz.after hbdz; have hBdz : Below wdy.heap.size wdy wdz := bt hBqz hbdz))
  clear hCez hBez hSez hbez hF1z hU1z hbpz hCpz hSpz hBpz hF2z hU2z hbqz hCqz hSqz hF1qz hU1qz hBqz hbdz
  replace hL := hL.after hBdz
  replace hW := hW.after hBdz
  replace hBW := bt hBW hBdz
  clear hBdz hCdy hCdz HX3 HE3 HPa HPc
  have hA : CA wdz [(⟨g2, 0, none⟩, .bool false), (⟨g2, 1, none⟩, .string k2), (⟨b, o, none⟩, .bool false), (⟨b, o + 1, none⟩, .string k4), (⟨b8, o8, none⟩, .bool false), (⟨b8, o8 + 1, none⟩, .string k2)] := by
   intro x hx
   simp only [List.mem_cons, List.not_mem_nil, or_false] at hx
   rcases hx with h | h | h | h | h | h
   ·exact hL x (by simp [h])
   ·exact hL x (by simp [h])
   ·exact hL x (by simp [h])
   ·exact hL x (by simp [h])
   ·exact hW x (by simp [h])
   ·exact hW x (by simp [h])
  clear hL hW
  go_wp2_with fail
  go_region_held3 (fun w' => w'.cell? ⟨g2, 0, none⟩ = some (.bool false) ∧ w'.cell? ⟨g2, 1, none⟩ = some (.string k2) ∧ w'.cell? ⟨b, o, none⟩ = some (.bool false) ∧ w'.cell? ⟨b, o + 1, none⟩ = some (.string k4) ∧ w'.cell? ⟨b8, o8, none⟩ = some (.bool false) ∧ w'.cell? ⟨b8, o8 + 1, none⟩ = some (.string k2)) ((refine CA.k6 ?_; first | (with_reducible exact hA) | (with_reducible exact hA.drew)))
   ((go_at_call 28; (first | (with_reducible refine (I2.out _).mono ?_) | (with_reducible refine (I4.out _).mono ?_)); rintro e wi ⟨rfl, hbi⟩; have hA : CA wi [(⟨g2, 0, none⟩, .bool false), (⟨g2, 1, none⟩, .string k2), (⟨b, o, none⟩, .bool false), (⟨b, o + 1, none⟩, .string k4), (⟨b8, o8, none⟩, .bool false), (⟨b8, o8 + 1, none⟩, .string k2)] := (by first | exact hA.after hbi | exact (hA.drew).after hbi); have hBi : Below wdz.heap.size wdz wi := (by first | exact bt hBi hbi | exact Below.trans (Below.drew (Below.refl wdz.heap.size wdz)) hbi)))
  go_wp2
  go_ret
  exact ⟨rfl, bt hBW hBi⟩

theorem zown1 {w : World} {base : Nat} {v : Value} {z : Int} (h : ZOwn w base v [z]) : ∃ b o c, v = .slice (some ⟨b, o, none⟩) 1 c ∧ base ≤ b ∧ CA w [(⟨b, o, none⟩, .bool (sg z)), (⟨b, o + 1, none⟩, .string (E z.natAbs))] := by
 obtain ⟨g, c, rfl, h1, _, h2, h3⟩ := ZOwn.form h (by simp)
 obtain ⟨e1, e2⟩ := h3 0 (by simp)
 exact ⟨g, 0, c, rfl, h1, CA.cons h2 (by simpa using e1) (CA.cons h2 (by simpa using e2) (CA.nil _))⟩
theorem hof (n : Nat) (z : Int) (hz : z = (n : Int)) (h : n < 256 ^ 8) : HOf z (E n) := fun w => ofV_c n z w hz h
theorem hiof (n : Nat) (z : Int) (hz : z = (n : Int)) (h : n < 1000) : HIof z (E n) := fun w => by
 subst hz
 have h1 := iof_c (n : Int) w (by omega) (by omega)
 rw [sg_nat, Int.natAbs_natCast] at h1
 exact h1
theorem hex (t : Nat) (z : Int) (hz : z = (t : Int)) (h : t < 256 ^ 8) : HEx z (exN t) := fun w => (example_c t z w hz h).mono (by
 rintro e w' ⟨v1, v2, v3, rfl, hS, hb⟩
 obtain ⟨a1, c1, a2, c2, a3, c3, rfl, rfl, rfl⟩ := hS.forms
 exact ⟨_, _, _, _, _, _, _, _, _, rfl, hS, hb⟩)
theorem hpr (f c : Nat) (zf zc r : Int) (hf : zf = (f : Int)) (hc : zc = (c : Int)) (h1 : f < 256 ^ 8) (h2 : c < 256 ^ 8) (h3 : -9223372036854775808 ≤ r) (h4 : r ≤ 9223372036854775807) : HPr zf zc r (E c) [E f] [r] := fun w => (proof_c f c r zf zc w hf hc h1 h2 h3 h4).mono (by
 rintro e w' ⟨v, u, rfl, h1, h2, hb⟩
 obtain ⟨a, c, rfl⟩ := RAt.form h1
 obtain ⟨b, d, rfl⟩ := h2.form
 exact ⟨_, _, _, _, _, _, rfl, h1, h2, hb⟩)
theorem hdf : HDf (E 3) (E 2) (E 0) (E 2) (E 2) (E 4) (exN 16) [E 4] [1] [5] := fun w s1 s2 s3 xa ya xb yb m1 m2 m3 d1 d2 d3 na pa ma qa nb pb mb qb h1 h2 h3 h4 h5 =>
 (dif_num2 (exN 16) 3 2 0 2 [4] [5] [1] s1 s2 s3 xa ya xb yb m1 m2 m3 d1 d2 d3 na pa ma qa nb pb mb qb w ex_two1 (by decide) (by decide) (by decide) h1 h2 h3 h4 h5).mono (by
  rw [ex_dif1]
  rintro e w' ⟨v, rfl, hz, hb⟩
  obtain ⟨b, o, c, rfl, h1, h2⟩ := zown1 hz
  exact ⟨_, _, _, rfl, h1, h2, hb⟩)
theorem hxt1 : HXt (E 3) (E 2) (E 2) (E 0) (E 2) (exN 16) [E 4] [5] [1] := fun w s1 s2 s3 xa ya xb yb m1 m2 m3 d1 d2 d3 na pa ma qa nb pb mb qb h1 h2 h3 h4 h5 =>
 (ext_num1 (exN 16) 3 2 2 0 [4] [5] [1] s1 s2 s3 xa ya xb yb m1 m2 m3 d1 d2 d3 na pa ma qa nb pb mb qb w ex_two1 (by decide) (by decide) (by decide) h1 h2 h3 h4 h5 (quo_small ex_two1 (by rw [ex_dif1]; decide))).mono (by
  rw [ex_dif1, ex_ext1]
  rintro e w' ⟨v, rfl, hz, hb⟩
  obtain ⟨b, o, c, rfl, h1, h2⟩ := zown1 hz
  exact ⟨_, _, _, rfl, h2, hb⟩)
theorem hxt2 : HXn (E 3) (E 2) (E 0) (E 2) (exN 73) [E 1] [0] [2] := fun w s1 s2 s3 xa ya xb yb m1 m2 m3 d1 d2 d3 na pa ma qa nb pb mb qb h1 h2 h3 h4 h5 =>
 (ext_num2 (exN 73) 3 2 0 2 [1] [2] [0] s1 s2 s3 xa ya xb yb m1 m2 m3 d1 d2 d3 na pa ma qa nb pb mb qb w ex_two2 (by decide) (by decide) (by decide) h1 h2 h3 h4 h5 (quo_small ex_two2 (by rw [ex_dif2]; decide))).mono (by
  rw [ex_dif2, ex_ext2]; exact fun _ _ h => h)
theorem hxt3 : HXn (E 3) (E 2) (E 0) (E 2) (exN 2) [E 1] [0] [1] := fun w s1 s2 s3 xa ya xb yb m1 m2 m3 d1 d2 d3 na pa ma qa nb pb mb qb h1 h2 h3 h4 h5 =>
 (ext_num2 (exN 2) 3 2 0 2 [1] [1] [0] s1 s2 s3 xa ya xb yb m1 m2 m3 d1 d2 d3 na pa ma qa nb pb mb qb w ex_two3 (by decide) (by decide) (by decide) h1 h2 h3 h4 h5 (quo_small ex_two3 (by rw [ex_dif3]; decide))).mono (by
  rw [ex_dif3, ex_ext3]; exact fun _ _ h => h)

theorem awake_c (w : World) : Calls Tryz.prog 9 #[] w fun e w' => e = .returned (.bool true) ∧ Below w.heap.size w w' :=
 awake_l (E 0) (E 2) (E 3) (E 4) (exN 16) (exN 73) (exN 2) [E 4] [E 1] [1] [5] [0] [2] [1] w
  (hof 3 3 rfl (by decide)) (hof 2 2 rfl (by decide)) (hiof 2 2 rfl (by decide)) (hiof 4 4 rfl (by decide)) (hex 16 16 rfl (by decide)) (hex 73 73 rfl (by decide)) (hex 2 2 rfl (by decide))
  (hpr 4 0 4 0 1 rfl rfl (by decide) (by decide) (by decide) (by decide)) (hpr 4 2 4 2 5 rfl rfl (by decide) (by decide) (by decide) (by decide)) (hpr 1 0 1 0 0 rfl rfl (by decide) (by decide) (by decide) (by decide)) (hpr 1 2 1 2 2 rfl rfl (by decide) (by decide) (by decide) (by decide)) (hpr 1 2 1 2 1 rfl rfl (by decide) (by decide) (by decide) (by decide))
  hdf hxt1 hxt2 hxt3
end Go.Proofs.YtbcgimgkcdpjcaaGreat
end

section
/- A row's last step. -/
namespace Go.Proofs.YtbcgimgkcdpjcaaGreat
open Go.RowKit Go.WideShapes Go.ChangeShapes Go.ChangeAt Go.Joins Go.Deep
open Go.ChangeMaps (open_string shut_string)

section
variable {H : Type} {enc : TypeId × Value → H} {P : Program}
theorem post_of_below {f : Func} {s : ChangeSpec} {apart fresh handsOn again : Bool} {W W' : World} {args : Array Value} {v : Value} {ds gs : List (DataW H)} {before pa pv : List MemPlace}
  (hW : DataW.Whole enc P f.params.toList s.vars apart W args.toList ds gs before)
  (hres : ∀ (b : Nat) (sp : Nat → Bool) (hd : Bool), DataW.TrodAll enc P W' b sp hd f.resultTypes.toList (v.resultList f.resultTypes.size) (s.fn H (ds ++ gs)).results [])
  (hargs : ∀ sp : Nat → Bool, (∀ p ∈ before, sp p.block = true) → DataW.TrodAll enc P W' 0 sp true f.params.toList args.toList (s.fn H (ds ++ gs)).args pa)
  (hvars : ∀ sp : Nat → Bool, (∀ p ∈ before, sp p.block = true) → DataW.TrodVars enc P W' sp s.vars (s.fn H (ds ++ gs)).vars pv)
  (hps : before = pa ++ pv) (hb : Below W.heap.size W W')
  (hok : ∀ (j : Nat) (t : TypeId) (r : Value), f.resultTypes[j]? = some t → (v.resultList f.resultTypes.size)[j]? = some r → Value.okWide P W' .any 0 t r) :
  s.post enc P f apart fresh handsOn again W args v W' := by
 have hlt : ∀ p ∈ before, p.block < W.heap.size := fun p hp => hW.lt p hp
 have hold : ∀ p ∈ before, (fun b => decide (b < W.heap.size)) p.block = true := fun p hp => by simpa using hlt p hp
 refine ⟨ds, gs, before, [], pa, pv, hW, hres _ _ _, hargs _ hold, hvars _ hold, World.keptBut_mono (fun p hp => ⟨hp, ?_⟩) (hb.frame (· ∈ before)), fun _ => ?_⟩
 ·rw [hps, List.mem_append] at hp
  exact Or.inr hp
 ·obtain ⟨_, _, _, _, _, hz, hn⟩ := hW
  refine ⟨hok, _, _, ([] ++ pa) ++ pv, ⟨[] ++ pa, pv, trodAll_append (hargs _ (fun _ _ => rfl)) (hres _ _ _), hvars _ (fun _ _ => rfl), rfl, ?_, ?_⟩, ?_⟩
  ·intro b off hp
   have hin : MemPlace.cell b off ∈ before := by rw [hps]; simpa using hp
   rw [hb.frozen (hlt _ hin)]
   exact hz b off hin
  ·intro ha
   have := hn ha
   rw [hps] at this
   simpa using this
  ·intro p hp _
   rw [hps]
   simpa using hp
end

theorem own_knob : ownKnob Tryz.prog.godebug = none := by kernel_rfl

end Go.Proofs.YtbcgimgkcdpjcaaGreat
end

section
namespace Go.Proofs.YtbcgimgkcdpjcaaGreat
open Go.RowKit Go.WideShapes Go.ChangeShapes Go.ChangeAt Go.Joins Go.Deep
open Go.ChangeMaps (open_string shut_string)

theorem laid_out : laidOutB Tryz.prog = true := by kernel_rfl

theorem list1 {α : Type} {l : List α} (h : l.length = 1) : ∃ a, l = [a] := by
 match l, h with
 | [a], _ => exact ⟨a, rfl⟩
theorem list2 {α : Type} {l : List α} (h : l.length = 2) : ∃ a b, l = [a, b] := by
 match l, h with
 | [a, b], _ => exact ⟨a, b, rfl⟩
theorem list3 {α : Type} {l : List α} (h : l.length = 3) : ∃ a b c, l = [a, b, c] := by
 match l, h with
 | [a, b, c], _ => exact ⟨a, b, c, rfl⟩
theorem list4 {α : Type} {l : List α} (h : l.length = 4) : ∃ a b c d, l = [a, b, c, d] := by
 match l, h with
 | [a, b, c, d], _ => exact ⟨a, b, c, d, rfl⟩
theorem array11 {α : Type} {l : Array α} (h : l.size = 11) : ∃ a b c d e f g i j k m, l = #[a, b, c, d, e, f, g, i, j, k, m] := by
 obtain ⟨l⟩ := l
 match l, h with
 | [a, b, c, d, e, f, g, i, j, k, m], _ => exact ⟨a, b, c, d, e, f, g, i, j, k, m, rfl⟩

theorem zNat : Tryz.prog.cellsOf 22 = 1 := by kernel_rfl
theorem zVar : Tryz.prog.cellsOf 67 = 1 := by kernel_rfl
theorem zGrp : Tryz.prog.cellsOf 59 = 2 := by kernel_rfl
theorem zInt : Tryz.prog.cellsOf 39 = 2 := by kernel_rfl
theorem zTrm : Tryz.prog.cellsOf 112 = 4 := by kernel_rfl
theorem zEqn : Tryz.prog.cellsOf 55 = 3 := by kernel_rfl
theorem zi64 : Tryz.prog.cellsOf 3 = 1 := by kernel_rfl
theorem zB : Tryz.prog.cellsOf 4 = 1 := by kernel_rfl
theorem zTs : Tryz.prog.cellsOf 53 = 1 := by kernel_rfl
theorem zGs : Tryz.prog.cellsOf 25 = 1 := by kernel_rfl
theorem zVs : Tryz.prog.cellsOf 26 = 1 := by kernel_rfl
theorem zEs : Tryz.prog.cellsOf 27 = 1 := by kernel_rfl
theorem zNs : Tryz.prog.cellsOf 30 = 1 := by kernel_rfl
theorem zZs : Tryz.prog.cellsOf 31 = 1 := by kernel_rfl
theorem zRule : Tryz.prog.cellsOf 24 = 2 := by kernel_rfl
theorem zSta : Tryz.prog.cellsOf 29 = 3 := by kernel_rfl
theorem zPrf : Tryz.prog.cellsOf 33 = 3 := by kernel_rfl
theorem zCase : Tryz.prog.cellsOf 35 = 11 := by kernel_rfl

section
variable {H : Type} {enc : TypeId × Value → H} {w : World} {base : Nat} {held : Bool}

/-- a slice as an argument: what it reads -/
theorem row_of {α : Type} {Q : World → α → List Value → Prop} {Sz : α → Prop} (d : α) {size fuel : Nat} {t e : TypeId} {cs : List Value} {x : DataW H × List MemPlace} (ht : Tryz.prog.underlying t = some (.slice e)) (hc : Tryz.prog.cellsOf e = size) (h0 : 0 < size)
  (h : DataW.trod enc Tryz.prog w base (fun _ => true) held fuel t cs = some x)
  (elem : ∀ n cs' y, cs'.length = size → DataW.trod enc Tryz.prog w base (fun _ => true) held n e cs' = some y → ∃ a, Q w a cs' ∧ Sz a) :
  ∃ ao n c l, cs = [.slice ao n c] ∧ RAt Q size w (.slice ao n c) l ∧ (∀ a ∈ l, Sz a) ∧ l.length ≤ maxLen := by
 rcases open_slice ht h with ⟨rfl, _⟩ | ⟨a, len, cap, m, n, D, Pl, rfl, hb, hl, hm, hmm, _, hel⟩
 ·exact ⟨none, 0, 0, [], rfl, ⟨none, 0, rfl, .inl rfl⟩, by simp, by simp⟩
 ·rw [if_pos rfl] at hmm
  subst hmm
  rw [hc] at hel
  haveI : Inhabited α := ⟨d⟩
  obtain ⟨f, hf⟩ := choose_lt (α := α) (n := len) (p := fun i y => ∃ cs', w.cells? base (a.add (i * size)) size = some cs' ∧ Q w y cs' ∧ Sz y) (fun i hi => by
   obtain ⟨cs', h1, h2⟩ := hel i (by omega)
   obtain ⟨y, hy1, hy2⟩ := elem n cs' _ (World.cells?_some h1).2.1 h2
   exact ⟨y, cs', h1, hy1, hy2⟩)
  have hlen : ((List.range len).map f).length = len := by simp
  refine ⟨some a, len, m, (List.range len).map f, rfl, ⟨some a, m, by rw [hlen], ?_⟩, fun y hy => ?_, by rw [hlen]; omega⟩
  ·by_cases hl0 : len = 0
   ·exact .inl (by rw [hlen]; exact hl0)
   ·obtain ⟨b, off, spot⟩ := a
    obtain ⟨cs0, g1, _⟩ := hf 0 (by omega)
    obtain ⟨_, g2, g3⟩ := World.cells?_some g1
    have g4 := g3 0 h0
    have g5 : 0 < cs0.length := by omega
    rw [List.getElem?_eq_getElem g5] at g4
    have hspot : spot = none := by simpa [Addr.add] using World.cell?_spot g4
    subst hspot
    refine .inr ⟨b, off, rfl, ?_, fun j hj => ?_⟩
    ·rw [add_plain, add_plain] at g4
     apply Classical.byContradiction
     intro hge
     have hnone : w.heap[b]? = none := by simpa using hge
     simp [World.cell?, hnone] at g4
    ·obtain ⟨cs', k1, k2, _⟩ := hf j (by rw [← hlen]; exact hj)
     refine ⟨cs', by simpa using k2, fun i hi => ?_⟩
     have := (World.cells?_some k1).2.2 i hi
     rw [add_plain, add_plain] at this
     exact this
  ·obtain ⟨j, hj, rfl⟩ := List.mem_map.1 hy
   obtain ⟨cs', _, _, hz⟩ := hf j (List.mem_range.1 hj)
   exact hz

def szT (t : Trm) : Prop := t.base.size ≤ maxLen ∧ t.abs.size ≤ maxLen
def szQ (q : Eqn) : Prop := q.tgt.size ≤ maxLen ∧ q.trms.length ≤ maxLen ∧ ∀ t ∈ q.trms, szT t

theorem el_nat {n : Nat} {cs : List Value} {y : DataW H × List MemPlace} (hl : cs.length = 1) (h : DataW.trod enc Tryz.prog w base (fun _ => true) held n 22 cs = some y) : ∃ a, QStr w a cs ∧ a.size ≤ maxLen := by
 obtain ⟨s, rfl, _, hs⟩ := DataW.trod_string Tryz.underlying22 h
 exact ⟨s, rfl, hs⟩
theorem el_var {n : Nat} {cs : List Value} {y : DataW H × List MemPlace} (hl : cs.length = 1) (h : DataW.trod enc Tryz.prog w base (fun _ => true) held n 67 cs = some y) : ∃ a, QStr w a cs ∧ a.size ≤ maxLen := by
 obtain ⟨c0, rfl⟩ := list1 hl
 obtain ⟨y0, m, _, _, h0⟩ := trod_struct1 Tryz.underlying67 h
 obtain ⟨s, hs, _, hz⟩ := DataW.trod_string Tryz.underlying22 h0
 simp [zNat] at hs
 subst hs
 exact ⟨s, rfl, hz⟩
theorem el_grp {n : Nat} {cs : List Value} {y : DataW H × List MemPlace} (hl : cs.length = 2) (h : DataW.trod enc Tryz.prog w base (fun _ => true) held n 59 cs = some y) : ∃ a, QGrp w a cs ∧ (a.1.size ≤ maxLen ∧ a.2.size ≤ maxLen) := by
 obtain ⟨c0, c1, rfl⟩ := list2 hl
 obtain ⟨y0, y1, m, _, _, h0, h1⟩ := trod_struct2 Tryz.underlying59 h
 obtain ⟨s, hs, _, hz⟩ := DataW.trod_string Tryz.underlying22 h0
 obtain ⟨s', hs', _, hz'⟩ := DataW.trod_string Tryz.underlying22 h1
 simp [zNat] at hs hs'
 subst hs hs'
 exact ⟨(s, s'), rfl, hz, hz'⟩
theorem el_int {n : Nat} {cs : List Value} {y : DataW H × List MemPlace} (hl : cs.length = 2) (h : DataW.trod enc Tryz.prog w base (fun _ => true) held n 39 cs = some y) : ∃ a, QInt w a cs ∧ a.2.size ≤ maxLen := by
 obtain ⟨c0, c1, rfl⟩ := list2 hl
 obtain ⟨y0, y1, m, _, _, h0, h1⟩ := trod_struct2 Tryz.underlying39 h
 obtain ⟨s, hs, _⟩ := DataW.trod_bool Tryz.underlying4 h0
 obtain ⟨s', hs', _, hz'⟩ := DataW.trod_string Tryz.underlying22 h1
 simp [zNat, zB] at hs hs'
 subst hs hs'
 exact ⟨(s, s'), rfl, hz'⟩
theorem el_trm {n : Nat} {cs : List Value} {y : DataW H × List MemPlace} (hl : cs.length = 4) (h : DataW.trod enc Tryz.prog w base (fun _ => true) held n 112 cs = some y) : ∃ a, QTrm w a cs ∧ szT a := by
 obtain ⟨c0, c1, c2, c3, rfl⟩ := list4 hl
 obtain ⟨y0, y1, y2, m, _, _, h0, h1, h2⟩ := trod_struct3 Tryz.underlying112 h
 obtain ⟨z0, z1, m', _, _, g0, g1⟩ := trod_struct2 Tryz.underlying39 h2
 obtain ⟨s, hs, _, hz⟩ := DataW.trod_string Tryz.underlying22 h0
 obtain ⟨i, hi, _⟩ := DataW.trod_int Tryz.underlying3 h1
 obtain ⟨b, hb, _⟩ := DataW.trod_bool Tryz.underlying4 g0
 obtain ⟨s', hs', _, hz'⟩ := DataW.trod_string Tryz.underlying22 g1
 simp [zNat, zB, zi64, zInt] at hs hi hb hs'
 subst hs hi hb hs'
 exact ⟨⟨s, i, b, s'⟩, rfl, hz, hz'⟩
theorem el_eqn {n : Nat} {cs : List Value} {y : DataW H × List MemPlace} (hl : cs.length = 3) (h : DataW.trod enc Tryz.prog w base (fun _ => true) held n 55 cs = some y) : ∃ a, QEqn w a cs ∧ szQ a := by
 obtain ⟨c0, c1, c2, rfl⟩ := list3 hl
 obtain ⟨y0, y1, y2, m, _, _, h0, h1, h2⟩ := trod_struct3 Tryz.underlying55 h
 obtain ⟨i, hi, _⟩ := DataW.trod_int Tryz.underlying3 h0
 obtain ⟨s, hs, _, hz⟩ := DataW.trod_string Tryz.underlying22 h1
 obtain ⟨ao, k, c, l, hts, hr, hsz, hlen⟩ := row_of (Q := QTrm) (Sz := szT) ⟨s, 0, false, s⟩ Tryz.underlying53 zTrm (by decide) h2 (fun n cs' y hl h => el_trm hl h)
 simp [zNat, zi64, zTs] at hs hi hts
 subst hs hi hts
 exact ⟨⟨i, s, l⟩, ⟨_, rfl, hr⟩, hz, hlen, hsz⟩

/-- a case: its parts, with what the slices read -/
theorem open_case {r : Reach} {b0 : Nat} {v : Value} {d : DataW H} {p : List MemPlace} (hv : Value.okWide Tryz.prog w r b0 35 v) (h : DataW.Trod enc Tryz.prog w base (fun _ => true) held 35 v d p) :
  ∃ (C K cha chb : ByteArray) (S : Sta) (FA FB : List ByteArray) (RA RB : List (Bool × ByteArray)) (s1 s2 s3 xa ya xb yb : Option Addr) (m1 m2 m3 d1 d2 d3 na pa ma qa nb pb mb qb : Nat),
   v = .agg #[.string C, .string K, .slice s1 m1 d1, .slice s2 m2 d2, .slice s3 m3 d3, .slice xa na pa, .string cha, .slice ya ma qa, .slice xb nb pb, .string chb, .slice yb mb qb] ∧
   C.size ≤ 9223372036854775807 ∧ K.size ≤ 9223372036854775807 ∧ SSz S ∧ StAt w (.slice s1 m1 d1) (.slice s2 m2 d2) (.slice s3 m3 d3) S ∧
   PSz FA cha RA ∧ SsAt w (.slice xa na pa) FA ∧ IsAt w (.slice ya ma qa) RA ∧ PSz FB chb RB ∧ SsAt w (.slice xb nb pb) FB ∧ IsAt w (.slice yb mb qb) RB := by
 obtain ⟨cs, rfl, hsz⟩ := okWide_struct Tryz.underlying35 hv
 obtain ⟨c0, c1, c2, c3, c4, c5, c6, c7, c8, c9, c10, rfl⟩ := array11 (hsz.trans zCase)
 obtain ⟨fuel, hf⟩ := h
 obtain ⟨y0, y1, y2, y3, m, _, _, h0, h1, h2, h3⟩ := trod_struct4 Tryz.underlying35 hf
 simp only [Value.cells, zRule, zSta, zPrf, List.drop_succ_cons, List.drop_zero, List.take_succ_cons, List.take_zero] at h0 h1 h2 h3
 obtain ⟨_, _, m0, _, _, r0, r1⟩ := trod_struct2 Tryz.underlying24 h0
 obtain ⟨_, _, _, m1, _, _, t0, t1, t2⟩ := trod_struct3 Tryz.underlying29 h1
 obtain ⟨_, _, _, m2, _, _, a0, a1, a2⟩ := trod_struct3 Tryz.underlying33 h2
 obtain ⟨_, _, _, m3, _, _, b0, b1, b2⟩ := trod_struct3 Tryz.underlying33 h3
 simp only [zNat, zGs, zVs, zEs, zNs, zZs, List.drop_succ_cons, List.drop_zero, List.take_succ_cons, List.take_zero] at r0 r1 t0 t1 t2 a0 a1 a2 b0 b1 b2
 obtain ⟨C, hC, _, sC⟩ := DataW.trod_string Tryz.underlying22 r0
 obtain ⟨K, hK, _, sK⟩ := DataW.trod_string Tryz.underlying22 r1
 obtain ⟨ch, hch, _, sch⟩ := DataW.trod_string Tryz.underlying22 a1
 obtain ⟨dh, hdh, _, sdh⟩ := DataW.trod_string Tryz.underlying22 b1
 obtain ⟨g1, g2, g3, G, hG, rG, sG, _⟩ := row_of (Q := QGrp) (Sz := fun a => a.1.size ≤ maxLen ∧ a.2.size ≤ maxLen) (C, C) Tryz.underlying25 zGrp (by decide) t0 (fun n cs' y hl h => el_grp hl h)
 obtain ⟨v1, v2, v3, V, hV, rV, sV, _⟩ := row_of (Q := QStr) (Sz := fun a => a.size ≤ maxLen) C Tryz.underlying26 zVar (by decide) t1 (fun n cs' y hl h => el_var hl h)
 obtain ⟨q1, q2, q3, Qs, hQ, rQ, sQ, _⟩ := row_of (Q := QEqn) (Sz := szQ) ⟨0, C, []⟩ Tryz.underlying27 zEqn (by decide) t2 (fun n cs' y hl h => el_eqn hl h)
 obtain ⟨f1, f2, f3, FA, hFA, rFA, sFA, lFA⟩ := row_of (Q := QStr) (Sz := fun a => a.size ≤ maxLen) C Tryz.underlying30 zNat (by decide) a0 (fun n cs' y hl h => el_nat hl h)
 obtain ⟨i1, i2, i3, RA, hRA, rRA, sRA, _⟩ := row_of (Q := QInt) (Sz := fun a => a.2.size ≤ maxLen) (false, C) Tryz.underlying31 zInt (by decide) a2 (fun n cs' y hl h => el_int hl h)
 obtain ⟨k1, k2, k3, FB, hFB, rFB, sFB, lFB⟩ := row_of (Q := QStr) (Sz := fun a => a.size ≤ maxLen) C Tryz.underlying30 zNat (by decide) b0 (fun n cs' y hl h => el_nat hl h)
 obtain ⟨j1, j2, j3, RB, hRB, rRB, sRB, _⟩ := row_of (Q := QInt) (Sz := fun a => a.2.size ≤ maxLen) (false, C) Tryz.underlying31 zInt (by decide) b2 (fun n cs' y hl h => el_int hl h)
 simp only [List.cons.injEq, and_true] at hC hK hch hdh hG hV hQ hFA hRA hFB hRB
 subst hC hK hch hdh hG hV hQ hFA hRA hFB hRB
 unfold maxLen at sC sK sch sdh sG sV sFA lFA sRA sFB lFB sRB
 refine ⟨C, K, ch, dh, ⟨G, V, Qs⟩, FA, FB, RA, RB, _, _, _, _, _, _, _, _, _, _, _, _, _, _, _, _, _, _, _, _, _, rfl, sC, sK, ⟨sG, sV, fun x hx => ?_⟩, ⟨rG, rV, rQ⟩, ⟨lFA, sFA, sch, sRA⟩, rFA, rRA, ⟨lFB, sFB, sdh, sRB⟩, rFB, rRB⟩
 have := sQ x hx
 unfold szQ szT maxLen at this
 exact this
end
end Go.Proofs.YtbcgimgkcdpjcaaGreat
end
