/- A case of the simulator's laws as an argument: opened into what its slices read. -/
import Derived.Test.YtehoiholhkfcpaaGreatSig7
import Derived.Test.YtehoiholhkfcpaaGreatSm4
import Derived.Test.YtehoiholhkfcpaaGreatRm4
import Derived.Test.YtehoiholhkfcpaaGreatRm6
import Derived.Test.YtehoiholhkfcpaaGreatBase
import Derived.Below
import Derived.ChangeSame
import Derived.ChangeMaps5
import Derived.JoinedOf
import Derived.JoinedAt
import Derived.RowKit3
import Derived.Deep.Strs
import Derived.Lib.SmallJoins
import Derived.OpenShut
import Derived.ProofKit
import Derived.Carry
import Derived.ChangeSlices
import Derived.WideKeyArgs
import Derived.Deep.Slices
section
set_option linter.unusedVariables false
set_option linter.unusedSimpArgs false
set_option maxRecDepth 100000
namespace Go.Proofs.YtehoiholhkfcpaaGreat
open Go.RowKit Go.Shelf

set_option maxHeartbeats 1600000 in
theorem eqNat_c (A B : List Nat) (u v : Value) (w : World) (ha : A.length ≤ 1000) (hb : B.length ≤ 1000) (hA : SsAt w u (A.map E)) (hB : SsAt w v (B.map E)) :
  Calls Tryz.prog 10 #[u, v] w fun e w' => e = .returned (.bool (decide (A = B))) ∧ Below w.heap.size w w' := by
 obtain ⟨r, hr⟩ : ∃ r : Bool, r = decide (A = B) := ⟨_, rfl⟩
 have HRES := Lib.hid hr
 rw [← hr]
 clear hr
 obtain ⟨a1, c1, e1⟩ := RAt.form hA
 obtain ⟨a2, c2, e2⟩ := RAt.form hB
 rw [List.length_map] at e1 e2
 obtain ⟨n, hn⟩ : ∃ n, n = A.length := ⟨_, rfl⟩
 obtain ⟨m, hm⟩ : ∃ n, n = B.length := ⟨_, rfl⟩
 have HN := Lib.hid hn
 have HM := Lib.hid hm
 rw [← hn] at e1 ha
 rw [← hm] at e2 hb
 subst e1 e2
 clear hn hm
 by_cases hnm : n = m
 ·subst hnm
  have hx1 : ((n : Int) != (n : Int)) = false := by simp
  go_enter Tryz.func10, Tryz.ntmps10
  go_wp2
  go_loopw [13] (fun i wr => ∃ k : Nat, k ≤ n ∧ i = .int .i64 k ∧ Hid (∀ j, j < k → A[j]? = B[j]?) ∧ Below w.heap.size w wr) (fun i _ => n - (intOf i).toNat)
  case atStart => exact ⟨0, by omega, rfl, fun j h => absurd h (Nat.not_lt_zero _), Below.refl _ _⟩
  case round =>
   obtain ⟨k, hk, rfl, HA, hbr⟩ := hrel
   obtain ⟨wp, hwp⟩ : ∃ wp, wp = wr := ⟨_, rfl⟩
   subst hwp
   replace hA := SsAt.after hA hbr
   replace hB := SsAt.after hB hbr
   by_cases hlt : k < n
   ·have hka : k < A.length := by rw [← HN.out]; exact hlt
    have hkb : k < B.length := by rw [← HM.out]; exact hlt
    obtain ⟨b, o, rfl, hbl, x1⟩ := SsAt.at_ hA (show k < (A.map E).length by simpa using hka)
    obtain ⟨b', o', rfl, hbl', y1⟩ := SsAt.at_ hB (show k < (B.map E).length by simpa using hkb)
    simp only [List.getElem_map] at x1 y1
    have HKA : Hid (A[k]? = some (A[k]'hka)) := List.getElem?_eq_getElem hka
    have HKB : Hid (B[k]? = some (B[k]'hkb)) := List.getElem?_eq_getElem hkb
    generalize (A[k]'hka) = xa at x1 HKA
    generalize (B[k]'hkb) = xb at y1 HKB
    have h0k : (0 : Int) ≤ (k : Int) := by omega
    have h1k : (k : Int) < (n : Int) := by omega
    have g1 := gcl (a := ⟨b, o + k, none⟩) hbl x1
    have g2 := gcl (a := ⟨b', o' + k, none⟩) hbl' y1
    by_cases hx : xa = xb
    ·have h1 := eqT hx
     have h2 := eqE hx
     have HX : Hid (∀ j, j < k + 1 → A[j]? = B[j]?) := fun j hj => by
      by_cases e : j = k
      ·rw [e, HKA.out, HKB.out, hx]
      ·exact HA.out j (by omega)
     clear hx
     go_wp2_with fail
     refine wp_region_gw (by kernel_rfl) (by kernel_rfl) ?_
     repeat (go_big_quiet_step (first | (fail)))
     refine wpQuiet_nil ?_
     rintro w5 ⟨xw5, rfl⟩
     have hb5 := gw_below xw5
     generalize gw xw5 = w5 at hb5
     go_wp2
     go_roundw
     case rel => exact ⟨k + 1, by omega, by go_num, HX, bt hbr hb5⟩
     case measure => simp [intOf]; omega
    ·have h1 := eqF hx
     have h2 := neE hx
     have HF : Hid (r = false) := by
      rw [Hid, HRES.out]
      exact decide_eq_false (fun e => hx (by have h3 := HKA.out; rw [e, HKB.out] at h3; exact (Option.some.inj h3).symm))
     clear hx
     go_wp2_with fail
     refine wp_region_gw (by kernel_rfl) (by kernel_rfl) ?_
     repeat (go_big_quiet_step (first | (fail)))
     refine wpQuiet_nil ?_
     rintro w5 ⟨xw5, rfl⟩
     have hb5 := gw_below xw5
     generalize gw xw5 = w5 at hb5
     go_wp2
     go_ret
     exact ⟨by rw [HF.out]; rfl, bt hbr hb5⟩
   ·have HF : Hid (r = true) := by
     rw [Hid, HRES.out]
     refine decide_eq_true (List.ext_getElem? fun j => ?_)
     by_cases hj : j < k
     ·exact HA.out j hj
     ·rw [List.getElem?_eq_none (by rw [← HN.out]; omega), List.getElem?_eq_none (by rw [← HM.out]; omega)]
    go_wp2
    go_ret
    exact ⟨by rw [HF.out]; rfl, hbr⟩
 ·have hx1 : ((n : Int) != (m : Int)) = true := by rw [bne_iff_ne]; omega
  have hx2 : ((n : Int) == (m : Int)) = false := by rw [beq_eq_false_iff_ne]; omega
  have HF : Hid (r = false) := by rw [Hid, HRES.out]; exact decide_eq_false (fun e => hnm (by rw [HN.out, HM.out, e]))
  clear hnm
  go_enter Tryz.func10, Tryz.ntmps10
  go_wp2
  go_ret
  exact ⟨by rw [HF.out]; rfl, Below.refl _ _⟩

theorem eqNat_cV (A B : List Nat) (u v : Value) (r : Bool) (w : World) (ha : A.length ≤ 1000) (hb : B.length ≤ 1000) (hA : SsAt w u (A.map E)) (hB : SsAt w v (B.map E)) (h : decide (A = B) = r) :
  Calls Tryz.prog 10 #[u, v] w fun e w' => e = .returned (.bool r) ∧ Below w.heap.size w w' := by rw [← h]; exact eqNat_c A B u v w ha hb hA hB

set_option maxHeartbeats 1600000 in
theorem eqZ_c (u v : Value) (L : List Int) (w : World) (hn : L.length ≤ 1000) (hA : ZsAt w u L) (hB : ZsAt w v L) :
  Calls Tryz.prog 14 #[u, v] w fun e w' => e = .returned (.bool true) ∧ Below w.heap.size w w' := by
 obtain ⟨ao, c, rfl⟩ := hA.form
 obtain ⟨bo, d, rfl⟩ := hB.form
 obtain ⟨n, hLn⟩ : ∃ n, L.length = n := ⟨_, rfl⟩
 have HLN := Lib.hid hLn
 rw [hLn] at hA hB hn ⊢
 clear hLn
 go_enter Tryz.func14, Tryz.ntmps14
 go_wp2
 go_loopw [13] (fun i wr => ∃ k : Nat, k ≤ n ∧ i = .int .i64 k ∧ Below w.heap.size w wr) (fun i _ => n - (intOf i).toNat)
 case atStart => exact ⟨0, by omega, rfl, Below.refl _ _⟩
 case round =>
  obtain ⟨k, hk, rfl, hbr⟩ := hrel
  obtain ⟨wp, hwp⟩ : ∃ wp, wp = wr := ⟨_, rfl⟩
  subst hwp
  replace hA := ZsAt.after hA hbr
  replace hB := ZsAt.after hB hbr
  by_cases hlt : k < n
  ·have hkl : k < L.length := by rw [HLN.out]; exact hlt
   obtain ⟨b, o, rfl, l1, x1, x2⟩ := hA.at_ hkl
   obtain ⟨b', o', rfl, l2, y1, y2⟩ := hB.at_ hkl
   generalize L[k]'hkl = z at x1 x2 y1 y2
   have h0k : (0 : Int) ≤ (k : Int) := by omega
   have h1k : (k : Int) < (n : Int) := by omega
   have g1 := gcl (a := ⟨b, o + k * 2, none⟩) l1 x1
   have g2 := gcl (a := ⟨b, o + k * 2 + 1, none⟩) l1 x2
   have g3 := gcl (a := ⟨b', o' + k * 2, none⟩) l2 y1
   have g4 := gcl (a := ⟨b', o' + k * 2 + 1, none⟩) l2 y2
   clear x1 x2 y1 y2 hA hB
   go_wp2_with fail
   refine wp_region_gw (by kernel_rfl) (by kernel_rfl) ?_
   repeat (go_big_quiet_step (first | (fail)))
   refine wpQuiet_nil ?_
   rintro w2 ⟨xw2, rfl⟩
   have hb2 := gw_below xw2
   generalize gw xw2 = w2 at hb2
   go_wp2
   go_roundw
   case rel => exact ⟨k + 1, by omega, by go_num, bt hbr hb2⟩
   case measure => simp [intOf]; omega
  ·obtain rfl : k = n := by omega
   go_wp2
   go_ret
   exact ⟨rfl, hbr⟩

end Go.Proofs.YtehoiholhkfcpaaGreat
end

section
set_option linter.unusedVariables false
set_option linter.unusedSimpArgs false
set_option maxRecDepth 100000
namespace Go.Proofs.YtehoiholhkfcpaaGreat
open Go.RowKit Go.Shelf

/-- a rule and a statement: the functions Bounds of both sides -/
theorem bnd7 (S : Sta) (C K : ByteArray) (v1 v2 v3 : Value) (w : World) (hC : C.size ≤ 8) (hK : K.size ≤ 8) (hf : fewB S = true) (hS : StAt w v1 v2 v3 S) :
  (∃ k : Nat, k ≠ 0 ∧ (∀ w', Below w.heap.size w w' → Calls Tryz.prog 20 #[.agg #[.string C, .string K], .agg #[v1, v2, v3]] w' fun e w'' => e = .returned (.tuple #[.slice none 0 0, .slice none 0 0, .int .i64 k]) ∧ Below w'.heap.size w' w'') ∧
   (∀ w', Below w.heap.size w w' → Calls Tryz.prog 26 #[.agg #[.string C, .string K], .agg #[v1, v2, v3]] w' fun e w'' => e = .returned (.tuple #[.slice none 0 0, .slice none 0 0, .int .i64 k]) ∧ Below w'.heap.size w' w'')) ∨
  (∃ (N : NSta) (c k : Nat), C = E c ∧ K = E k ∧ c < 256 ^ 8 ∧ k < 256 ^ 8 ∧ NOk N ∧ NAt w v1 v2 v3 N ∧ N.chk = 0 ∧
   2 ≤ c ∧ 2 ≤ k ∧ (N.vars.any vz = true → c ≤ N.ord) ∧
   (∀ w', Below w.heap.size w w' → Calls Tryz.prog 20 #[.agg #[.string (E c), .string (E k)], .agg #[v1, v2, v3]] w' (B2Post w' (N.lims c k))) ∧
   (∀ w', Below w.heap.size w w' → Calls Tryz.prog 26 #[.agg #[.string (E c), .string (E k)], .agg #[v1, v2, v3]] w' (B2Post w' (N.lims c k)))) := by
 obtain ⟨k, hk, h1, h2⟩ | ⟨N, c, k, rfl, rfl, hc, hk, rfl, hm, h0, c2, k2, hv⟩ := bnd_two S C K v1 v2 v3 w hC hK hf hS
 ·exact .inl ⟨k, hk, fun w' hb => sBounds_err C K v1 v2 v3 k w' hk (fun w2 hb2 => h1 w2 (bt hb hb2)), h2⟩
 ·have hN : NAt w v1 v2 v3 N := hS
  exact .inr ⟨N, c, k, rfl, rfl, hc, hk, hm, hN, h0, c2, k2, hv, fun w' hb => sBounds_c N c k v1 v2 v3 w' hm.nv (fun w2 hb2 => bounds_ok N c k v1 v2 v3 w2 hc hk c2 k2 hv hm (hN.after (bt hb hb2)) h0),
   fun w' hb => rbounds_ok N c k v1 v2 v3 w' hc hk c2 k2 hv hm (hN.after hb) h0⟩

theorem up24 {x : Nat} (h : x < 256 ^ 24) : x < 256 ^ 64 := Nat.lt_of_lt_of_le h (Nat.pow_le_pow_right (by decide) (by decide))

end Go.Proofs.YtehoiholhkfcpaaGreat
end

section
set_option linter.unusedVariables false
set_option linter.unusedSimpArgs false
set_option maxRecDepth 100000
namespace Go.Proofs.YtehoiholhkfcpaaGreat
open Go.RowKit Go.Shelf

/-- sizes that Go can hold -/
structure SSz (S : Sta) : Prop where
 g : ∀ x ∈ S.grps, x.1.size ≤ 9223372036854775807 ∧ x.2.size ≤ 9223372036854775807
 v : ∀ x ∈ S.vars, x.size ≤ 9223372036854775807
 e : ∀ x ∈ S.eqs, x.tgt.size ≤ 9223372036854775807 ∧ x.trms.length ≤ 9223372036854775807 ∧ ∀ t ∈ x.trms, t.base.size ≤ 9223372036854775807 ∧ t.abs.size ≤ 9223372036854775807

/-- sizes of a case that Go can hold -/
structure CSz (W L : List (Bool × ByteArray)) (V : List ByteArray) (ch sd : ByteArray) : Prop where
 wn : W.length ≤ 9223372036854775807
 w : ∀ x ∈ W, x.2.size ≤ 9223372036854775807
 ln : L.length ≤ 9223372036854775807
 l : ∀ x ∈ L, x.2.size ≤ 9223372036854775807
 vn : V.length ≤ 9223372036854775807
 v : ∀ x ∈ V, x.size ≤ 9223372036854775807
 c : ch.size ≤ 9223372036854775807
 s : sd.size ≤ 9223372036854775807

/-- a comparison of a size with a limit, as the walk meets it -/
theorem dzT {n k : Nat} (h : ¬ n ≤ k) : decide ((k : Int) < (n : Int)) = true := decide_eq_true (by omega)
theorem dzF {n k : Nat} (h : n ≤ k) : decide ((k : Int) < (n : Int)) = false := decide_eq_false (by omega)

def iszB (x : Bool × ByteArray) : Bool := decide (x.2.size ≤ 24)
/-- few short integers -/
def shI (L : List (Bool × ByteArray)) : Bool := L.all iszB && decide (L.length ≤ 20)

set_option maxHeartbeats 1600000 in
theorem short17_c (L : List (Bool × ByteArray)) (v : Value) (w : World) (hn : L.length ≤ 9223372036854775807) (hs : ∀ x ∈ L, x.2.size ≤ 9223372036854775807) (hR : IsAt w v L) :
  Calls Tryz.prog 18 #[v] w fun e w' => e = .returned (.bool (shI L)) ∧ Below w.heap.size w w' := by
 obtain ⟨ao, c, rfl⟩ := RAt.form hR
 obtain ⟨r, hr⟩ : ∃ r, r = shI L := ⟨_, rfl⟩
 rw [← hr]
 have HR := Lib.hid hr
 obtain ⟨m, hm⟩ : ∃ m, m = L.length := ⟨_, rfl⟩
 have HM := Lib.hid hm
 rw [← hm] at hR hn ⊢
 have HS := Lib.hid hs
 clear hr hm hs
 go_enter Tryz.func18, Tryz.ntmps18
 go_wp2
 go_loop [3] (fun i => ∃ k : Nat, k ≤ m ∧ k ≤ 20 ∧ i = .int .i64 k ∧ Hid ((L.take k).all iszB = true)) (fun i => m - (intOf i).toNat)
 case atStart => exact ⟨0, by omega, by omega, rfl, rfl⟩
 case round =>
  obtain ⟨k, hk, hk20, rfl, HK⟩ := hrel
  by_cases hlt : k < m
  ·by_cases h20 : k < 20
   ·have hkl : k < L.length := by rw [← HM.out]; exact hlt
    obtain ⟨b, o, rfl, hb, x1, x2⟩ := IsAt.at_ hR hkl
    have hsz := HS.out _ (List.getElem_mem hkl)
    have h0k : (0 : Int) ≤ (k : Int) := by omega
    have h1k : (k : Int) < (m : Int) := by omega
    have h2k : (k : Int) < 20 := by omega
    have HT := Lib.hid (all_take iszB L k hkl)
    have HB : Hid (iszB L[k] = false → shI L = false) := fun h => by unfold shI; rw [all_bad iszB L k hkl h]; rfl
    have HQ : Hid (iszB L[k] = decide (L[k].2.size ≤ 24)) := rfl
    generalize iszB (L[k]'hkl) = q at HT HB HQ
    generalize (L[k]'hkl).2 = s at x2 hsz HQ
    by_cases h8 : s.size ≤ 24
    ·have hd : decide ((24 : Int) < (s.size : Int)) = false := dzF h8
     have HX : Hid ((L.take (k + 1)).all iszB = true) := by rw [Hid, HT.out, HK.out, HQ.out, decide_eq_true h8]; rfl
     clear h8
     go_wp2
     go_round
     case rel => exact ⟨k + 1, by omega, by omega, by go_num, HX⟩
     case measure => simp [intOf]; omega
    ·have hd : decide ((24 : Int) < (s.size : Int)) = true := dzT h8
     have HF : Hid (r = false) := by rw [Hid, HR.out]; exact HB.out (by rw [HQ.out]; exact decide_eq_false h8)
     clear h8
     go_wp2
     go_ret
     exact ⟨by rw [HF.out]; rfl, Below.refl _ _⟩
   ·have hk2 : k = 20 := by omega
    have HF : Hid (r = false) := by
     rw [Hid, HR.out, shI, decide_eq_false (show ¬ L.length ≤ 20 by have := HM.out; omega), Bool.and_false]
    have h1k : (k : Int) < (m : Int) := by omega
    have hq : decide ((m : Int) ≤ 20) = false := decide_eq_false (by omega)
    subst hk2
    clear h20 hk20
    go_wp2
    go_ret
    exact ⟨by rw [HF.out]; rfl, Below.refl _ _⟩
  ·have HF : Hid (r = true) := by
    rw [Hid, HR.out, shI, all_end iszB L k (by rw [← HM.out]; omega) HK.out, decide_eq_true (show L.length ≤ 20 by have := HM.out; omega)]; rfl
   obtain rfl : k = m := by omega
   have hq : decide ((k : Int) ≤ 20) = true := decide_eq_true (by omega)
   clear hk20
   go_wp2
   go_ret
   exact ⟨by rw [HF.out]; rfl, Below.refl _ _⟩

set_option maxHeartbeats 8000000 in
theorem fewS_c (S : Sta) (v1 v2 v3 : Value) (w : World) (hm : SSz S) (hS : StAt w v1 v2 v3 S) :
  Calls Tryz.prog 49 #[.agg #[v1, v2, v3]] w fun e w' => e = .returned (.bool (fewB S)) ∧ Below w.heap.size w w' := by
 obtain ⟨r, hr⟩ : ∃ r : Bool, r = fewB S := ⟨_, rfl⟩
 have HRES := Lib.hid hr
 rw [← hr]
 clear hr
 obtain ⟨a1, c1, rfl⟩ := hS.g.form
 obtain ⟨a2, c2, rfl⟩ := hS.v.form
 obtain ⟨a3, c3, rfl⟩ := hS.e.form
 have HM := Lib.hid hm
 obtain ⟨n1, hn1⟩ : ∃ n, n = S.grps.length := ⟨_, rfl⟩
 obtain ⟨n2, hn2⟩ : ∃ n, n = S.vars.length := ⟨_, rfl⟩
 obtain ⟨n3, hn3⟩ : ∃ n, n = S.eqs.length := ⟨_, rfl⟩
 have HN1 := Lib.hid hn1
 have HN2 := Lib.hid hn2
 have HN3 := Lib.hid hn3
 rw [← hn1, ← hn2, ← hn3] at hS ⊢
 clear hm hn1 hn2 hn3
 have hP := Blk.new w #[.slice a1 n1 c1, .slice a2 n2 c2, .slice a3 n3 c3] 29
 have hBW := b1 w (.cells #[.slice a1 n1 c1, .slice a2 n2 c2, .slice a3 n3 c3] 29)
 replace hS := hS.after hBW
 by_cases g1 : n1 ≤ 10
 rotate_left
 ·have e1 : decide ((10 : Int) < (n1 : Int)) = true := dzT g1
  have HF : Hid (fewB S = false) := by unfold Hid fewB; rw [← HN1.out, decide_eq_false g1]; simp
  clear g1
  obtain ⟨hPc0, hPf0, hPc1, hPf1, hPc2, hPf2⟩ := hP.x3
  go_enter Tryz.func49, Tryz.ntmps49
  go_wp2
  go_ret
  exact ⟨by rw [HRES.out, HF.out]; rfl, hBW⟩
 have e1 : decide ((10 : Int) < (n1 : Int)) = false := dzF g1
 by_cases g2 : n2 ≤ 12
 rotate_left
 ·have e2 : decide ((12 : Int) < (n2 : Int)) = true := dzT g2
  have HF : Hid (fewB S = false) := by unfold Hid fewB; rw [← HN2.out, decide_eq_false g2]; simp
  clear g1 g2
  obtain ⟨hPc0, hPf0, hPc1, hPf1, hPc2, hPf2⟩ := hP.x3
  go_enter Tryz.func49, Tryz.ntmps49
  go_wp2
  go_ret
  exact ⟨by rw [HRES.out, HF.out]; rfl, hBW⟩
 have e2 : decide ((12 : Int) < (n2 : Int)) = false := dzF g2
 by_cases g3 : n3 ≤ 12
 rotate_left
 ·have e3 : decide ((12 : Int) < (n3 : Int)) = true := dzT g3
  have HF : Hid (fewB S = false) := by unfold Hid fewB; rw [← HN3.out, decide_eq_false g3]; simp
  clear g1 g2 g3
  obtain ⟨hPc0, hPf0, hPc1, hPf1, hPc2, hPf2⟩ := hP.x3
  go_enter Tryz.func49, Tryz.ntmps49
  go_wp2
  go_ret
  exact ⟨by rw [HRES.out, HF.out]; rfl, hBW⟩
 have e3 : decide ((12 : Int) < (n3 : Int)) = false := dzF g3
 have HL1 : Hid (decide (S.grps.length ≤ 10) = true) := decide_eq_true (by have := HN1.out; omega)
 have HL2 : Hid (decide (S.vars.length ≤ 12) = true) := decide_eq_true (by have := HN2.out; omega)
 have HL3 : Hid (decide (S.eqs.length ≤ 12) = true) := decide_eq_true (by have := HN3.out; omega)
 obtain ⟨hPc0, hPf0, hPc1, hPf1, hPc2, hPf2⟩ := hP.x3
 go_enter Tryz.func49, Tryz.ntmps49
 go_wp2
 clear hPc0 hPf0 hPc1 hPf1 hPc2 hPf2
 clear e1 e2 e3
 generalize w.alloc (.cells #[.slice a1 n1 c1, .slice a2 n2 c2, .slice a3 n3 c3] 29) = w1 at hP hBW hS
 obtain ⟨gp, hgp⟩ : ∃ g, w.heap.size = g := ⟨_, rfl⟩
 have HGP := Lib.hid hgp
 replace hP : Blk w1 w.heap.size 29 [.slice a1 n1 c1, .slice a2 n2 c2, .slice a3 n3 c3] := hP
 rw [hgp] at hP ⊢
 clear hgp
 go_loop [3] (fun i => ∃ k : Nat, k ≤ n1 ∧ i = .int .i64 k ∧ Hid ((S.grps.take k).all gszB = true)) (fun i => n1 - (intOf i).toNat)
 case atStart => exact ⟨0, by omega, rfl, rfl⟩
 case round =>
  obtain ⟨k, hk, rfl, HA⟩ := hrel
  by_cases hlt : k < n1
  ·have hkl : k < S.grps.length := by rw [← HN1.out]; exact hlt
   have HSZ := Lib.hid (HM.out.g _ (List.getElem_mem hkl))
   have HT := Lib.hid (all_take gszB S.grps k hkl)
   have HBAD : Hid (gszB S.grps[k] = false → fewB S = false) := fun h => by unfold fewB; rw [all_bad gszB S.grps k hkl h]; simp
   obtain ⟨b, o, rfl, hbl, x1, x2⟩ := hS.g.at_ hkl
   have HG : Hid (gszB S.grps[k] = (decide (S.grps[k].1.size ≤ 8) && decide (S.grps[k].2.size ≤ 8))) := rfl
   generalize gszB (S.grps[k]'hkl) = gk at HT HBAD HG
   generalize (S.grps[k]'hkl).1 = s1 at x1 HSZ HG
   generalize (S.grps[k]'hkl).2 = s2 at x2 HSZ HG
   have z1 := HSZ.out.1
   have z2 := HSZ.out.2
   have h0k : (0 : Int) ≤ (k : Int) := by omega
   have h1k : (k : Int) < (n1 : Int) := by omega
   obtain ⟨hPc0, hPf0, hPc1, hPf1, hPc2, hPf2⟩ := hP.x3
   by_cases q1 : s1.size ≤ 8
   ·have d1 : decide ((8 : Int) < (s1.size : Int)) = false := dzF q1
    by_cases q2 : s2.size ≤ 8
    ·have d2 : decide ((8 : Int) < (s2.size : Int)) = false := dzF q2
     have HX : Hid ((S.grps.take (k + 1)).all gszB = true) := by rw [Hid, HT.out, HA.out, HG.out, decide_eq_true q1, decide_eq_true q2]; rfl
     clear q1 q2
     go_wp2
     go_round
     case rel => exact ⟨k + 1, by omega, by go_num, HX⟩
     case measure => simp [intOf]; omega
    ·have d2 : decide ((8 : Int) < (s2.size : Int)) = true := dzT q2
     have HF : Hid (fewB S = false) := HBAD.out (by rw [HG.out, decide_eq_false q2, Bool.and_false])
     clear q1 q2
     go_wp2
     go_ret
     exact ⟨by rw [HRES.out, HF.out]; rfl, hBW⟩
   ·have d1 : decide ((8 : Int) < (s1.size : Int)) = true := dzT q1
    have HF : Hid (fewB S = false) := HBAD.out (by rw [HG.out, decide_eq_false q1]; rfl)
    clear q1
    go_wp2
    go_ret
    exact ⟨by rw [HRES.out, HF.out]; rfl, hBW⟩
  ·have HG : Hid (S.grps.all gszB = true) := all_end gszB S.grps k (by rw [← HN1.out]; omega) HA.out
   obtain ⟨hPc0, hPf0, hPc1, hPf1, hPc2, hPf2⟩ := hP.x3
   go_wp2
   clear hPc0 hPf0 hPc1 hPf1 hPc2 hPf2
   clear HA hlt hk
   go_loop [4] (fun i => ∃ k : Nat, k ≤ n2 ∧ i = .int .i64 k ∧ Hid ((S.vars.take k).all vszB = true)) (fun i => n2 - (intOf i).toNat)
   case atStart => exact ⟨0, by omega, rfl, rfl⟩
   case round =>
    obtain ⟨k, hk, rfl, HA⟩ := hrel
    by_cases hlt : k < n2
    ·have hkl : k < S.vars.length := by rw [← HN2.out]; exact hlt
     have hsz := HM.out.v _ (List.getElem_mem hkl)
     have HT := Lib.hid (all_take vszB S.vars k hkl)
     have HBAD : Hid (vszB S.vars[k] = false → fewB S = false) := fun h => by unfold fewB; rw [all_bad vszB S.vars k hkl h]; simp
     have HQ : Hid (vszB S.vars[k] = decide (S.vars[k].size ≤ 16)) := rfl
     obtain ⟨b, o, rfl, hbl, x1⟩ := hS.v.at_ hkl
     generalize vszB (S.vars[k]'hkl) = vk at HT HBAD HQ
     generalize S.vars[k]'hkl = s1 at x1 hsz HQ
     have h0k : (0 : Int) ≤ (k : Int) := by omega
     have h1k : (k : Int) < (n2 : Int) := by omega
     obtain ⟨hPc0, hPf0, hPc1, hPf1, hPc2, hPf2⟩ := hP.x3
     by_cases q1 : s1.size ≤ 16
     ·have d1 : decide ((16 : Int) < (s1.size : Int)) = false := dzF q1
      have HX : Hid ((S.vars.take (k + 1)).all vszB = true) := by rw [Hid, HT.out, HA.out, HQ.out, decide_eq_true q1]; rfl
      clear q1
      go_wp2
      go_round
      case rel => exact ⟨k + 1, by omega, by go_num, HX⟩
      case measure => simp [intOf]; omega
     ·have d1 : decide ((16 : Int) < (s1.size : Int)) = true := dzT q1
      have HF : Hid (fewB S = false) := HBAD.out (by rw [HQ.out, decide_eq_false q1])
      clear q1
      go_wp2
      go_ret
      exact ⟨by rw [HRES.out, HF.out]; rfl, hBW⟩
    ·have HV : Hid (S.vars.all vszB = true) := all_end vszB S.vars k (by rw [← HN2.out]; omega) HA.out
     obtain ⟨hPc0, hPf0, hPc1, hPf1, hPc2, hPf2⟩ := hP.x3
     go_wp2
     clear hPc0 hPf0 hPc1 hPf1 hPc2 hPf2
     clear HA hlt hk
     go_loop [5] (fun i => ∃ k : Nat, k ≤ n3 ∧ i = .int .i64 k ∧ Hid ((S.eqs.take k).all eszB = true)) (fun i => n3 - (intOf i).toNat)
     case atStart => exact ⟨0, by omega, rfl, rfl⟩
     case round =>
      obtain ⟨k, hk, rfl, HA⟩ := hrel
      by_cases hlt : k < n3
      ·have hkl : k < S.eqs.length := by rw [← HN3.out]; exact hlt
       have HSZ := Lib.hid (HM.out.e _ (List.getElem_mem hkl))
       have HT := Lib.hid (all_take eszB S.eqs k hkl)
       have HBAD : Hid (eszB S.eqs[k] = false → fewB S = false) := fun h => by unfold fewB; rw [all_bad eszB S.eqs k hkl h]; simp
       obtain ⟨b, o, tv, rfl, hbl, x1, x2, x3, hTs⟩ := hS.e.at_ hkl
       generalize S.eqs[k]'hkl = q at x1 x2 x3 hTs HSZ HT HBAD
       obtain ⟨qg, qt, qs⟩ := q
       simp only [] at x1 x2 x3 hTs
       obtain ⟨to_, tc, rfl⟩ := RAt.form hTs
       obtain ⟨n4, hn4⟩ : ∃ n, n = qs.length := ⟨_, rfl⟩
       have HN4 := Lib.hid hn4
       rw [← hn4] at x3 hTs
       clear hn4
       have z1 := HSZ.out.1
       have h0k : (0 : Int) ≤ (k : Int) := by omega
       have h1k : (k : Int) < (n3 : Int) := by omega
       have HQ : Hid (eszB ⟨qg, qt, qs⟩ = (decide (qs.length ≤ 12) && decide (qt.size ≤ 12) && qs.all tszB)) := rfl
       generalize eszB ⟨qg, qt, qs⟩ = ek at HT HBAD HQ
       obtain ⟨hPc0, hPf0, hPc1, hPf1, hPc2, hPf2⟩ := hP.x3
       by_cases q1 : qt.size ≤ 12
       rotate_left
       ·have d1 : decide ((12 : Int) < (qt.size : Int)) = true := dzT q1
        have HF : Hid (fewB S = false) := HBAD.out (by rw [HQ.out, decide_eq_false q1, Bool.and_false]; rfl)
        clear q1
        go_wp2
        go_ret
        exact ⟨by rw [HRES.out, HF.out]; rfl, hBW⟩
       have d1 : decide ((12 : Int) < (qt.size : Int)) = false := dzF q1
       by_cases q4 : n4 ≤ 12
       rotate_left
       ·have d4 : decide ((12 : Int) < (n4 : Int)) = true := dzT q4
        have HF : Hid (fewB S = false) := HBAD.out (by rw [HQ.out, ← HN4.out, decide_eq_false q4]; rfl)
        clear q1 q4
        go_wp2
        go_ret
        exact ⟨by rw [HRES.out, HF.out]; rfl, hBW⟩
       have d4 : decide ((12 : Int) < (n4 : Int)) = false := dzF q4
       have HY : Hid (decide (qs.length ≤ 12) = true) := decide_eq_true (by have := HN4.out; omega)
       have HV9 : Hid (decide (qt.size ≤ 12) = true) := decide_eq_true q1
       clear q1
       go_wp2
       clear d1 d4
       clear hPc0 hPf0 hPc1 hPf1 hPc2 hPf2
       go_loop [6] (fun i => ∃ k : Nat, k ≤ n4 ∧ i = .int .i64 k ∧ Hid ((qs.take k).all tszB = true)) (fun i => n4 - (intOf i).toNat)
       case atStart => exact ⟨0, by omega, rfl, rfl⟩
       case round =>
        obtain ⟨j, hj, rfl, HJ⟩ := hrel
        by_cases hltj : j < n4
        ·have hjl : j < qs.length := by rw [← HN4.out]; exact hltj
         have HSJ := Lib.hid (HSZ.out.2.2 _ (List.getElem_mem hjl))
         have HTJ := Lib.hid (all_take tszB qs j hjl)
         have HBJ : Hid (tszB qs[j] = false → fewB S = false) := fun h => HBAD.out (by rw [HQ.out, all_bad tszB qs j hjl h]; simp)
         obtain ⟨b4, o4, rfl, hbl4, y1, y2, y3, y4⟩ := TsAt.at_ hTs hjl
         generalize qs[j]'hjl = t at y1 y2 y3 y4 HSJ HTJ HBJ
         obtain ⟨tb, tv, tn, ta⟩ := t
         simp only [] at y1 y2 y3 y4
         have z2 := HSJ.out.1
         have z3 := HSJ.out.2
         simp only [] at z2 z3
         have h0j : (0 : Int) ≤ (j : Int) := by omega
         have h1j : (j : Int) < (n4 : Int) := by omega
         have HTK : Hid (tszB ⟨tb, tv, tn, ta⟩ = (decide (tb.size ≤ 12) && decide (ta.size ≤ 8))) := rfl
         generalize tszB ⟨tb, tv, tn, ta⟩ = tk at HTJ HBJ HTK
         obtain ⟨hPc0, hPf0, hPc1, hPf1, hPc2, hPf2⟩ := hP.x3
         by_cases q1 : tb.size ≤ 12
         ·have d1 : decide ((12 : Int) < (tb.size : Int)) = false := dzF q1
          by_cases q2 : ta.size ≤ 8
          ·have d2 : decide ((8 : Int) < (ta.size : Int)) = false := dzF q2
           have HX : Hid ((qs.take (j + 1)).all tszB = true) := by rw [Hid, HTJ.out, HJ.out, HTK.out, decide_eq_true q1, decide_eq_true q2]; rfl
           clear q1 q2
           go_wp2
           go_round
           case rel => exact ⟨j + 1, by omega, by go_num, HX⟩
           case measure => simp [intOf]; omega
          ·have d2 : decide ((8 : Int) < (ta.size : Int)) = true := dzT q2
           have HF : Hid (fewB S = false) := HBJ.out (by rw [HTK.out, decide_eq_false q2, Bool.and_false])
           clear q1 q2
           go_wp2
           go_ret
           exact ⟨by rw [HRES.out, HF.out]; rfl, hBW⟩
         ·have d1 : decide ((12 : Int) < (tb.size : Int)) = true := dzT q1
          have HF : Hid (fewB S = false) := HBJ.out (by rw [HTK.out, decide_eq_false q1]; rfl)
          clear q1
          go_wp2
          go_ret
          exact ⟨by rw [HRES.out, HF.out]; rfl, hBW⟩
        ·have HE4 : Hid (qs.all tszB = true) := all_end tszB qs j (by rw [← HN4.out]; omega) HJ.out
         have HX : Hid ((S.eqs.take (k + 1)).all eszB = true) := by rw [Hid, HT.out, HA.out, HQ.out, HY.out, HV9.out, HE4.out]; rfl
         obtain ⟨hPc0, hPf0, hPc1, hPf1, hPc2, hPf2⟩ := hP.x3
         go_wp2
         go_round
         case rel => exact ⟨k + 1, by omega, by go_num, HX⟩
         case measure => simp [intOf]; omega
      ·have HE : Hid (S.eqs.all eszB = true) := all_end eszB S.eqs k (by rw [← HN3.out]; omega) HA.out
       have HF : Hid (fewB S = true) := by unfold Hid fewB; rw [HL1.out, HL2.out, HL3.out, HG.out, HV.out, HE.out]; rfl
       obtain ⟨hPc0, hPf0, hPc1, hPf1, hPc2, hPf2⟩ := hP.x3
       go_wp2
       go_ret
       exact ⟨by rw [HRES.out, HF.out]; rfl, hBW⟩

/-- the sizes of a rule and a statement -/
def ruleB (S : Sta) (C K : ByteArray) : Bool := decide (C.size ≤ 8) && decide (K.size ≤ 4) && fewB S

set_option maxHeartbeats 4000000 in
theorem fewR_c (S : Sta) (C K : ByteArray) (v1 v2 v3 : Value) (w : World) (hC : C.size ≤ 9223372036854775807) (hK : K.size ≤ 9223372036854775807) (hm : SSz S) (hS : StAt w v1 v2 v3 S) :
  Calls Tryz.prog 17 #[.agg #[.string C, .string K], .agg #[v1, v2, v3]] w fun e w' => e = .returned (.bool (ruleB S C K)) ∧ Below w.heap.size w w' := by
 have hR := blk2a w #[.string C, .string K] #[v1, v2, v3] 24 29
 have hP := blk2b w #[.string C, .string K] #[v1, v2, v3] 24 29
 have hBW := b2 w (.cells #[.string C, .string K] 24) (.cells #[v1, v2, v3] 29)
 have HFS : Hid (∀ w', Below w.heap.size w w' → Calls Tryz.prog 49 #[.agg #[v1, v2, v3]] w' fun e w'' => e = .returned (.bool (fewB S)) ∧ Below w'.heap.size w' w'') := fun w' hb => fewS_c S v1 v2 v3 w' hm (hS.after hb)
 clear hm hS
 obtain ⟨r, hr⟩ : ∃ r : Bool, r = ruleB S C K := ⟨_, rfl⟩
 have HRES := Lib.hid hr
 rw [← hr]
 clear hr
 have HQ : Hid (ruleB S C K = (decide (C.size ≤ 8) && decide (K.size ≤ 4) && fewB S)) := rfl
 generalize fewB S = fs at HFS HQ
 by_cases q1 : C.size ≤ 8
 rotate_left
 ·have d1 : decide ((C.size : Int) ≤ 8) = false := decide_eq_false (by omega)
  have HF : Hid (r = false) := by rw [Hid, HRES.out, HQ.out, decide_eq_false q1]; rfl
  clear q1
  obtain ⟨hRc0, hRf0, hRc1, hRf1⟩ := hR.x2
  obtain ⟨hPc0, hPf0, hPc1, hPf1, hPc2, hPf2⟩ := hP.x3
  go_enter Tryz.func17, Tryz.ntmps17
  go_wp2
  go_ret
  exact ⟨by rw [HF.out]; rfl, hBW⟩
 have d1 : decide ((C.size : Int) ≤ 8) = true := decide_eq_true (by omega)
 by_cases q2 : K.size ≤ 4
 rotate_left
 ·have d2 : decide ((K.size : Int) ≤ 4) = false := decide_eq_false (by omega)
  have HF : Hid (r = false) := by rw [Hid, HRES.out, HQ.out, decide_eq_false q2, Bool.and_false]; rfl
  clear q1 q2
  obtain ⟨hRc0, hRf0, hRc1, hRf1⟩ := hR.x2
  obtain ⟨hPc0, hPf0, hPc1, hPf1, hPc2, hPf2⟩ := hP.x3
  go_enter Tryz.func17, Tryz.ntmps17
  go_wp2
  go_ret
  exact ⟨by rw [HF.out]; rfl, hBW⟩
 have d2 : decide ((K.size : Int) ≤ 4) = true := decide_eq_true (by omega)
 have HF : Hid (r = fs) := by rw [Hid, HRES.out, HQ.out, decide_eq_true q1, decide_eq_true q2]; rfl
 clear q1 q2
 obtain ⟨hRc0, hRf0, hRc1, hRf1⟩ := hR.x2
 obtain ⟨hPc0, hPf0, hPc1, hPf1, hPc2, hPf2⟩ := hP.x3
 go_enter Tryz.func17, Tryz.ntmps17
 go_wp2_with fail
 refine (HFS.out _ hBW).mono ?_
 rintro e w2 ⟨rfl, hb2⟩
 go_wp2
 go_ret
 exact ⟨by rw [HF.out]; rfl, bt hBW hb2⟩

def tszV (x : ByteArray) : Bool := decide (x.size ≤ 24)
/-- the sizes of a case -/
def caseB (S : Sta) (C K ch sd : ByteArray) (W L : List (Bool × ByteArray)) (V : List ByteArray) : Bool := V.all tszV && (ruleB S C K && (shI W && (shI L && (decide (ch.size ≤ 8) && (decide (V.length ≤ 100) && decide (sd.size ≤ 60))))))
theorem caseB_inv {S : Sta} {C K ch sd : ByteArray} {W L : List (Bool × ByteArray)} {V : List ByteArray} (h : caseB S C K ch sd W L V = true) :
  C.size ≤ 8 ∧ K.size ≤ 8 ∧ fewB S = true ∧ W.length ≤ 20 ∧ (∀ x ∈ W, x.2.size ≤ 24) ∧ L.length ≤ 20 ∧ (∀ x ∈ L, x.2.size ≤ 24) ∧ ch.size ≤ 8 := by
 simp only [caseB, ruleB, shI, iszB, tszV, Bool.and_eq_true, decide_eq_true_eq, List.all_eq_true] at h
 obtain ⟨_, ⟨⟨h1, h2⟩, h3⟩, ⟨h4, h5⟩, ⟨h6, h7⟩, h8, _⟩ := h
 exact ⟨h1, by omega, h3, h5, h4, h7, h6, h8⟩

set_option maxHeartbeats 8000000 in
theorem fewC_c (S : Sta) (C K ch sd : ByteArray) (W L : List (Bool × ByteArray)) (V : List ByteArray) (ti : Int) (s1 s2 s3 xw xl xt : Option Addr) (m1 m2 m3 d1 d2 d3 nw pw nl pl nt pt : Nat) (w : World)
  (hC : C.size ≤ 9223372036854775807) (hK : K.size ≤ 9223372036854775807) (hz : SSz S) (hS : StAt w (.slice s1 m1 d1) (.slice s2 m2 d2) (.slice s3 m3 d3) S)
  (hp : CSz W L V ch sd) (hWl : IsAt w (.slice xw nw pw) W) (hLl : IsAt w (.slice xl nl pl) L) (hVl : SsAt w (.slice xt nt pt) V) :
  Calls Tryz.prog 6 #[.agg #[.string C, .string K, .slice s1 m1 d1, .slice s2 m2 d2, .slice s3 m3 d3, .slice xw nw pw, .string ch, .slice xl nl pl, .slice xt nt pt, .string sd, .int .i64 ti]] w fun e w' => e = .returned (.bool (caseB S C K ch sd W L V)) ∧ Below w.heap.size w w' := by
 obtain ⟨r, hr⟩ : ∃ r : Bool, r = caseB S C K ch sd W L V := ⟨_, rfl⟩
 have HRES := Lib.hid hr
 rw [← hr]
 clear hr
 have HP := Lib.hid hp
 have HFR : Hid (∀ w', Below w.heap.size w w' → Calls Tryz.prog 17 #[.agg #[.string C, .string K], .agg #[.slice s1 m1 d1, .slice s2 m2 d2, .slice s3 m3 d3]] w' fun e w'' => e = .returned (.bool (ruleB S C K)) ∧ Below w'.heap.size w' w'') := fun w' hb => fewR_c S C K _ _ _ w' hC hK hz (hS.after hb)
 have HSW : Hid (∀ w', Below w.heap.size w w' → Calls Tryz.prog 18 #[.slice xw nw pw] w' fun e w'' => e = .returned (.bool (shI W)) ∧ Below w'.heap.size w' w'') := fun w' hb => short17_c W _ w' hp.wn hp.w (IsAt.after hWl hb)
 have HSL : Hid (∀ w', Below w.heap.size w w' → Calls Tryz.prog 18 #[.slice xl nl pl] w' fun e w'' => e = .returned (.bool (shI L)) ∧ Below w'.heap.size w' w'') := fun w' hb => short17_c L _ w' hp.ln hp.l (IsAt.after hLl hb)
 have hcz := hp.c
 have hsz := hp.s
 obtain ⟨xo, xc, hxe⟩ := RAt.form hVl
 injection hxe with e1 e2 e3
 have hnt : nt ≤ 9223372036854775807 := by rw [e2]; exact hp.vn
 have HNT := Lib.hid e2
 clear e1 e2 e3 hC hK hz hS hp hWl hLl
 have HQ : Hid (caseB S C K ch sd W L V = (V.all tszV && (ruleB S C K && (shI W && (shI L && (decide (ch.size ≤ 8) && (decide (V.length ≤ 100) && decide (sd.size ≤ 60)))))))) := rfl
 have HBV : Hid (V.all tszV = false → r = false) := fun h => by rw [HRES.out, HQ.out, h]; rfl
 generalize ruleB S C K = fr at HFR HQ
 generalize shI W = fw at HSW HQ
 generalize shI L = fl at HSL HQ
 have hP := Blk.new w #[.string C, .string K, .slice s1 m1 d1, .slice s2 m2 d2, .slice s3 m3 d3, .slice xw nw pw, .string ch, .slice xl nl pl, .slice xt nt pt, .string sd, .int .i64 ti] 35
 have hBW := b1 w (.cells #[.string C, .string K, .slice s1 m1 d1, .slice s2 m2 d2, .slice s3 m3 d3, .slice xw nw pw, .string ch, .slice xl nl pl, .slice xt nt pt, .string sd, .int .i64 ti] 35)
 replace hVl := SsAt.after hVl hBW
 obtain ⟨hPc0, hPf0, hPc1, hPf1, hPc2, hPf2, hPc3, hPf3, hPc4, hPf4, hPc5, hPf5, hPc6, hPf6, hPc7, hPf7, hPc8, hPf8, hPc9, hPf9, hPc10, hPf10⟩ := hP.x11
 go_enter Tryz.func6, Tryz.ntmps6
 go_wp2
 clear hPc0 hPf0 hPc1 hPf1 hPc2 hPf2 hPc3 hPf3 hPc4 hPf4 hPc5 hPf5 hPc6 hPf6 hPc7 hPf7 hPc8 hPf8 hPc9 hPf9 hPc10 hPf10
 generalize w.alloc (.cells #[.string C, .string K, .slice s1 m1 d1, .slice s2 m2 d2, .slice s3 m3 d3, .slice xw nw pw, .string ch, .slice xl nl pl, .slice xt nt pt, .string sd, .int .i64 ti] 35) = w1 at hP hBW hVl
 replace hP : Blk w1 w.heap.size 35 [.string C, .string K, .slice s1 m1 d1, .slice s2 m2 d2, .slice s3 m3 d3, .slice xw nw pw, .string ch, .slice xl nl pl, .slice xt nt pt, .string sd, .int .i64 ti] := hP
 go_loop [3] (fun i => ∃ k : Nat, k ≤ nt ∧ k ≤ 100 ∧ i = .int .i64 k ∧ Hid ((V.take k).all tszV = true)) (fun i => nt - (intOf i).toNat)
 case atStart => exact ⟨0, by omega, by omega, rfl, rfl⟩
 case round =>
  obtain ⟨k, hk, hk100, rfl, HK⟩ := hrel
  by_cases hgo : k < nt ∧ k < 100
  ·obtain ⟨hlt, h100⟩ := hgo
   have hkl : k < V.length := by rw [← HNT.out]; exact hlt
   obtain ⟨b, o, rfl, hb, x1⟩ := SsAt.at_ hVl hkl
   have hkz := HP.out.v _ (List.getElem_mem hkl)
   have h0k : (0 : Int) ≤ (k : Int) := by omega
   have h1k : (k : Int) < (nt : Int) := by omega
   have h2k : (k : Int) < 100 := by omega
   have HT := Lib.hid (all_take tszV V k hkl)
   have HB : Hid (tszV V[k] = false → r = false) := fun h => HBV.out (all_bad tszV V k hkl h)
   have HX0 : Hid (tszV V[k] = decide (V[k].size ≤ 24)) := rfl
   generalize tszV (V[k]'hkl) = q at HT HB HX0
   generalize (V[k]'hkl) = s at x1 hkz HX0
   obtain ⟨hPc0, hPf0, hPc1, hPf1, hPc2, hPf2, hPc3, hPf3, hPc4, hPf4, hPc5, hPf5, hPc6, hPf6, hPc7, hPf7, hPc8, hPf8, hPc9, hPf9, hPc10, hPf10⟩ := hP.x11
   by_cases h8 : s.size ≤ 24
   ·have hd : decide ((24 : Int) < (s.size : Int)) = false := dzF h8
    have HX : Hid ((V.take (k + 1)).all tszV = true) := by rw [Hid, HT.out, HK.out, HX0.out, decide_eq_true h8]; rfl
    clear h8
    go_wp2
    go_round
    case rel => exact ⟨k + 1, by omega, by omega, by go_num, HX⟩
    case measure => simp [intOf]; omega
   ·have hd : decide ((24 : Int) < (s.size : Int)) = true := dzT h8
    have HF : Hid (r = false) := HB.out (by rw [HX0.out]; exact decide_eq_false h8)
    clear h8
    go_wp2
    go_ret
    exact ⟨by rw [HF.out]; rfl, hBW⟩
  ·have HRT : Hid (r = ((decide (nt ≤ 100) && V.all tszV) && (fr && (fw && (fl && (decide (ch.size ≤ 8) && (decide (nt ≤ 100) && decide (sd.size ≤ 60)))))))) := by
    rw [Hid, HRES.out, HQ.out, ← HNT.out]
    by_cases hx : nt ≤ 100
    ·rw [decide_eq_true hx]; rfl
    ·rw [decide_eq_false hx]; simp
   have HRU : Hid (r = (fr && (fw && (fl && (decide (ch.size ≤ 8) && (decide (nt ≤ 100) && decide (sd.size ≤ 60))))))) := by
    rw [Hid, HRT.out]
    by_cases hx : nt ≤ 100
    ·rw [decide_eq_true hx, all_end tszV V k (by rw [← HNT.out]; omega) HK.out]; rfl
    ·rw [decide_eq_false hx]; simp
   clear HRT HBV HK
   by_cases hkn : k < nt
   ·have hk2 : k = 100 := by omega
    have h1k : (k : Int) < (nt : Int) := by omega
    have HN2 : Hid (¬ nt ≤ 100) := by rw [Hid]; omega
    subst hk2
    clear hgo hk100 hk
    obtain ⟨hPc0, hPf0, hPc1, hPf1, hPc2, hPf2, hPc3, hPf3, hPc4, hPf4, hPc5, hPf5, hPc6, hPf6, hPc7, hPf7, hPc8, hPf8, hPc9, hPf9, hPc10, hPf10⟩ := hP.x11
    go_wp2_with fail
    refine (HFR.out _ hBW).mono ?_
    rintro e w2 ⟨rfl, hb2⟩
    clear hPc0 hPf0 hPc1 hPf1 hPc2 hPf2 hPc3 hPf3 hPc4 hPf4 hPc5 hPf5 hPc6 hPf6 hPc7 hPf7 hPc8 hPf8 hPc9 hPf9 hPc10 hPf10
    replace hP := hP.after hb2
    replace hBW := bt hBW hb2
    clear hb2
    cases fr
    ·have HF : Hid (r = false) := by rw [Hid, HRU.out]; rfl
     go_wp2
     go_ret
     exact ⟨by rw [HF.out]; rfl, hBW⟩
    obtain ⟨hPc0, hPf0, hPc1, hPf1, hPc2, hPf2, hPc3, hPf3, hPc4, hPf4, hPc5, hPf5, hPc6, hPf6, hPc7, hPf7, hPc8, hPf8, hPc9, hPf9, hPc10, hPf10⟩ := hP.x11
    go_wp2_with fail
    refine (HSW.out _ hBW).mono ?_
    rintro e w3 ⟨rfl, hb3⟩
    clear hPc0 hPf0 hPc1 hPf1 hPc2 hPf2 hPc3 hPf3 hPc4 hPf4 hPc5 hPf5 hPc6 hPf6 hPc7 hPf7 hPc8 hPf8 hPc9 hPf9 hPc10 hPf10
    replace hP := hP.after hb3
    replace hBW := bt hBW hb3
    clear hb3
    cases fw
    ·have HF : Hid (r = false) := by rw [Hid, HRU.out]; rfl
     go_wp2
     go_ret
     exact ⟨by rw [HF.out]; rfl, hBW⟩
    obtain ⟨hPc0, hPf0, hPc1, hPf1, hPc2, hPf2, hPc3, hPf3, hPc4, hPf4, hPc5, hPf5, hPc6, hPf6, hPc7, hPf7, hPc8, hPf8, hPc9, hPf9, hPc10, hPf10⟩ := hP.x11
    go_wp2_with fail
    refine (HSL.out _ hBW).mono ?_
    rintro e w4 ⟨rfl, hb4⟩
    clear hPc0 hPf0 hPc1 hPf1 hPc2 hPf2 hPc3 hPf3 hPc4 hPf4 hPc5 hPf5 hPc6 hPf6 hPc7 hPf7 hPc8 hPf8 hPc9 hPf9 hPc10 hPf10
    replace hP := hP.after hb4
    replace hBW := bt hBW hb4
    clear hb4
    cases fl
    ·have HF : Hid (r = false) := by rw [Hid, HRU.out]; rfl
     go_wp2
     go_ret
     exact ⟨by rw [HF.out]; rfl, hBW⟩
    by_cases q1 : ch.size ≤ 8
    rotate_left
    ·have dq1 : decide ((ch.size : Int) ≤ 8) = false := decide_eq_false (by omega)
     have HF : Hid (r = false) := by rw [Hid, HRU.out, decide_eq_false q1]; rfl
     clear q1
     obtain ⟨hPc0, hPf0, hPc1, hPf1, hPc2, hPf2, hPc3, hPf3, hPc4, hPf4, hPc5, hPf5, hPc6, hPf6, hPc7, hPf7, hPc8, hPf8, hPc9, hPf9, hPc10, hPf10⟩ := hP.x11
     go_wp2
     go_ret
     exact ⟨by rw [HF.out]; rfl, hBW⟩
    have dq1 : decide ((ch.size : Int) ≤ 8) = true := decide_eq_true (by omega)
    have dq2 : decide ((nt : Int) ≤ 100) = false := decide_eq_false (by have := HN2.out; omega)
    have HF : Hid (r = false) := by rw [Hid, HRU.out, decide_eq_false HN2.out]; simp
    clear q1
    obtain ⟨hPc0, hPf0, hPc1, hPf1, hPc2, hPf2, hPc3, hPf3, hPc4, hPf4, hPc5, hPf5, hPc6, hPf6, hPc7, hPf7, hPc8, hPf8, hPc9, hPf9, hPc10, hPf10⟩ := hP.x11
    go_wp2
    go_ret
    exact ⟨by rw [HF.out]; rfl, hBW⟩
   ·obtain rfl : k = nt := by omega
    clear hgo hkn
    obtain ⟨hPc0, hPf0, hPc1, hPf1, hPc2, hPf2, hPc3, hPf3, hPc4, hPf4, hPc5, hPf5, hPc6, hPf6, hPc7, hPf7, hPc8, hPf8, hPc9, hPf9, hPc10, hPf10⟩ := hP.x11
    go_wp2_with fail
    refine (HFR.out _ hBW).mono ?_
    rintro e w2 ⟨rfl, hb2⟩
    clear hPc0 hPf0 hPc1 hPf1 hPc2 hPf2 hPc3 hPf3 hPc4 hPf4 hPc5 hPf5 hPc6 hPf6 hPc7 hPf7 hPc8 hPf8 hPc9 hPf9 hPc10 hPf10
    replace hP := hP.after hb2
    replace hBW := bt hBW hb2
    clear hb2
    cases fr
    ·have HF : Hid (r = false) := by rw [Hid, HRU.out]; rfl
     go_wp2
     go_ret
     exact ⟨by rw [HF.out]; rfl, hBW⟩
    obtain ⟨hPc0, hPf0, hPc1, hPf1, hPc2, hPf2, hPc3, hPf3, hPc4, hPf4, hPc5, hPf5, hPc6, hPf6, hPc7, hPf7, hPc8, hPf8, hPc9, hPf9, hPc10, hPf10⟩ := hP.x11
    go_wp2_with fail
    refine (HSW.out _ hBW).mono ?_
    rintro e w3 ⟨rfl, hb3⟩
    clear hPc0 hPf0 hPc1 hPf1 hPc2 hPf2 hPc3 hPf3 hPc4 hPf4 hPc5 hPf5 hPc6 hPf6 hPc7 hPf7 hPc8 hPf8 hPc9 hPf9 hPc10 hPf10
    replace hP := hP.after hb3
    replace hBW := bt hBW hb3
    clear hb3
    cases fw
    ·have HF : Hid (r = false) := by rw [Hid, HRU.out]; rfl
     go_wp2
     go_ret
     exact ⟨by rw [HF.out]; rfl, hBW⟩
    obtain ⟨hPc0, hPf0, hPc1, hPf1, hPc2, hPf2, hPc3, hPf3, hPc4, hPf4, hPc5, hPf5, hPc6, hPf6, hPc7, hPf7, hPc8, hPf8, hPc9, hPf9, hPc10, hPf10⟩ := hP.x11
    go_wp2_with fail
    refine (HSL.out _ hBW).mono ?_
    rintro e w4 ⟨rfl, hb4⟩
    clear hPc0 hPf0 hPc1 hPf1 hPc2 hPf2 hPc3 hPf3 hPc4 hPf4 hPc5 hPf5 hPc6 hPf6 hPc7 hPf7 hPc8 hPf8 hPc9 hPf9 hPc10 hPf10
    replace hP := hP.after hb4
    replace hBW := bt hBW hb4
    clear hb4
    cases fl
    ·have HF : Hid (r = false) := by rw [Hid, HRU.out]; rfl
     go_wp2
     go_ret
     exact ⟨by rw [HF.out]; rfl, hBW⟩
    by_cases q1 : ch.size ≤ 8
    rotate_left
    ·have dq1 : decide ((ch.size : Int) ≤ 8) = false := decide_eq_false (by omega)
     have HF : Hid (r = false) := by rw [Hid, HRU.out, decide_eq_false q1]; rfl
     clear q1
     obtain ⟨hPc0, hPf0, hPc1, hPf1, hPc2, hPf2, hPc3, hPf3, hPc4, hPf4, hPc5, hPf5, hPc6, hPf6, hPc7, hPf7, hPc8, hPf8, hPc9, hPf9, hPc10, hPf10⟩ := hP.x11
     go_wp2
     go_ret
     exact ⟨by rw [HF.out]; rfl, hBW⟩
    have dq1 : decide ((ch.size : Int) ≤ 8) = true := decide_eq_true (by omega)
    have dq2 : decide ((k : Int) ≤ 100) = true := decide_eq_true (by omega)
    have HY2 : Hid (decide (k ≤ 100) = true) := decide_eq_true hk100
    by_cases q3 : sd.size ≤ 60
    ·have dq3 : decide ((sd.size : Int) ≤ 60) = true := decide_eq_true (by omega)
     have HF : Hid (r = true) := by rw [Hid, HRU.out, decide_eq_true q1, HY2.out, decide_eq_true q3]; rfl
     clear q1 q3 hk100
     obtain ⟨hPc0, hPf0, hPc1, hPf1, hPc2, hPf2, hPc3, hPf3, hPc4, hPf4, hPc5, hPf5, hPc6, hPf6, hPc7, hPf7, hPc8, hPf8, hPc9, hPf9, hPc10, hPf10⟩ := hP.x11
     go_wp2
     go_ret
     exact ⟨by rw [HF.out]; rfl, hBW⟩
    ·have dq3 : decide ((sd.size : Int) ≤ 60) = false := decide_eq_false (by omega)
     have HF : Hid (r = false) := by rw [Hid, HRU.out, decide_eq_false q3]; simp
     clear q1 q3 hk100
     obtain ⟨hPc0, hPf0, hPc1, hPf1, hPc2, hPf2, hPc3, hPf3, hPc4, hPf4, hPc5, hPf5, hPc6, hPf6, hPc7, hPf7, hPc8, hPf8, hPc9, hPf9, hPc10, hPf10⟩ := hP.x11
     go_wp2
     go_ret
     exact ⟨by rw [HF.out]; rfl, hBW⟩
end Go.Proofs.YtehoiholhkfcpaaGreat
end

section
set_option linter.unusedVariables false
set_option linter.unusedSimpArgs false
set_option maxRecDepth 100000
namespace Go.Proofs.YtehoiholhkfcpaaGreat
open Go.RowKit Go.Shelf

theorem row1 {α : Type} {Q : World → α → List Value → Prop} {size : Nat} {w : World} {b : Nat} {T : TypeId} {cs : List Value} {x : α} (h : Blk w b T cs) (hq : Q w x cs) : RAt Q size w (.slice (some ⟨b, 0, none⟩) 1 1) [x] := by
 refine ⟨_, _, rfl, .inr ⟨b, 0, rfl, h.lt, fun j hj => ⟨cs, ?_, fun i _ => ?_⟩⟩⟩
 ·obtain rfl : j = 0 := by simpa using hj
  exact hq
 ·obtain rfl : j = 0 := by simpa using hj
  rw [show 0 + 0 * size + i = i by omega]; exact h.cell i

theorem z1row {w : World} {b : Nat} {T : TypeId} {z : Int} {s : ByteArray} (h : Blk w b T [.bool false, .string s]) (hz : zI z = (false, s)) : ZsAt w (.slice (some ⟨b, 0, none⟩) 1 1) [z] :=
 row1 (x := zI z) h (by show _ = _; rw [hz])

/-- the statement of the examples -/
def exS (b : Nat) : NSta := ⟨[(23, 11)], [b], [⟨0, 18, [⟨4, 0, 1⟩]⟩]⟩
theorem exS_ok (b : Nat) (h : b < 256 ^ 16) : NOk (exS b) where
 ng := by simp [exS]
 nv := by simp [exS]
 ne := by simp [exS]
 g := by intro x hx; simp [exS] at hx; subst hx; decide
 v := by intro x hx; simp [exS] at hx; subst hx; exact h
 e := by
  intro x hx; simp [exS] at hx; subst hx
  refine ⟨by simp [exS], by decide, by simp, fun t ht => ?_⟩
  simp at ht; subst ht
  refine ⟨by decide, by simp [exS], by decide⟩

/-- what example returns -/
def SPost (w : World) (N : NSta) (e : Ending) (w' : World) : Prop :=
 ∃ v1 v2 v3, e = .returned (.agg #[v1, v2, v3]) ∧ NAt w' v1 v2 v3 N ∧ Below w.heap.size w w'

set_option maxHeartbeats 3200000 in
theorem example_c (b : Nat) (w : World) : Calls Tryz.prog 19 #[.string (E b)] w (SPost w (exS b)) := by
 go_enter Tryz.func19, Tryz.ntmps19
 go_upto_region 1 with fail
 have hR := Blk.new w #[.slice none 0 0, .slice none 0 0, .slice none 0 0] 29
 have hBW := b1 w (.cells #[.slice none 0 0, .slice none 0 0, .slice none 0 0] 29)
 generalize w.alloc (.cells #[.slice none 0 0, .slice none 0 0, .slice none 0 0] 29) = w1 at hR hBW ⊢
 replace hR : Blk w1 w.heap.size 29 [.slice none 0 0, .slice none 0 0, .slice none 0 0] := hR
 obtain ⟨g, hg⟩ : ∃ g, w.heap.size = g := ⟨_, rfl⟩
 rw [hg] at hR ⊢
 have HG := Lib.hid hg
 clear hg
 have hRl := hR.lt
 have n1 : ¬ w1.heap.size = g := by omega
 have n2 : ¬ w1.heap.size + 1 = g := by omega
 have n3 : ¬ w1.heap.size + 1 + 1 = g := by omega
 have n4 : ¬ w1.heap.size + 1 + 1 + 1 = g := by omega
 have hR4 := (((hR.alloc (.cells #[.string { data := #[23] }, .string { data := #[11] }] 90)).alloc (.cells #[.string (E b)] 64)).alloc (.cells #[.string { data := #[4] }, .int .i64 0, .bool false, .string { data := #[1] }] 92)).alloc (.cells #[.int .i64 0, .string { data := #[18] }, .slice (some ⟨w1.heap.size + 1 + 1, 0, none⟩) 1 1] 95)
 have hGb := (((Blk.new w1 #[.string { data := #[23] }, .string { data := #[11] }] 90).alloc (.cells #[.string (E b)] 64)).alloc (.cells #[.string { data := #[4] }, .int .i64 0, .bool false, .string { data := #[1] }] 92)).alloc (.cells #[.int .i64 0, .string { data := #[18] }, .slice (some ⟨w1.heap.size + 1 + 1, 0, none⟩) 1 1] 95)
 have hVb := ((Blk.new (w1.alloc (.cells #[.string { data := #[23] }, .string { data := #[11] }] 90)) #[.string (E b)] 64).alloc (.cells #[.string { data := #[4] }, .int .i64 0, .bool false, .string { data := #[1] }] 92)).alloc (.cells #[.int .i64 0, .string { data := #[18] }, .slice (some ⟨w1.heap.size + 1 + 1, 0, none⟩) 1 1] 95)
 have hTb := (Blk.new ((w1.alloc (.cells #[.string { data := #[23] }, .string { data := #[11] }] 90)).alloc (.cells #[.string (E b)] 64)) #[.string { data := #[4] }, .int .i64 0, .bool false, .string { data := #[1] }] 92).alloc (.cells #[.int .i64 0, .string { data := #[18] }, .slice (some ⟨w1.heap.size + 1 + 1, 0, none⟩) 1 1] 95)
 have hQb := Blk.new (((w1.alloc (.cells #[.string { data := #[23] }, .string { data := #[11] }] 90)).alloc (.cells #[.string (E b)] 64)).alloc (.cells #[.string { data := #[4] }, .int .i64 0, .bool false, .string { data := #[1] }] 92)) #[.int .i64 0, .string { data := #[18] }, .slice (some ⟨w1.heap.size + 1 + 1, 0, none⟩) 1 1] 95
 have hB4 := ba (ba (ba (ba hBW (.cells #[.string { data := #[23] }, .string { data := #[11] }] 90)) (.cells #[.string (E b)] 64)) (.cells #[.string { data := #[4] }, .int .i64 0, .bool false, .string { data := #[1] }] 92)) (.cells #[.int .i64 0, .string { data := #[18] }, .slice (some ⟨w1.heap.size + 1 + 1, 0, none⟩) 1 1] 95)
 clear hRl n1 n2 n3 n4
 obtain ⟨hR4c0, hR4f0, hR4c1, hR4f1, hR4c2, hR4f2⟩ := hR4.x3
 go_wp2
 clear hR4c0 hR4f0 hR4c1 hR4f1 hR4c2 hR4f2
 have hRl := hR.lt
 have n1 : ¬ w1.heap.size = g := by omega
 have n2 : ¬ w1.heap.size + 1 = g := by omega
 have n3 : ¬ w1.heap.size + 1 + 1 = g := by omega
 have n4 : ¬ w1.heap.size + 1 + 1 + 1 = g := by omega
 simp only [World.size_alloc] at hGb hVb hTb hQb
 have hR0 := ((hR4.set 0 (.slice (some ⟨w1.heap.size, 0, none⟩) 1 1)).set 1 (.slice (some ⟨w1.heap.size + 1, 0, none⟩) 1 1)).set 2 (.slice (some ⟨w1.heap.size + 1 + 1 + 1, 0, none⟩) 1 1)
 have c0 := hR0.cell 0
 have c1 := hR0.cell 1
 have c2 := hR0.cell 2
 refine bodyPost_ret (v := .agg #[.slice (some ⟨w1.heap.size, 0, none⟩) 1 1, .slice (some ⟨w1.heap.size + 1, 0, none⟩) 1 1, .slice (some ⟨w1.heap.size + 1 + 1 + 1, 0, none⟩) 1 1]) ?_ rfl ⟨_, _, _, rfl, StAt.mk ?_ ?_ ?_, ?_⟩
 ·simp at c0 c1 c2
  simp [results, Tryz.results19, go_sem, c0, c1, c2]
 ·exact row1 (((hGb.other _ _ n1).other _ _ n1).other _ _ n1) rfl
 ·exact row1 (((hVb.other _ _ n2).other _ _ n2).other _ _ n2) rfl
 ·exact row1 (((hQb.other _ _ n4).other _ _ n4).other _ _ n4) ⟨_, rfl, row1 (((hTb.other _ _ n3).other _ _ n3).other _ _ n3) rfl⟩
 ·exact ((hB4.setCell (by rw [HG.out]; exact Nat.le_refl _) _).setCell (by rw [HG.out]; exact Nat.le_refl _) _).setCell (by rw [HG.out]; exact Nat.le_refl _) _

/-- contracts of the examples, with letters for the numbers -/
def HEx (b : ByteArray) (N : NSta) : Prop := ∀ w, Calls Tryz.prog 19 #[.string b] w fun e w' => ∃ a1 a2 a3 n1 n2 n3 c1 c2 c3, e = .returned (.agg #[.slice a1 n1 c1, .slice a2 n2 c2, .slice a3 n3 c3]) ∧ NAt w' (.slice a1 n1 c1) (.slice a2 n2 c2) (.slice a3 n3 c3) N ∧ Below w.heap.size w w'
def HFi (k2 k1 : ByteArray) (N : NSta) (Z : List Int) (F : List ByteArray) (er : Int) : Prop := ∀ (w : World) (s1 s2 s3 xl : Option Addr) (m1 m2 m3 d1 d2 d3 nl pl : Nat), NAt w (.slice s1 m1 d1) (.slice s2 m2 d2) (.slice s3 m3 d3) N → ZsAt w (.slice xl nl pl) Z →
 Calls Tryz.prog 8 #[.agg #[.string k2, .string k2], .agg #[.slice s1 m1 d1, .slice s2 m2 d2, .slice s3 m3 d3], .string k1, .slice xl nl pl] w fun e w' => ∃ a n c, e = .returned (.tuple #[.slice a n c, .int .i64 er]) ∧ SsAt w' (.slice a n c) F ∧ Below w.heap.size w w'
def HXp (k2 k1 : ByteArray) (N : NSta) (W Y M : List Int) (F : List ByteArray) : Prop := ∀ (w : World) (s1 s2 s3 xw xf xl : Option Addr) (m1 m2 m3 d1 d2 d3 nw pw nf pf nl pl : Nat), NAt w (.slice s1 m1 d1) (.slice s2 m2 d2) (.slice s3 m3 d3) N → ZsAt w (.slice xw nw pw) W → SsAt w (.slice xf nf pf) F → ZsAt w (.slice xl nl pl) Y →
 Calls Tryz.prog 12 #[.agg #[.string k2, .string k2], .agg #[.slice s1 m1 d1, .slice s2 m2 d2, .slice s3 m3 d3], .slice xw nw pw, .agg #[.slice xf nf pf, .string k1, .slice xl nl pl]] w fun e w' => ∃ a n c, e = .returned (.tuple #[.slice a n c, .int .i64 0]) ∧ ZsAt w' (.slice a n c) M ∧ Below w.heap.size w w'
def HCo (k2 : ByteArray) (N : NSta) (M : List Int) (F : List ByteArray) : Prop := ∀ (w : World) (s1 s2 s3 xl : Option Addr) (m1 m2 m3 d1 d2 d3 nl pl : Nat), NAt w (.slice s1 m1 d1) (.slice s2 m2 d2) (.slice s3 m3 d3) N → ZsAt w (.slice xl nl pl) M →
 Calls Tryz.prog 15 #[.agg #[.string k2, .string k2], .agg #[.slice s1 m1 d1, .slice s2 m2 d2, .slice s3 m3 d3], .slice xl nl pl] w fun e w' => ∃ a n c, e = .returned (.tuple #[.slice a n c, .int .i64 0]) ∧ SsAt w' (.slice a n c) F ∧ Below w.heap.size w w'
def HEn (F : List ByteArray) : Prop := ∀ (w : World) (u v : Value), SsAt w u F → SsAt w v F → Calls Tryz.prog 10 #[u, v] w fun e w' => e = .returned (.bool true) ∧ Below w.heap.size w w'
def HEz (Z : List Int) : Prop := ∀ (w : World) (u v : Value), ZsAt w u Z → ZsAt w v Z → Calls Tryz.prog 14 #[u, v] w fun e w' => e = .returned (.bool true) ∧ Below w.heap.size w w'

set_option maxHeartbeats 8000000 in
theorem awake_l (k0 k1 k2 k4 k5 k3 k13 k16 k17 : ByteArray) (N0 N4 : NSta) (w : World) (z5 z3 z2 z13 : Int)
  (l0 : k0 = { data := #[] }) (l1 : k1 = { data := #[1] }) (l2 : k2 = { data := #[2] }) (l4 : k4 = { data := #[4] }) (l5 : zI z5 = (false, { data := #[5] })) (l3 : zI z3 = (false, { data := #[3] })) (l22 : zI z2 = (false, { data := #[2] })) (l13 : zI z13 = (false, { data := #[13] })) (l16 : k16 = { data := #[16] }) (l17 : k17 = { data := #[17] })
  (e0 : HEx k0 N0) (e4 : HEx k4 N4) (f1 : HFi k2 k1 N0 [z5] [k16] 0) (x1 : HXp k2 k1 N0 [z3] [z5] [z2] [k16]) (x2 : HXp k2 k1 N4 [z3] [z5] [z2] [k16]) (c1 : HCo k2 N4 [z2] [k17]) (f2 : HFi k2 k1 N4 [z13] [] 2)
  (q1 : HEn [k16]) (q2 : HEz [z2]) (q3 : HEn [k17]) :
  Calls Tryz.prog 7 #[] w fun e w' => e = .returned (.bool true) ∧ Below w.heap.size w w' := by
 unfold HEx at e0 e4
 unfold HFi at f1 f2
 unfold HXp at x1 x2
 unfold HCo at c1
 unfold HEn at q1 q3
 unfold HEz at q2
 subst l0 l1 l2 l4 l16 l17
 have HE0 := Lib.hid e0
 have HE4 := Lib.hid e4
 have HF1 := Lib.hid f1
 have HF2 := Lib.hid f2
 have HX1 := Lib.hid x1
 have HX2 := Lib.hid x2
 have HC1 := Lib.hid c1
 have HQ1 := Lib.hid q1
 have HQ2 := Lib.hid q2
 have HQ3 := Lib.hid q3
 have L5 := Lib.hid l5
 have L3 := Lib.hid l3
 have L22 := Lib.hid l22
 have L13 := Lib.hid l13
 clear e0 e4 f1 f2 x1 x2 c1 q1 q2 q3 l5 l3 l22 l13
 go_enter Tryz.func7, Tryz.ntmps7
 go_upto_region 2 with fail
 have hR := Blk.new w #[.string { data := #[2] }, .string { data := #[2] }] 24
 have hBW := b1 w (.cells #[.string { data := #[2] }, .string { data := #[2] }] 24)
 generalize w.alloc (.cells #[.string { data := #[2] }, .string { data := #[2] }] 24) = w1 at hR hBW ⊢
 replace hR : Blk w1 w.heap.size 24 [.string { data := #[2] }, .string { data := #[2] }] := hR
 obtain ⟨g, hg⟩ : ∃ g, w.heap.size = g := ⟨_, rfl⟩
 rw [hg] at hR ⊢
 clear hg
 go_upto_region 3 with fail
 have hU := Blk.new w1 #[.bool false, .string { data := #[5] }] 53
 replace hR := hR.alloc (.cells #[.bool false, .string { data := #[5] }] 53)
 replace hBW := ba hBW (.cells #[.bool false, .string { data := #[5] }] 53)
 have h5 : ZsAt (w1.alloc (.cells #[.bool false, .string { data := #[5] }] 53)) (.slice (some ⟨w1.heap.size, 0, none⟩) 1 1) [z5] := z1row hU L5.out
 generalize w1.alloc (.cells #[.bool false, .string { data := #[5] }] 53) = w2 at hR hBW h5 ⊢
 obtain ⟨g5, hg5⟩ : ∃ g, w1.heap.size = g := ⟨_, rfl⟩
 rw [hg5] at h5 ⊢
 clear hg5 hU
 go_upto_region 4 with fail
 have hU := Blk.new w2 #[.bool false, .string { data := #[3] }] 53
 replace hR := hR.alloc (.cells #[.bool false, .string { data := #[3] }] 53)
 replace hBW := ba hBW (.cells #[.bool false, .string { data := #[3] }] 53)
 replace h5 := ZsAt.after h5 (b1 w2 (.cells #[.bool false, .string { data := #[3] }] 53))
 have h3 : ZsAt (w2.alloc (.cells #[.bool false, .string { data := #[3] }] 53)) (.slice (some ⟨w2.heap.size, 0, none⟩) 1 1) [z3] := z1row hU L3.out
 generalize w2.alloc (.cells #[.bool false, .string { data := #[3] }] 53) = w3 at hR hBW h5 h3 ⊢
 obtain ⟨g3, hg3⟩ : ∃ g, w2.heap.size = g := ⟨_, rfl⟩
 rw [hg3] at h3 ⊢
 clear hg3 hU
 have hC : CA w3 [(⟨g, 0, none⟩, .string { data := #[2] }), (⟨g, 1, none⟩, .string { data := #[2] })] := CA.cons hR.lt (hR.cell 0) (CA.cons hR.lt (hR.cell 1) (CA.nil _))
 clear hR
 go_wp2_with fail
 go_region_held3 (fun w' => w'.cell? ⟨g, 0, none⟩ = some (.string { data := #[2] }) ∧ w'.cell? ⟨g, 1, none⟩ = some (.string { data := #[2] })) ((refine CA.k2 ?_; repeat (first | (with_reducible exact hCda) | (with_reducible exact hCea) | (with_reducible exact hC) | (with_reducible refine CA.drew ?_) | (with_reducible refine CA.alloc ?_ _))))
  (first | (go_at_call 19; (with_reducible refine (HE0.out _).mono ?_); rintro e wea ⟨a1a, a2a, a3a, n1a, n2a, n3a, c1a, c2a, c3a, rfl, hSea, hbea⟩; have hCea : CA wea [(⟨g, 0, none⟩, .string { data := #[2] }), (⟨g, 1, none⟩, .string { data := #[2] })] := hC.drew.after hbea; have hBea : Below w3.heap.size w3 wea := Below.trans (Below.drew (Below.refl w3.heap.size w3)) hbea; have h5ea := ZsAt.after h5 (Below.trans (Below.drew (Below.refl w3.heap.size w3)) hbea); have h3ea := ZsAt.after h3 (Below.trans (Below.drew (Below.refl w3.heap.size w3)) hbea)) | (go_at_call 8; (with_reducible refine (HF1.out _ _ _ _ _ _ _ _ _ _ _ _ _ hSea h5ea).mono ?_); rintro e wda ⟨xf, nf, pf, rfl, f6, hbda⟩; have hCda : CA wda [(⟨g, 0, none⟩, .string { data := #[2] }), (⟨g, 1, none⟩, .string { data := #[2] })] := hCea.after hbda; have hBda := bt hBea hbda; have h5da := ZsAt.after h5ea hbda; have h3da := ZsAt.after h3ea hbda))
 replace hBW := bt hBW hBda
 clear hC h5 h3
 have hC := hCda
 have h5 := h5da
 have h3 := h3da
 clear hCda h5da h3da hCea hBea hSea hbea h5ea h3ea hbda hBda
 go_wp2_with fail
 go_region_held3 (fun w' => w'.cell? ⟨g, 0, none⟩ = some (.string { data := #[2] }) ∧ w'.cell? ⟨g, 1, none⟩ = some (.string { data := #[2] })) ((refine CA.k2 ?_; repeat (first | (with_reducible exact hCdb) | (with_reducible exact hCeb) | (with_reducible exact hC) | (with_reducible refine CA.drew ?_) | (with_reducible refine CA.alloc ?_ _))))
  (first | (go_at_call 19; (with_reducible refine (HE0.out _).mono ?_); rintro e web ⟨a1b, a2b, a3b, n1b, n2b, n3b, c1b, c2b, c3b, rfl, hSeb, hbeb⟩; have hCeb : CA web [(⟨g, 0, none⟩, .string { data := #[2] }), (⟨g, 1, none⟩, .string { data := #[2] })] := hC.drew.after hbeb; have hBeb : Below wda.heap.size wda web := Below.trans (Below.drew (Below.refl wda.heap.size wda)) hbeb; have h5eb := ZsAt.after h5 (Below.trans (Below.drew (Below.refl wda.heap.size wda)) hbeb); have h3eb := ZsAt.after h3 (Below.trans (Below.drew (Below.refl wda.heap.size wda)) hbeb); have f6eb := SsAt.after f6 (Below.trans (Below.drew (Below.refl wda.heap.size wda)) hbeb)) | (go_at_call 12; (with_reducible refine (HX1.out _ _ _ _ _ _ _ _ _ _ _ _ _ _ _ _ _ _ _ hSeb h3eb f6eb h5eb).mono ?_); rintro e wdb ⟨xhm, nhm, phm, rfl, hm, hbdb⟩; have hCdb : CA wdb [(⟨g, 0, none⟩, .string { data := #[2] }), (⟨g, 1, none⟩, .string { data := #[2] })] := hCeb.after hbdb; have hBdb := bt hBeb hbdb; have h5db := ZsAt.after h5eb hbdb; have h3db := ZsAt.after h3eb hbdb; have f6db := SsAt.after f6eb hbdb))
 replace hBW := bt hBW hBdb
 clear hC h5 h3 f6
 have hC := hCdb
 have h5 := h5db
 have h3 := h3db
 have f6 := f6db
 clear hCdb h5db h3db f6db hCeb hBeb hSeb hbeb h5eb h3eb f6eb hbdb hBdb
 go_wp2_with fail
 go_region_held3 (fun w' => w'.cell? ⟨g, 0, none⟩ = some (.string { data := #[2] }) ∧ w'.cell? ⟨g, 1, none⟩ = some (.string { data := #[2] })) ((refine CA.k2 ?_; repeat (first | (with_reducible exact hCdc) | (with_reducible exact hCec) | (with_reducible exact hC) | (with_reducible refine CA.drew ?_) | (with_reducible refine CA.alloc ?_ _))))
  (first | (go_at_call 19; (with_reducible refine (HE4.out _).mono ?_); rintro e wec ⟨a1c, a2c, a3c, n1c, n2c, n3c, c1c, c2c, c3c, rfl, hSec, hbec⟩; have hCec : CA wec [(⟨g, 0, none⟩, .string { data := #[2] }), (⟨g, 1, none⟩, .string { data := #[2] })] := hC.drew.after hbec; have hBec : Below wdb.heap.size wdb wec := Below.trans (Below.drew (Below.refl wdb.heap.size wdb)) hbec; have h5ec := ZsAt.after h5 (Below.trans (Below.drew (Below.refl wdb.heap.size wdb)) hbec); have h3ec := ZsAt.after h3 (Below.trans (Below.drew (Below.refl wdb.heap.size wdb)) hbec); have f6ec := SsAt.after f6 (Below.trans (Below.drew (Below.refl wdb.heap.size wdb)) hbec); have hmec := ZsAt.after hm (Below.trans (Below.drew (Below.refl wdb.heap.size wdb)) hbec)) | (go_at_call 12; (with_reducible refine (HX2.out _ _ _ _ _ _ _ _ _ _ _ _ _ _ _ _ _ _ _ hSec h3ec f6ec h5ec).mono ?_); rintro e wdc ⟨xhk, nhk, phk, rfl, hk, hbdc⟩; have hCdc : CA wdc [(⟨g, 0, none⟩, .string { data := #[2] }), (⟨g, 1, none⟩, .string { data := #[2] })] := hCec.after hbdc; have hBdc := bt hBec hbdc; have h5dc := ZsAt.after h5ec hbdc; have h3dc := ZsAt.after h3ec hbdc; have f6dc := SsAt.after f6ec hbdc; have hmdc := ZsAt.after hmec hbdc))
 replace hBW := bt hBW hBdc
 clear hC h5 h3 f6 hm
 have hC := hCdc
 have h5 := h5dc
 have h3 := h3dc
 have f6 := f6dc
 have hm := hmdc
 clear hCdc h5dc h3dc f6dc hmdc hCec hBec hSec hbec h5ec h3ec f6ec hmec hbdc hBdc
 clear h5 h3
 go_wp2_with fail
 go_region_held3 (fun w' => w'.cell? ⟨g, 0, none⟩ = some (.string { data := #[2] }) ∧ w'.cell? ⟨g, 1, none⟩ = some (.string { data := #[2] })) ((refine CA.k2 ?_; repeat (first | (with_reducible exact hCdd) | (with_reducible exact hCed) | (with_reducible exact hC) | (with_reducible refine CA.drew ?_) | (with_reducible refine CA.alloc ?_ _))))
  (first | (go_at_call 19; (with_reducible refine (HE4.out _).mono ?_); rintro e wed ⟨a1d, a2d, a3d, n1d, n2d, n3d, c1d, c2d, c3d, rfl, hSed, hbed⟩; have hCed : CA wed [(⟨g, 0, none⟩, .string { data := #[2] }), (⟨g, 1, none⟩, .string { data := #[2] })] := hC.drew.after hbed; have hBed : Below wdc.heap.size wdc wed := Below.trans (Below.drew (Below.refl wdc.heap.size wdc)) hbed; have f6ed := SsAt.after f6 (Below.trans (Below.drew (Below.refl wdc.heap.size wdc)) hbed); have hmed := ZsAt.after hm (Below.trans (Below.drew (Below.refl wdc.heap.size wdc)) hbed); have hked := ZsAt.after hk (Below.trans (Below.drew (Below.refl wdc.heap.size wdc)) hbed)) | (go_at_call 15; (with_reducible refine (HC1.out _ _ _ _ _ _ _ _ _ _ _ _ _ hSed hked).mono ?_); rintro e wdd ⟨xg, ng, pg, rfl, f7, hbdd⟩; have hCdd : CA wdd [(⟨g, 0, none⟩, .string { data := #[2] }), (⟨g, 1, none⟩, .string { data := #[2] })] := hCed.after hbdd; have hBdd := bt hBed hbdd; have f6dd := SsAt.after f6ed hbdd; have hmdd := ZsAt.after hmed hbdd; have hkdd := ZsAt.after hked hbdd))
 replace hBW := bt hBW hBdd
 clear hC f6 hm hk
 have hC := hCdd
 have f6 := f6dd
 have hm := hmdd
 have hk := hkdd
 clear hCdd f6dd hmdd hkdd hCed hBed hSed hbed f6ed hmed hked hbdd hBdd
 go_wp2_with fail
 go_cut [12, 13] (fun s12 s13 wx => (∃ xh nh ph, s12 = .slice xh nh ph) ∧ s13 = .int .i64 2 ∧ Below wdd.heap.size wdd wx)
 case first =>
  clear hBW
  go_region_held3 (fun w' => w'.cell? ⟨g, 0, none⟩ = some (.string { data := #[2] }) ∧ w'.cell? ⟨g, 1, none⟩ = some (.string { data := #[2] })) ((refine CA.k2 ?_; repeat (first | (with_reducible exact hCdf) | (with_reducible exact hCef) | (with_reducible exact hC) | (with_reducible refine CA.drew ?_) | (with_reducible refine CA.alloc ?_ _))))
   (first | (go_at_call 19; (with_reducible refine (HE4.out _).mono ?_); rintro e wef ⟨a1f, a2f, a3f, n1f, n2f, n3f, c1f, c2f, c3f, rfl, hSef, hbef⟩; have hCef : CA wef [(⟨g, 0, none⟩, .string { data := #[2] }), (⟨g, 1, none⟩, .string { data := #[2] })] := (by first | exact hC.drew.after hbef | exact (hC.alloc _).drew.after hbef | exact (hC.drew.alloc _).after hbef); have hBef : Below wdd.heap.size wdd wef := (by first | exact Below.trans (Below.drew (Below.refl wdd.heap.size wdd)) hbef | exact bt (b1 wdd _).drew hbef | exact bt (b1 (wdd).drew _) hbef); (try (have kA := (Blk.drew (Blk.new wdd #[Value.bool false, Value.string { data := #[13] }] 53)).after hbef)); have f6ef := SsAt.after f6 hBef; have hmef := ZsAt.after hm hBef; have hkef := ZsAt.after hk hBef; have f7ef := SsAt.after f7 hBef) | (go_at_call 8; (first | (with_reducible refine (HF2.out _ _ _ _ _ _ _ _ _ _ _ _ _ hSef (z1row kA L13.out)).mono ?_) | (with_reducible refine (HF2.out _ _ _ _ _ _ _ _ _ _ _ _ _ (hSef.after (b1 wef (.cells #[.bool false, .string { data := #[13] }] 53))) (z1row (Blk.new wef #[Value.bool false, Value.string { data := #[13] }] 53) L13.out)).mono ?_)); rintro e wdf ⟨xh, nh, ph, rfl, f8, hbdf⟩; have hBdf : Below wdd.heap.size wdd wdf := (by first | exact bt hBef hbdf | exact bt (ba hBef _) hbdf); have hCdf : CA wdf [(⟨g, 0, none⟩, .string { data := #[2] }), (⟨g, 1, none⟩, .string { data := #[2] })] := (by first | exact hCef.after hbdf | exact (hCef.after (b1 wef (.cells #[.bool false, .string { data := #[13] }] 53))).after hbdf); have f6df := SsAt.after f6 hBdf; have hmdf := ZsAt.after hm hBdf; have hkdf := ZsAt.after hk hBdf; have f7df := SsAt.after f7 hBdf))
  all_goals
   go_wp2_with fail
   go_meet
   exact ⟨⟨_, _, _, rfl⟩, rfl, hBdf⟩
 case rest =>
  obtain ⟨⟨xh, nh, ph, rfl⟩, rfl, hbx⟩ := hcut
  obtain ⟨wx, hwx⟩ : ∃ wx, wx = wc := ⟨_, rfl⟩
  subst hwx
  replace hBW := bt hBW hbx
  replace f6 := SsAt.after f6 hbx
  replace f7 := SsAt.after f7 hbx
  replace hm := ZsAt.after hm hbx
  replace hk := ZsAt.after hk hbx
  clear hbx hC HE0 HE4 HF1 HF2 HX1 HX2 HC1
  have hA := Blk.new wx #[.string { data := #[16] }] 22
  have hbA := b1 wx (.cells #[.string { data := #[16] }] 22)
  go_wp2_with fail
  refine (HQ1.out _ _ _ (SsAt.after f6 hbA) (row1 hA rfl)).mono ?_
  rintro e wy ⟨rfl, hby⟩
  replace hby := bt hbA hby
  replace hBW := bt hBW hby
  replace f7 := SsAt.after f7 hby
  replace hm := ZsAt.after hm hby
  replace hk := ZsAt.after hk hby
  clear f6 hA hbA hby HQ1
  have hA := Blk.new wy #[.bool false, .string { data := #[2] }] 53
  have hbA := b1 wy (.cells #[.bool false, .string { data := #[2] }] 53)
  go_wp2_with fail
  refine (HQ2.out _ _ _ (ZsAt.after hm hbA) (z1row hA L22.out)).mono ?_
  rintro e wz ⟨rfl, hbz⟩
  replace hbz := bt hbA hbz
  replace hBW := bt hBW hbz
  replace f7 := SsAt.after f7 hbz
  replace hm := ZsAt.after hm hbz
  replace hk := ZsAt.after hk hbz
  clear hA hbA hbz
  go_wp2_with fail
  refine (HQ2.out _ _ _ hk hm).mono ?_
  rintro e wu ⟨rfl, hbu⟩
  replace hBW := bt hBW hbu
  replace f7 := SsAt.after f7 hbu
  clear hbu hk hm
  have hA := Blk.new wu #[.string { data := #[17] }] 22
  have hbA := b1 wu (.cells #[.string { data := #[17] }] 22)
  go_wp2_with fail
  refine (HQ3.out _ _ _ (SsAt.after f7 hbA) (row1 hA rfl)).mono ?_
  rintro e wv ⟨rfl, hbv⟩
  go_wp2
  go_ret
  exact ⟨rfl, bt hBW (bt hbA hbv)⟩

theorem hex (b : Nat) : HEx (E b) (exS b) := fun w => (example_c b w).mono (by
 rintro e w' ⟨v1, v2, v3, rfl, hS, hb⟩
 obtain ⟨a1, c1, a2, c2, a3, c3, rfl, rfl, rfl⟩ := hS.forms
 exact ⟨_, _, _, _, _, _, _, _, _, rfl, hS, hb⟩)
theorem exS_bnd (b : Nat) (hb : b < 256 ^ 16) (h0 : (exS b).chk = 0) (hv : (exS b).vars.any vz = true → 2 ≤ (exS b).ord) (v1 v2 v3 : Value) (w : World) (hS : NAt w v1 v2 v3 (exS b)) :
  ∀ w', Below w.heap.size w w' → Calls Tryz.prog 20 #[.agg #[.string (E 2), .string (E 2)], .agg #[v1, v2, v3]] w' (B2Post w' ((exS b).lims 2 2)) :=
 fun w' hb1 => sBounds_c (exS b) 2 2 v1 v2 v3 w' (exS_ok b hb).nv (fun w2 hb2 => bounds_ok (exS b) 2 2 v1 v2 v3 w2 (by decide) (by decide) (by decide) (by decide) hv (exS_ok b hb) (hS.after (bt hb1 hb2)) h0)
theorem fpost_sl {w w' : World} {k : Nat} {L : List Nat} {e : Ending} (h : FPost w k L e w') : ∃ a n c, e = .returned (.tuple #[.slice a n c, .int .i64 k]) ∧ SsAt w' (.slice a n c) (L.map E) ∧ Below w.heap.size w w' := by
 obtain ⟨v, rfl, hO, hb⟩ := h
 have hs := NOwn.ss hO
 obtain ⟨a, c, rfl⟩ := RAt.form hs
 exact ⟨_, _, _, rfl, hs, hb⟩
theorem hfi (b : Nat) (z : Int) (k : Nat) (L : List Nat) (hb : b < 256 ^ 16) (hz : z.natAbs < 256 ^ 64) (h0 : (exS b).chk = 0) (hv : (exS b).vars.any vz = true → 2 ≤ (exS b).ord) (h1 : (exS b).fir 2 2 1 [z] = k) (h2 : (exS b).firL 2 2 1 [z] = L) : HFi (E 2) (E 1) (exS b) [z] (L.map E) (k : Int) := fun w s1 s2 s3 xl m1 m2 m3 d1 d2 d3 nl pl hS hZ => by
 have h := sfirst_num (exS b) 2 2 1 [z] _ _ _ _ w (by decide) (by decide) (by decide) (exS_ok b hb) hS h0 hZ (by simpa using hz) (by simp) (exS_bnd b hb h0 hv _ _ _ w hS)
 rw [h1, h2] at h
 exact h.mono fun _ _ h => fpost_sl h
theorem hco (b : Nat) (z : Int) (L : List Nat) (hb : b < 256 ^ 16) (hz : z.natAbs < 256 ^ 64) (h0 : (exS b).chk = 0) (hv : (exS b).vars.any vz = true → 2 ≤ (exS b).ord) (h1 : (exS b).coi 2 2 [z] = 0) (h2 : (exS b).coins 2 2 [z] = L) : HCo (E 2) (exS b) [z] (L.map E) := fun w s1 s2 s3 xl m1 m2 m3 d1 d2 d3 nl pl hS hZ => by
 have h := scoins_num (exS b) 2 2 [z] _ _ _ _ w (by decide) (by decide) (exS_ok b hb) hS hZ (by simpa using hz) (by simp) (exS_bnd b hb h0 hv _ _ _ w hS)
 rw [h1, h2] at h
 exact h.mono fun _ _ h => fpost_sl h
theorem hxp (b f : Nat) (x y m : Int) (hb : b < 256 ^ 16) (hf : f < 256 ^ 8) (hx : x.natAbs < 256 ^ 8) (hy : y.natAbs < 256 ^ 8) (h0 : (exS b).chk = 0) (hv : (exS b).vars.any vz = true → 2 ≤ (exS b).ord) (hq : 0 < (exS b).ord)
  (h1 : (exS b).exE [x] = 0) (h2 : (exS b).exL 1 [y] [x] = [m]) (h3 : (exS b).ver 2 2 [f] 1 [y] = 0) : HXp (E 2) (E 1) (exS b) [x] [y] [m] [E f] := fun w s1 s2 s3 xw xf xl m1 m2 m3 d1 d2 d3 nw pw nf pf nl pl hS hW hF hY => by
 have u8 : ∀ {n : Nat} (k : Nat), 8 ≤ k → n < 256 ^ 8 → n < 256 ^ k := fun k hk h => Nat.lt_of_lt_of_le h (Nat.pow_le_pow_right (by decide) hk)
 have h := sexp_num (exS b) 2 2 1 [y] [x] _ _ _ _ (.slice xf nf pf) _ w (by decide) (by decide) (exS_ok b hb) hS h0 hW (by simpa using u8 63 (by decide) hx) (by simp) (by decide) hY rfl (by simpa using u8 64 (by decide) hy) (fun j h1 h2 _ => ⟨hq, by
   obtain rfl : j = 0 := by simpa using h2
   exact hy⟩)
  (exS_bnd b hb h0 hv _ _ _ w hS) (fun w2 hb2 => by
   have h9 := verify_num (exS b) 2 2 1 [f] [y] _ _ _ (.slice xf nf pf) _ w2 (by decide) (by decide) (exS_ok b hb) (hS.after hb2) h0 (fun w3 hb3 => bounds_ok (exS b) 2 2 _ _ _ w3 (by decide) (by decide) (by decide) (by decide) hv (exS_ok b hb) (hS.after (bt hb2 hb3)) h0) (SsAt.after hF hb2) (ZsAt.after hY hb2) (by simp) (by simpa using u8 128 (by decide) hf) (by decide) (by simp) (by simpa using u8 64 (by decide) hy)
   rw [h3] at h9; exact h9)
 rw [h1, h2] at h
 refine h.mono ?_
 rintro e w' ⟨v, rfl, hO, hb⟩
 have hz := hO.zs
 obtain ⟨a, c, rfl⟩ := hz.form
 exact ⟨_, _, _, rfl, hz, hb⟩

theorem awake_c (w : World) : Calls Tryz.prog 7 #[] w fun e w' => e = .returned (.bool true) ∧ Below w.heap.size w w' :=
 awake_l (E 0) (E 1) (E 2) (E 4) (E 5) (E 3) (E 13) (E 16) (E 17) (exS 0) (exS 4) w 5 3 2 13 rfl rfl rfl rfl rfl rfl rfl rfl rfl rfl
  (hex 0) (hex 4) (hfi 0 5 0 [16] (by decide) (by decide) (by decide +kernel) (by decide +kernel) (by decide +kernel) (by decide +kernel))
  (hxp 0 16 3 5 2 (by decide) (by decide) (by decide) (by decide) (by decide +kernel) (by decide +kernel) (by decide +kernel) (by decide +kernel) (by decide +kernel) (by decide +kernel))
  (hxp 4 16 3 5 2 (by decide) (by decide) (by decide) (by decide) (by decide +kernel) (by decide +kernel) (by decide +kernel) (by decide +kernel) (by decide +kernel) (by decide +kernel))
  (hco 4 2 [17] (by decide) (by decide) (by decide +kernel) (by decide +kernel) (by decide +kernel) (by decide +kernel))
  (hfi 4 13 2 [] (by decide) (by decide) (by decide +kernel) (by decide +kernel) (by decide +kernel) (by decide +kernel))
  (fun w u v h1 h2 => eqNat_cV [16] [16] u v true w (by simp) (by simp) h1 h2 (by decide))
  (fun w u v h1 h2 => eqZ_c u v [2] w (by simp) h1 h2)
  (fun w u v h1 h2 => eqNat_cV [17] [17] u v true w (by simp) (by simp) h1 h2 (by decide))
end Go.Proofs.YtehoiholhkfcpaaGreat
end

section
/- A row's last step. -/
set_option linter.unusedVariables false
set_option linter.unusedSimpArgs false
set_option maxRecDepth 100000
namespace Go.Proofs.YtehoiholhkfcpaaGreat
open Go.RowKit Go.WideShapes Go.ChangeShapes Go.ChangeAt Go.Joins Go.Deep
open Go.ChangeMaps (open_string shut_string)

section
variable {H : Type} {enc : TypeId × Value → H} {P : Program}
theorem post_of_below {f : Func} {s : ChangeSpec} {apart fresh handsOn again : Bool} {W W' : World} {args : Array Value} {v : Value} {ds gs : List (DataW H)} {before pa pv : List MemPlace}
  (hW : DataW.Whole enc P f.params.toList s.vars apart W args.toList ds gs before)
  (hres : ∀ (b : Nat) (sp : Nat → Bool) (hd : Bool), DataW.TrodAll enc P W' b sp hd f.resultTypes.toList (v.resultList f.resultTypes.size) (s.fn H (ds ++ gs)).results [])
  (hargs : ∀ sp : Nat → Bool, (∀ p ∈ before, sp p.block = true) → DataW.TrodAll enc P W' 0 sp true f.params.toList args.toList (s.fn H (ds ++ gs)).args pa)
  (hvars : ∀ sp : Nat → Bool, (∀ p ∈ before, sp p.block = true) → DataW.TrodVars enc P W' sp s.vars (s.fn H (ds ++ gs)).vars pv)
  (hps : before = pa ++ pv) (hb : Below W.heap.size W W')
  (hok : ∀ (j : Nat) (t : TypeId) (r : Value), f.resultTypes[j]? = some t → (v.resultList f.resultTypes.size)[j]? = some r → Value.okWide P W' .any 0 t r) :
  s.post enc P f apart fresh handsOn again W args v W' := by
 have hlt : ∀ p ∈ before, p.block < W.heap.size := fun p hp => hW.lt p hp
 have hold : ∀ p ∈ before, (fun b => decide (b < W.heap.size)) p.block = true := fun p hp => by simpa using hlt p hp
 refine ⟨ds, gs, before, [], pa, pv, hW, hres _ _ _, hargs _ hold, hvars _ hold, World.keptBut_mono (fun p hp => ⟨hp, ?_⟩) (hb.frame (· ∈ before)), fun _ => ?_⟩
 ·rw [hps, List.mem_append] at hp
  exact Or.inr hp
 ·obtain ⟨_, _, _, _, _, hz, hn⟩ := hW
  refine ⟨hok, _, _, ([] ++ pa) ++ pv, ⟨[] ++ pa, pv, trodAll_append (hargs _ (fun _ _ => rfl)) (hres _ _ _), hvars _ (fun _ _ => rfl), rfl, ?_, ?_⟩, ?_⟩
  ·intro b off hp
   have hin : MemPlace.cell b off ∈ before := by rw [hps]; simpa using hp
   rw [hb.frozen (hlt _ hin)]
   exact hz b off hin
  ·intro ha
   have := hn ha
   rw [hps] at this
   simpa using this
  ·intro p hp _
   rw [hps]
   simpa using hp
end

theorem own_knob : ownKnob Tryz.prog.godebug = none := by kernel_rfl

end Go.Proofs.YtehoiholhkfcpaaGreat
end

section
set_option linter.unusedVariables false
set_option linter.unusedSimpArgs false
set_option maxRecDepth 100000
namespace Go.Proofs.YtehoiholhkfcpaaGreat
open Go.RowKit Go.WideShapes Go.ChangeShapes Go.ChangeAt Go.Joins Go.Deep
open Go.ChangeMaps (open_string shut_string)

theorem laid_out : laidOutB Tryz.prog = true := by kernel_rfl

theorem list1 {α : Type} {l : List α} (h : l.length = 1) : ∃ a, l = [a] := by
 match l, h with
 | [a], _ => exact ⟨a, rfl⟩
theorem list2 {α : Type} {l : List α} (h : l.length = 2) : ∃ a b, l = [a, b] := by
 match l, h with
 | [a, b], _ => exact ⟨a, b, rfl⟩
theorem list3 {α : Type} {l : List α} (h : l.length = 3) : ∃ a b c, l = [a, b, c] := by
 match l, h with
 | [a, b, c], _ => exact ⟨a, b, c, rfl⟩
theorem list4 {α : Type} {l : List α} (h : l.length = 4) : ∃ a b c d, l = [a, b, c, d] := by
 match l, h with
 | [a, b, c, d], _ => exact ⟨a, b, c, d, rfl⟩
theorem array11 {α : Type} {l : Array α} (h : l.size = 11) : ∃ a b c d e f g i j k m, l = #[a, b, c, d, e, f, g, i, j, k, m] := by
 obtain ⟨l⟩ := l
 match l, h with
 | [a, b, c, d, e, f, g, i, j, k, m], _ => exact ⟨a, b, c, d, e, f, g, i, j, k, m, rfl⟩

theorem zNat : Tryz.prog.cellsOf 22 = 1 := by kernel_rfl
theorem zVar : Tryz.prog.cellsOf 64 = 1 := by kernel_rfl
theorem zGrp : Tryz.prog.cellsOf 90 = 2 := by kernel_rfl
theorem zInt : Tryz.prog.cellsOf 53 = 2 := by kernel_rfl
theorem zTrm : Tryz.prog.cellsOf 92 = 4 := by kernel_rfl
theorem zEqn : Tryz.prog.cellsOf 95 = 3 := by kernel_rfl
theorem zi64 : Tryz.prog.cellsOf 3 = 1 := by kernel_rfl
theorem zB : Tryz.prog.cellsOf 4 = 1 := by kernel_rfl
theorem zTs : Tryz.prog.cellsOf 93 = 1 := by kernel_rfl
theorem zGs : Tryz.prog.cellsOf 25 = 1 := by kernel_rfl
theorem zVs : Tryz.prog.cellsOf 26 = 1 := by kernel_rfl
theorem zEs : Tryz.prog.cellsOf 27 = 1 := by kernel_rfl
theorem zNs : Tryz.prog.cellsOf 31 = 1 := by kernel_rfl
theorem zZs : Tryz.prog.cellsOf 30 = 1 := by kernel_rfl
theorem zRule : Tryz.prog.cellsOf 24 = 2 := by kernel_rfl
theorem zSta : Tryz.prog.cellsOf 29 = 3 := by kernel_rfl
theorem zTape : Tryz.prog.cellsOf 33 = 3 := by kernel_rfl
theorem zStr : Tryz.prog.cellsOf 9 = 1 := by kernel_rfl
theorem zCase : Tryz.prog.cellsOf 35 = 11 := by kernel_rfl

section
variable {H : Type} {enc : TypeId × Value → H} {w : World} {base : Nat} {held : Bool}

theorem trod_struct6 {P : Program} {spare : Nat → Bool} {t : TypeId} {f0 f1 f2 f3 f4 f5 : Field} {fuel : Nat} {cs : List Value} {x : DataW H × List MemPlace} (ht : P.underlying t = some (.struct #[f0, f1, f2, f3, f4, f5])) (h : DataW.trod enc P w base spare held fuel t cs = some x) :
  ∃ (y0 y1 y2 y3 y4 y5 : DataW H × List MemPlace) (n : Nat), True ∧ cs.length = P.cellsOf t ∧ DataW.trod enc P w base spare held n f0.type ((cs.drop f0.offset).take (P.cellsOf f0.type)) = some y0 ∧
   DataW.trod enc P w base spare held n f1.type ((cs.drop f1.offset).take (P.cellsOf f1.type)) = some y1 ∧ DataW.trod enc P w base spare held n f2.type ((cs.drop f2.offset).take (P.cellsOf f2.type)) = some y2 ∧
   DataW.trod enc P w base spare held n f3.type ((cs.drop f3.offset).take (P.cellsOf f3.type)) = some y3 ∧ DataW.trod enc P w base spare held n f4.type ((cs.drop f4.offset).take (P.cellsOf f4.type)) = some y4 ∧
   DataW.trod enc P w base spare held n f5.type ((cs.drop f5.offset).take (P.cellsOf f5.type)) = some y5 := by
 obtain ⟨xs, n, _, rfl, hl, hlen, hf⟩ := DataW.trod_struct ht h
 match xs, hlen with
 | [y0, y1, y2, y3, y4, y5], _ => exact ⟨y0, y1, y2, y3, y4, y5, n, trivial, hl, by simpa using hf 0 f0 rfl, by simpa using hf 1 f1 rfl, by simpa using hf 2 f2 rfl, by simpa using hf 3 f3 rfl, by simpa using hf 4 f4 rfl, by simpa using hf 5 f5 rfl⟩

/-- a slice as an argument: what it reads -/
theorem row_of {α : Type} {Q : World → α → List Value → Prop} {Sz : α → Prop} (d : α) {size fuel : Nat} {t e : TypeId} {cs : List Value} {x : DataW H × List MemPlace} (ht : Tryz.prog.underlying t = some (.slice e)) (hc : Tryz.prog.cellsOf e = size) (h0 : 0 < size)
  (h : DataW.trod enc Tryz.prog w base (fun _ => true) held fuel t cs = some x)
  (elem : ∀ n cs' y, cs'.length = size → DataW.trod enc Tryz.prog w base (fun _ => true) held n e cs' = some y → ∃ a, Q w a cs' ∧ Sz a) :
  ∃ ao n c l, cs = [.slice ao n c] ∧ RAt Q size w (.slice ao n c) l ∧ (∀ a ∈ l, Sz a) ∧ l.length ≤ maxLen := by
 rcases open_slice ht h with ⟨rfl, _⟩ | ⟨a, len, cap, m, n, D, Pl, rfl, hb, hl, hm, hmm, _, hel⟩
 ·exact ⟨none, 0, 0, [], rfl, ⟨none, 0, rfl, .inl rfl⟩, by simp, by simp⟩
 ·rw [if_pos rfl] at hmm
  subst hmm
  rw [hc] at hel
  haveI : Inhabited α := ⟨d⟩
  obtain ⟨f, hf⟩ := choose_lt (α := α) (n := len) (p := fun i y => ∃ cs', w.cells? base (a.add (i * size)) size = some cs' ∧ Q w y cs' ∧ Sz y) (fun i hi => by
   obtain ⟨cs', h1, h2⟩ := hel i (by omega)
   obtain ⟨y, hy1, hy2⟩ := elem n cs' _ (World.cells?_some h1).2.1 h2
   exact ⟨y, cs', h1, hy1, hy2⟩)
  have hlen : ((List.range len).map f).length = len := by simp
  refine ⟨some a, len, m, (List.range len).map f, rfl, ⟨some a, m, by rw [hlen], ?_⟩, fun y hy => ?_, by rw [hlen]; omega⟩
  ·by_cases hl0 : len = 0
   ·exact .inl (by rw [hlen]; exact hl0)
   ·obtain ⟨b, off, spot⟩ := a
    obtain ⟨cs0, g1, _⟩ := hf 0 (by omega)
    obtain ⟨_, g2, g3⟩ := World.cells?_some g1
    have g4 := g3 0 h0
    have g5 : 0 < cs0.length := by omega
    rw [List.getElem?_eq_getElem g5] at g4
    have hspot : spot = none := by simpa [Addr.add] using World.cell?_spot g4
    subst hspot
    refine .inr ⟨b, off, rfl, ?_, fun j hj => ?_⟩
    ·rw [add_plain, add_plain] at g4
     apply Classical.byContradiction
     intro hge
     have hnone : w.heap[b]? = none := by simpa using hge
     simp [World.cell?, hnone] at g4
    ·obtain ⟨cs', k1, k2, _⟩ := hf j (by rw [← hlen]; exact hj)
     refine ⟨cs', by simpa using k2, fun i hi => ?_⟩
     have := (World.cells?_some k1).2.2 i hi
     rw [add_plain, add_plain] at this
     exact this
  ·obtain ⟨j, hj, rfl⟩ := List.mem_map.1 hy
   obtain ⟨cs', _, _, hz⟩ := hf j (List.mem_range.1 hj)
   exact hz

def szT (t : Trm) : Prop := t.base.size ≤ maxLen ∧ t.abs.size ≤ maxLen
def szQ (q : Eqn) : Prop := q.tgt.size ≤ maxLen ∧ q.trms.length ≤ maxLen ∧ ∀ t ∈ q.trms, szT t

theorem el_nat {n : Nat} {cs : List Value} {y : DataW H × List MemPlace} (hl : cs.length = 1) (h : DataW.trod enc Tryz.prog w base (fun _ => true) held n 22 cs = some y) : ∃ a, QStr w a cs ∧ a.size ≤ maxLen := by
 obtain ⟨s, rfl, _, hs⟩ := DataW.trod_string Tryz.underlying22 h
 exact ⟨s, rfl, hs⟩
theorem el_var {n : Nat} {cs : List Value} {y : DataW H × List MemPlace} (hl : cs.length = 1) (h : DataW.trod enc Tryz.prog w base (fun _ => true) held n 64 cs = some y) : ∃ a, QStr w a cs ∧ a.size ≤ maxLen := by
 obtain ⟨c0, rfl⟩ := list1 hl
 obtain ⟨y0, m, _, _, h0⟩ := trod_struct1 Tryz.underlying64 h
 obtain ⟨s, hs, _, hz⟩ := DataW.trod_string Tryz.underlying22 h0
 simp [zNat] at hs
 subst hs
 exact ⟨s, rfl, hz⟩
theorem el_grp {n : Nat} {cs : List Value} {y : DataW H × List MemPlace} (hl : cs.length = 2) (h : DataW.trod enc Tryz.prog w base (fun _ => true) held n 90 cs = some y) : ∃ a, QGrp w a cs ∧ (a.1.size ≤ maxLen ∧ a.2.size ≤ maxLen) := by
 obtain ⟨c0, c1, rfl⟩ := list2 hl
 obtain ⟨y0, y1, m, _, _, h0, h1⟩ := trod_struct2 Tryz.underlying90 h
 obtain ⟨s, hs, _, hz⟩ := DataW.trod_string Tryz.underlying22 h0
 obtain ⟨s', hs', _, hz'⟩ := DataW.trod_string Tryz.underlying22 h1
 simp [zNat] at hs hs'
 subst hs hs'
 exact ⟨(s, s'), rfl, hz, hz'⟩
theorem el_int {n : Nat} {cs : List Value} {y : DataW H × List MemPlace} (hl : cs.length = 2) (h : DataW.trod enc Tryz.prog w base (fun _ => true) held n 53 cs = some y) : ∃ a, QInt w a cs ∧ a.2.size ≤ maxLen := by
 obtain ⟨c0, c1, rfl⟩ := list2 hl
 obtain ⟨y0, y1, m, _, _, h0, h1⟩ := trod_struct2 Tryz.underlying53 h
 obtain ⟨s, hs, _⟩ := DataW.trod_bool Tryz.underlying4 h0
 obtain ⟨s', hs', _, hz'⟩ := DataW.trod_string Tryz.underlying22 h1
 simp [zNat, zB] at hs hs'
 subst hs hs'
 exact ⟨(s, s'), rfl, hz'⟩
theorem el_trm {n : Nat} {cs : List Value} {y : DataW H × List MemPlace} (hl : cs.length = 4) (h : DataW.trod enc Tryz.prog w base (fun _ => true) held n 92 cs = some y) : ∃ a, QTrm w a cs ∧ szT a := by
 obtain ⟨c0, c1, c2, c3, rfl⟩ := list4 hl
 obtain ⟨y0, y1, y2, m, _, _, h0, h1, h2⟩ := trod_struct3 Tryz.underlying92 h
 obtain ⟨z0, z1, m', _, _, g0, g1⟩ := trod_struct2 Tryz.underlying53 h2
 obtain ⟨s, hs, _, hz⟩ := DataW.trod_string Tryz.underlying22 h0
 obtain ⟨i, hi, _⟩ := DataW.trod_int Tryz.underlying3 h1
 obtain ⟨b, hb, _⟩ := DataW.trod_bool Tryz.underlying4 g0
 obtain ⟨s', hs', _, hz'⟩ := DataW.trod_string Tryz.underlying22 g1
 simp [zNat, zB, zi64, zInt] at hs hi hb hs'
 subst hs hi hb hs'
 exact ⟨⟨s, i, b, s'⟩, rfl, hz, hz'⟩
theorem el_eqn {n : Nat} {cs : List Value} {y : DataW H × List MemPlace} (hl : cs.length = 3) (h : DataW.trod enc Tryz.prog w base (fun _ => true) held n 95 cs = some y) : ∃ a, QEqn w a cs ∧ szQ a := by
 obtain ⟨c0, c1, c2, rfl⟩ := list3 hl
 obtain ⟨y0, y1, y2, m, _, _, h0, h1, h2⟩ := trod_struct3 Tryz.underlying95 h
 obtain ⟨i, hi, _⟩ := DataW.trod_int Tryz.underlying3 h0
 obtain ⟨s, hs, _, hz⟩ := DataW.trod_string Tryz.underlying22 h1
 obtain ⟨ao, k, c, l, hts, hr, hsz, hlen⟩ := row_of (Q := QTrm) (Sz := szT) ⟨s, 0, false, s⟩ Tryz.underlying93 zTrm (by decide) h2 (fun n cs' y hl h => el_trm hl h)
 simp [zNat, zi64, zTs] at hs hi hts
 subst hs hi hts
 exact ⟨⟨i, s, l⟩, ⟨_, rfl, hr⟩, hz, hlen, hsz⟩

/-- a case: its parts, with what the slices read -/
theorem open_case {r : Reach} {b0 : Nat} {v : Value} {d : DataW H} {p : List MemPlace} (hv : Value.okWide Tryz.prog w r b0 35 v) (h : DataW.Trod enc Tryz.prog w base (fun _ => true) held 35 v d p) :
  ∃ (C K ch sd : ByteArray) (S : Sta) (W L : List (Bool × ByteArray)) (V : List ByteArray) (at_ : Int) (s1 s2 s3 xw xl xt : Option Addr) (m1 m2 m3 d1 d2 d3 nw pw nl pl nt pt : Nat),
   v = .agg #[.string C, .string K, .slice s1 m1 d1, .slice s2 m2 d2, .slice s3 m3 d3, .slice xw nw pw, .string ch, .slice xl nl pl, .slice xt nt pt, .string sd, .int .i64 at_] ∧
   C.size ≤ 9223372036854775807 ∧ K.size ≤ 9223372036854775807 ∧ SSz S ∧ StAt w (.slice s1 m1 d1) (.slice s2 m2 d2) (.slice s3 m3 d3) S ∧
   CSz W L V ch sd ∧ IsAt w (.slice xw nw pw) W ∧ IsAt w (.slice xl nl pl) L ∧ SsAt w (.slice xt nt pt) V := by
 obtain ⟨cs, rfl, hsz⟩ := okWide_struct Tryz.underlying35 hv
 obtain ⟨c0, c1, c2, c3, c4, c5, c6, c7, c8, c9, c10, rfl⟩ := array11 (hsz.trans zCase)
 obtain ⟨fuel, hf⟩ := h
 obtain ⟨y0, y1, y2, y3, y4, y5, m, _, _, h0, h1, h2, h3, h4, h5⟩ := trod_struct6 Tryz.underlying35 hf
 simp only [Value.cells, zRule, zSta, zZs, zNat, zTape, List.drop_succ_cons, List.drop_zero, List.take_succ_cons, List.take_zero] at h0 h1 h2 h3 h4 h5
 obtain ⟨_, _, m0, _, _, r0, r1⟩ := trod_struct2 Tryz.underlying24 h0
 obtain ⟨_, _, _, m1, _, _, t0, t1, t2⟩ := trod_struct3 Tryz.underlying29 h1
 obtain ⟨_, _, _, m2, _, _, a0, a1, a2⟩ := trod_struct3 Tryz.underlying33 h5
 simp only [zNat, zGs, zVs, zEs, zNs, zStr, zi64, List.drop_succ_cons, List.drop_zero, List.take_succ_cons, List.take_zero] at r0 r1 t0 t1 t2 a0 a1 a2
 obtain ⟨C, hC, _, sC⟩ := DataW.trod_string Tryz.underlying22 r0
 obtain ⟨K, hK, _, sK⟩ := DataW.trod_string Tryz.underlying22 r1
 obtain ⟨ch, hch, _, sch⟩ := DataW.trod_string Tryz.underlying22 h3
 obtain ⟨sd, hsd, _, ssd⟩ := DataW.trod_string Tryz.underlying9 a1
 obtain ⟨ti, hti, _⟩ := DataW.trod_int Tryz.underlying3 a2
 obtain ⟨g1, g2, g3, G, hG, rG, sG, _⟩ := row_of (Q := QGrp) (Sz := fun a => a.1.size ≤ maxLen ∧ a.2.size ≤ maxLen) (C, C) Tryz.underlying25 zGrp (by decide) t0 (fun n cs' y hl h => el_grp hl h)
 obtain ⟨v1, v2, v3, V, hV, rV, sV, _⟩ := row_of (Q := QStr) (Sz := fun a => a.size ≤ maxLen) C Tryz.underlying26 zVar (by decide) t1 (fun n cs' y hl h => el_var hl h)
 obtain ⟨q1, q2, q3, Qs, hQ, rQ, sQ, _⟩ := row_of (Q := QEqn) (Sz := szQ) ⟨0, C, []⟩ Tryz.underlying27 zEqn (by decide) t2 (fun n cs' y hl h => el_eqn hl h)
 obtain ⟨f1, f2, f3, TV, hTV, rTV, sTV, lTV⟩ := row_of (Q := QStr) (Sz := fun a => a.size ≤ maxLen) C Tryz.underlying31 zNat (by decide) a0 (fun n cs' y hl h => el_nat hl h)
 obtain ⟨i1, i2, i3, W, hW, rW, sW, lW⟩ := row_of (Q := QInt) (Sz := fun a => a.2.size ≤ maxLen) (false, C) Tryz.underlying30 zInt (by decide) h2 (fun n cs' y hl h => el_int hl h)
 obtain ⟨j1, j2, j3, L, hL, rL, sL, lL⟩ := row_of (Q := QInt) (Sz := fun a => a.2.size ≤ maxLen) (false, C) Tryz.underlying30 zInt (by decide) h4 (fun n cs' y hl h => el_int hl h)
 simp only [List.cons.injEq, and_true] at hC hK hch hsd hti hG hV hQ hTV hW hL
 subst hC hK hch hsd hti hG hV hQ hTV hW hL
 unfold maxLen at sC sK sch ssd sG sV sTV lTV sW lW sL lL
 refine ⟨C, K, ch, sd, ⟨G, V, Qs⟩, W, L, TV, ti, _, _, _, _, _, _, _, _, _, _, _, _, _, _, _, _, _, _, rfl, sC, sK, ⟨sG, sV, fun x hx => ?_⟩, ⟨rG, rV, rQ⟩, ⟨lW, sW, lL, sL, lTV, sTV, sch, ssd⟩, rW, rL, rTV⟩
 have := sQ x hx
 unfold szQ szT maxLen at this
 exact this
end
end Go.Proofs.YtehoiholhkfcpaaGreat
end
