/- dominolaw16.SigmaVerifies: the row and its tied card. -/
import Derived.Test.YtcfjcenmcpankaaGreatDoorSat1
import Derived.Test.YtcfjcenmcpankaaGreatDoorLs16
import Derived.Test.YtcfjcenmcpankaaGreatDoorAw16
import Derived.Test.YtcfjcenmcpankaaGreatDoorLd16
import Derived.Test.YtcfjcenmcpankaaGreatDoorCards
import Derived.Test.YtcfjcenmcpankaaGreatDoorTie
import Derived.SevenTiedAt
section
/- Verify of both sides returns one error: any bytes within the limits of the layer's laws. -/
set_option linter.unusedVariables false
set_option linter.unusedSimpArgs false
set_option maxRecDepth 100000
namespace Go.Proofs.YtcfjcenmcpankaaGreatDoor
open Go.RowKit Go.Shelf

/-- one proof: both sides answer alike; an accepted one is numbers -/
theorem ver_num16 (N : NSta) (C K : Nat) (ch : ByteArray) (F : List ByteArray) (R : List (Bool × ByteArray)) (v1 v2 v3 f rs : Value) (w : World) (hC : C < 256 ^ 16) (hK : K < 256 ^ 16) (hm : NOk N) (hS : NAt w v1 v2 v3 N) (hc : N.chk = 0)
  (h2 : 2 ≤ C) (h3 : 2 ≤ K) (hv : N.vars.any vz = true → C ≤ N.ord) (hn1 : F.length ≤ 1000) (hs1 : ∀ x ∈ F, x.size ≤ 100) (hn2 : R.length ≤ 1000) (hs2 : ∀ x ∈ R, x.2.size ≤ 60) (hsc : ch.size ≤ 100) (hFs : SsAt w f F) (hIs : IsAt w rs R) :
  ∃ k : Nat, (∀ w', Below w.heap.size w w' → Calls Tryz.prog 23 #[.agg #[.string (E C), .string (E K)], .agg #[v1, v2, v3], .agg #[f, .string ch, rs]] w' fun e w'' => e = .returned (.int .i64 k) ∧ Below w'.heap.size w' w'') ∧
   (∀ w', Below w.heap.size w w' → Calls Tryz.prog 24 #[.agg #[.string (E C), .string (E K)], .agg #[v1, v2, v3], .agg #[f, .string ch, rs]] w' fun e w'' => e = .returned (.int .i64 k) ∧ Below w'.heap.size w' w'') ∧
   (k = 0 → ∃ (G : List Nat) (c : Nat) (Z : List Int), G.map E = F ∧ ch = E c ∧ Z.map zI = R ∧ (∀ x ∈ G, x < 256 ^ 100) ∧ c < 256 ^ 100 ∧ (∀ z ∈ Z, z.natAbs < 256 ^ 60) ∧ N.ver C K G c Z = 0) := by
 cases hp : prB F ch R
 ·refine ⟨3, fun w' hb => ?_, fun w' hb => ?_, fun h => absurd h (by decide)⟩
  ·refine verify_form (E C) (E K) ch v1 v2 v3 f rs F R w' (fun w2 hb2 => (bounds_ok N C K v1 v2 v3 w2 hC hK h2 h3 hv hm (hS.after (bt hb hb2)) hc).mono ?_) (by omega) (fun x hx => by have := hs1 x hx; omega) (by omega) (fun x hx => by have := hs2 x hx; omega) (by omega) (SsAt.after hFs hb) (IsAt.after hIs hb) hp
   rintro e w3 ⟨v, rfl, _, hb3⟩
   exact ⟨v, rfl, hb3⟩
  ·refine rverify_form (E C) (E K) ch v1 v2 v3 f rs F R w' (fun w2 hb2 => (rbounds_ok N C K v1 v2 v3 w2 hC hK h2 h3 hv hm (hS.after (bt hb hb2)) hc).mono ?_) (by omega) (fun x hx => by have := hs1 x hx; omega) (by omega) (fun x hx => by have := hs2 x hx; omega) (by omega) (SsAt.after hFs hb) (IsAt.after hIs hb) hp
   rintro e w3 ⟨v, u, rfl, _, _, hb3⟩
   exact ⟨v, u, rfl, hb3⟩
 ·simp only [prB, Bool.and_eq_true, List.all_eq_true] at hp
  obtain ⟨⟨p1, p2⟩, p3⟩ := hp
  obtain ⟨G, rfl, hG⟩ := nums_lift F 100 p1 hs1
  obtain ⟨c, hcc, rfl⟩ := numk hsc p2
  obtain ⟨Z, rfl, hZ⟩ := ints_lift R 60 p3 hs2
  have hg : G.length ≤ 1000 := by simpa using hn1
  have hz : Z.length ≤ 1000 := by simpa using hn2
  have hG2 : ∀ x ∈ G, x < 256 ^ 128 := fun x hx => Nat.lt_of_lt_of_le (hG x hx) (Nat.pow_le_pow_right (by decide) (by decide))
  have hZ2 : ∀ z ∈ Z, z.natAbs < 256 ^ 64 := fun x hx => Nat.lt_of_lt_of_le (hZ x hx) (Nat.pow_le_pow_right (by decide) (by decide))
  have hc2 : c < 256 ^ 128 := Nat.lt_of_lt_of_le hcc (Nat.pow_le_pow_right (by decide) (by decide))
  have hA := fun w' (hb : Below w.heap.size w w') => verify_num N C K c G Z v1 v2 v3 f rs w' hC hK hm (hS.after hb) hc (fun w2 hb2 => bounds_ok N C K v1 v2 v3 w2 hC hK h2 h3 hv hm (hS.after (bt hb hb2)) hc) (SsAt.after hFs hb) (ZsAt.after hIs hb) hg hG2 hc2 hz hZ2
  have hB := fun w' (hb : Below w.heap.size w w') => rverify_num N C K c G Z v1 v2 v3 f rs w' hC hK hm (hS.after hb) hc (fun w2 hb2 => rbounds_ok N C K v1 v2 v3 w2 hC hK h2 h3 hv hm (hS.after (bt hb hb2)) hc) (SsAt.after hFs hb) (ZsAt.after hIs hb) hg hG2 hc2 hz hZ2
  exact ⟨N.ver C K G c Z, hA, hB, fun h0 => ⟨G, c, Z, rfl, rfl, rfl, hG, hcc, hZ, h0⟩⟩

/-- any rule, any small statement, any proof within the limits -/
theorem ver_all16 (S : Sta) (C K ch : ByteArray) (F : List ByteArray) (R : List (Bool × ByteArray)) (v1 v2 v3 f rs : Value) (w : World) (hC : C.size ≤ 16) (hK : K.size ≤ 16) (hf : fewB S = true) (hS : StAt w v1 v2 v3 S)
  (hn1 : F.length ≤ 1000) (hs1 : ∀ x ∈ F, x.size ≤ 100) (hn2 : R.length ≤ 1000) (hs2 : ∀ x ∈ R, x.2.size ≤ 60) (hsc : ch.size ≤ 100) (hFs : SsAt w f F) (hIs : IsAt w rs R) :
  ∃ k : Nat, (∀ w', Below w.heap.size w w' → Calls Tryz.prog 23 #[.agg #[.string C, .string K], .agg #[v1, v2, v3], .agg #[f, .string ch, rs]] w' fun e w'' => e = .returned (.int .i64 k) ∧ Below w'.heap.size w' w'') ∧
   (∀ w', Below w.heap.size w w' → Calls Tryz.prog 24 #[.agg #[.string C, .string K], .agg #[v1, v2, v3], .agg #[f, .string ch, rs]] w' fun e w'' => e = .returned (.int .i64 k) ∧ Below w'.heap.size w' w'') ∧
   (k = 0 → ∃ (N : NSta) (c k : Nat) (G : List Nat) (x : Nat) (Z : List Int), C = E c ∧ K = E k ∧ c < 256 ^ 16 ∧ k < 256 ^ 16 ∧ S = N.s ∧ NOk N ∧ N.chk = 0 ∧ 2 ≤ c ∧ 2 ≤ k ∧ (N.vars.any vz = true → c ≤ N.ord) ∧
    G.map E = F ∧ ch = E x ∧ Z.map zI = R ∧ (∀ x ∈ G, x < 256 ^ 100) ∧ x < 256 ^ 100 ∧ (∀ z ∈ Z, z.natAbs < 256 ^ 60) ∧ N.ver c k G x Z = 0) := by
 obtain ⟨k, hk, h1, h2⟩ | ⟨N, c, k, rfl, rfl, hc, hk, rfl, hm, h0, c2, k2, hv⟩ := bnd_two S C K v1 v2 v3 w hC hK hf hS
 ·exact ⟨k, fun w' hb => verify_bnd C K ch v1 v2 v3 f rs k w' hk (fun w2 hb2 => h1 w2 (bt hb hb2)), fun w' hb => rverify_bnd C K ch v1 v2 v3 f rs k w' hk (fun w2 hb2 => h2 w2 (bt hb hb2)), fun h => absurd h hk⟩
 ·obtain ⟨r, a1, a2, a3⟩ := ver_num16 N c k ch F R v1 v2 v3 f rs w hc hk hm hS h0 c2 k2 hv hn1 hs1 hn2 hs2 hsc hFs hIs
  exact ⟨r, a1, a2, fun h => by
   obtain ⟨G, x, Z, g1, g2, g3, g4, g5, g6, g7⟩ := a3 h
   exact ⟨N, c, k, G, x, Z, rfl, rfl, hc, hk, rfl, hm, h0, c2, k2, hv, g1, g2, g3, g4, g5, g6, g7⟩⟩
end Go.Proofs.YtcfjcenmcpankaaGreatDoor
end

section
/- dominolaw16.SigmaVerifies: the walk. -/
set_option linter.unusedVariables false
set_option linter.unusedSimpArgs false
set_option maxRecDepth 100000
namespace Go.Proofs.YtcfjcenmcpankaaGreatDoor
open Go.RowKit Go.Shelf

set_option maxHeartbeats 8000000 in
theorem sv_walk (C K ch : ByteArray) (s1 s2 s3 sf sr : Option Addr) (m1 m2 m3 mf mr d1 d2 d3 df dr : Nat) (w : World) (bf bs bc : Bool) (hch : ch.size ≤ 9223372036854775807)
  (HF : ∀ w', Below w.heap.size w w' → Calls Tryz.prog 11 #[.agg #[.string C, .string K], .agg #[.slice s1 m1 d1, .slice s2 m2 d2, .slice s3 m3 d3]] w' fun e w'' => e = .returned (.bool bf) ∧ Below w'.heap.size w' w'')
  (HS : ∀ w', Below w.heap.size w w' → Calls Tryz.prog 20 #[.slice sr mr dr] w' fun e w'' => e = .returned (.bool bs) ∧ Below w'.heap.size w' w'')
  (HC : mf ≤ 10 → ∀ w', Below w.heap.size w w' → Calls Tryz.prog 21 #[.slice sf mf df, .func (.func 22) #[] #[]] w' fun e w'' => e = .returned (.bool bc) ∧ Below w'.heap.size w' w'')
  (HV : bf = true → bs = true → ch.size ≤ 20 → mf ≤ 10 → bc = false → ∃ k : Nat, (∀ w', Below w.heap.size w w' → Calls Tryz.prog 23 #[.agg #[.string C, .string K], .agg #[.slice s1 m1 d1, .slice s2 m2 d2, .slice s3 m3 d3], .agg #[.slice sf mf df, .string ch, .slice sr mr dr]] w' fun e w'' => e = .returned (.int .i64 k) ∧ Below w'.heap.size w' w'') ∧
   (∀ w', Below w.heap.size w w' → Calls Tryz.prog 24 #[.agg #[.string C, .string K], .agg #[.slice s1 m1 d1, .slice s2 m2 d2, .slice s3 m3 d3], .agg #[.slice sf mf df, .string ch, .slice sr mr dr]] w' fun e w'' => e = .returned (.int .i64 k) ∧ Below w'.heap.size w' w'')) :
  Calls Tryz.prog 5 #[.agg #[.string C, .string K], .agg #[.slice s1 m1 d1, .slice s2 m2 d2, .slice s3 m3 d3], .agg #[.slice sf mf df, .string ch, .slice sr mr dr]] w fun e w' => e = .returned (.bool true) ∧ Below w.heap.size w w' := by
 have HFF := Lib.hid HF
 have HSS := Lib.hid HS
 have HCC := Lib.hid HC
 have HVV := Lib.hid HV
 have hR := blk3a w #[.string C, .string K] #[.slice s1 m1 d1, .slice s2 m2 d2, .slice s3 m3 d3] #[.slice sf mf df, .string ch, .slice sr mr dr] 24 29 52
 have hP := blk3b w #[.string C, .string K] #[.slice s1 m1 d1, .slice s2 m2 d2, .slice s3 m3 d3] #[.slice sf mf df, .string ch, .slice sr mr dr] 24 29 52
 have hQ := blk3c w #[.string C, .string K] #[.slice s1 m1 d1, .slice s2 m2 d2, .slice s3 m3 d3] #[.slice sf mf df, .string ch, .slice sr mr dr] 24 29 52
 have hBW := b3 w (.cells #[.string C, .string K] 24) (.cells #[.slice s1 m1 d1, .slice s2 m2 d2, .slice s3 m3 d3] 29) (.cells #[.slice sf mf df, .string ch, .slice sr mr dr] 52)
 clear HF HS HC HV
 cases bf
 ·skip
  obtain ⟨hRc0, hRf0, hRc1, hRf1⟩ := hR.x2
  obtain ⟨hPc0, hPf0, hPc1, hPf1, hPc2, hPf2⟩ := hP.x3
  obtain ⟨hQc0, hQf0, hQc1, hQf1, hQc2, hQf2⟩ := hQ.x3
  go_enter Tryz.func5, Tryz.ntmps5
  go_wp2_with fail
  refine (HFF.out _ hBW).mono ?_
  rintro e w2 ⟨rfl, hb⟩
  clear hRc0 hRf0 hRc1 hRf1
  clear hPc0 hPf0 hPc1 hPf1 hPc2 hPf2
  clear hQc0 hQf0 hQc1 hQf1 hQc2 hQf2
  replace hR := hR.after hb
  replace hP := hP.after hb
  replace hQ := hQ.after hb
  replace hBW := bt hBW hb
  clear hb
  obtain ⟨hRc0, hRf0, hRc1, hRf1⟩ := hR.x2
  obtain ⟨hPc0, hPf0, hPc1, hPf1, hPc2, hPf2⟩ := hP.x3
  obtain ⟨hQc0, hQf0, hQc1, hQf1, hQc2, hQf2⟩ := hQ.x3
  go_wp2_with fail
  refine (awake_c _).mono ?_
  rintro e w9 ⟨rfl, hb9⟩
  go_wp2
  go_ret
  exact ⟨rfl, bt hBW hb9⟩

 cases bs
 ·skip
  obtain ⟨hRc0, hRf0, hRc1, hRf1⟩ := hR.x2
  obtain ⟨hPc0, hPf0, hPc1, hPf1, hPc2, hPf2⟩ := hP.x3
  obtain ⟨hQc0, hQf0, hQc1, hQf1, hQc2, hQf2⟩ := hQ.x3
  go_enter Tryz.func5, Tryz.ntmps5
  go_wp2_with fail
  refine (HFF.out _ hBW).mono ?_
  rintro e w2 ⟨rfl, hb⟩
  clear hRc0 hRf0 hRc1 hRf1
  clear hPc0 hPf0 hPc1 hPf1 hPc2 hPf2
  clear hQc0 hQf0 hQc1 hQf1 hQc2 hQf2
  replace hR := hR.after hb
  replace hP := hP.after hb
  replace hQ := hQ.after hb
  replace hBW := bt hBW hb
  clear hb
  obtain ⟨hRc0, hRf0, hRc1, hRf1⟩ := hR.x2
  obtain ⟨hPc0, hPf0, hPc1, hPf1, hPc2, hPf2⟩ := hP.x3
  obtain ⟨hQc0, hQf0, hQc1, hQf1, hQc2, hQf2⟩ := hQ.x3
  go_wp2_with fail
  refine (HSS.out _ hBW).mono ?_
  rintro e w3 ⟨rfl, hb⟩
  clear hRc0 hRf0 hRc1 hRf1
  clear hPc0 hPf0 hPc1 hPf1 hPc2 hPf2
  clear hQc0 hQf0 hQc1 hQf1 hQc2 hQf2
  replace hR := hR.after hb
  replace hP := hP.after hb
  replace hQ := hQ.after hb
  replace hBW := bt hBW hb
  clear hb
  obtain ⟨hRc0, hRf0, hRc1, hRf1⟩ := hR.x2
  obtain ⟨hPc0, hPf0, hPc1, hPf1, hPc2, hPf2⟩ := hP.x3
  obtain ⟨hQc0, hQf0, hQc1, hQf1, hQc2, hQf2⟩ := hQ.x3
  go_wp2_with fail
  refine (awake_c _).mono ?_
  rintro e w9 ⟨rfl, hb9⟩
  go_wp2
  go_ret
  exact ⟨rfl, bt hBW hb9⟩

 by_cases h1 : ch.size ≤ 20
 rotate_left
 ·have e1 : decide ((20 : Int) < (ch.size : Int)) = true := dzT h1
  obtain ⟨hRc0, hRf0, hRc1, hRf1⟩ := hR.x2
  obtain ⟨hPc0, hPf0, hPc1, hPf1, hPc2, hPf2⟩ := hP.x3
  obtain ⟨hQc0, hQf0, hQc1, hQf1, hQc2, hQf2⟩ := hQ.x3
  go_enter Tryz.func5, Tryz.ntmps5
  go_wp2_with fail
  refine (HFF.out _ hBW).mono ?_
  rintro e w2 ⟨rfl, hb⟩
  clear hRc0 hRf0 hRc1 hRf1
  clear hPc0 hPf0 hPc1 hPf1 hPc2 hPf2
  clear hQc0 hQf0 hQc1 hQf1 hQc2 hQf2
  replace hR := hR.after hb
  replace hP := hP.after hb
  replace hQ := hQ.after hb
  replace hBW := bt hBW hb
  clear hb
  obtain ⟨hRc0, hRf0, hRc1, hRf1⟩ := hR.x2
  obtain ⟨hPc0, hPf0, hPc1, hPf1, hPc2, hPf2⟩ := hP.x3
  obtain ⟨hQc0, hQf0, hQc1, hQf1, hQc2, hQf2⟩ := hQ.x3
  go_wp2_with fail
  refine (HSS.out _ hBW).mono ?_
  rintro e w3 ⟨rfl, hb⟩
  clear hRc0 hRf0 hRc1 hRf1
  clear hPc0 hPf0 hPc1 hPf1 hPc2 hPf2
  clear hQc0 hQf0 hQc1 hQf1 hQc2 hQf2
  replace hR := hR.after hb
  replace hP := hP.after hb
  replace hQ := hQ.after hb
  replace hBW := bt hBW hb
  clear hb
  obtain ⟨hRc0, hRf0, hRc1, hRf1⟩ := hR.x2
  obtain ⟨hPc0, hPf0, hPc1, hPf1, hPc2, hPf2⟩ := hP.x3
  obtain ⟨hQc0, hQf0, hQc1, hQf1, hQc2, hQf2⟩ := hQ.x3
  go_wp2_with fail
  refine (awake_c _).mono ?_
  rintro e w9 ⟨rfl, hb9⟩
  go_wp2
  go_ret
  exact ⟨rfl, bt hBW hb9⟩

 have e1 : decide ((20 : Int) < (ch.size : Int)) = false := dzF h1
 by_cases h2 : mf ≤ 10
 rotate_left
 ·have e2 : decide ((10 : Int) < (mf : Int)) = true := dzT h2
  obtain ⟨hRc0, hRf0, hRc1, hRf1⟩ := hR.x2
  obtain ⟨hPc0, hPf0, hPc1, hPf1, hPc2, hPf2⟩ := hP.x3
  obtain ⟨hQc0, hQf0, hQc1, hQf1, hQc2, hQf2⟩ := hQ.x3
  go_enter Tryz.func5, Tryz.ntmps5
  go_wp2_with fail
  refine (HFF.out _ hBW).mono ?_
  rintro e w2 ⟨rfl, hb⟩
  clear hRc0 hRf0 hRc1 hRf1
  clear hPc0 hPf0 hPc1 hPf1 hPc2 hPf2
  clear hQc0 hQf0 hQc1 hQf1 hQc2 hQf2
  replace hR := hR.after hb
  replace hP := hP.after hb
  replace hQ := hQ.after hb
  replace hBW := bt hBW hb
  clear hb
  obtain ⟨hRc0, hRf0, hRc1, hRf1⟩ := hR.x2
  obtain ⟨hPc0, hPf0, hPc1, hPf1, hPc2, hPf2⟩ := hP.x3
  obtain ⟨hQc0, hQf0, hQc1, hQf1, hQc2, hQf2⟩ := hQ.x3
  go_wp2_with fail
  refine (HSS.out _ hBW).mono ?_
  rintro e w3 ⟨rfl, hb⟩
  clear hRc0 hRf0 hRc1 hRf1
  clear hPc0 hPf0 hPc1 hPf1 hPc2 hPf2
  clear hQc0 hQf0 hQc1 hQf1 hQc2 hQf2
  replace hR := hR.after hb
  replace hP := hP.after hb
  replace hQ := hQ.after hb
  replace hBW := bt hBW hb
  clear hb
  obtain ⟨hRc0, hRf0, hRc1, hRf1⟩ := hR.x2
  obtain ⟨hPc0, hPf0, hPc1, hPf1, hPc2, hPf2⟩ := hP.x3
  obtain ⟨hQc0, hQf0, hQc1, hQf1, hQc2, hQf2⟩ := hQ.x3
  go_wp2_with fail
  refine (awake_c _).mono ?_
  rintro e w9 ⟨rfl, hb9⟩
  go_wp2
  go_ret
  exact ⟨rfl, bt hBW hb9⟩

 have e2 : decide ((10 : Int) < (mf : Int)) = false := dzF h2
 cases bc
 rotate_left
 ·skip
  obtain ⟨hRc0, hRf0, hRc1, hRf1⟩ := hR.x2
  obtain ⟨hPc0, hPf0, hPc1, hPf1, hPc2, hPf2⟩ := hP.x3
  obtain ⟨hQc0, hQf0, hQc1, hQf1, hQc2, hQf2⟩ := hQ.x3
  go_enter Tryz.func5, Tryz.ntmps5
  go_wp2_with fail
  refine (HFF.out _ hBW).mono ?_
  rintro e w2 ⟨rfl, hb⟩
  clear hRc0 hRf0 hRc1 hRf1
  clear hPc0 hPf0 hPc1 hPf1 hPc2 hPf2
  clear hQc0 hQf0 hQc1 hQf1 hQc2 hQf2
  replace hR := hR.after hb
  replace hP := hP.after hb
  replace hQ := hQ.after hb
  replace hBW := bt hBW hb
  clear hb
  obtain ⟨hRc0, hRf0, hRc1, hRf1⟩ := hR.x2
  obtain ⟨hPc0, hPf0, hPc1, hPf1, hPc2, hPf2⟩ := hP.x3
  obtain ⟨hQc0, hQf0, hQc1, hQf1, hQc2, hQf2⟩ := hQ.x3
  go_wp2_with fail
  refine (HSS.out _ hBW).mono ?_
  rintro e w3 ⟨rfl, hb⟩
  clear hRc0 hRf0 hRc1 hRf1
  clear hPc0 hPf0 hPc1 hPf1 hPc2 hPf2
  clear hQc0 hQf0 hQc1 hQf1 hQc2 hQf2
  replace hR := hR.after hb
  replace hP := hP.after hb
  replace hQ := hQ.after hb
  replace hBW := bt hBW hb
  clear hb
  obtain ⟨hRc0, hRf0, hRc1, hRf1⟩ := hR.x2
  obtain ⟨hPc0, hPf0, hPc1, hPf1, hPc2, hPf2⟩ := hP.x3
  obtain ⟨hQc0, hQf0, hQc1, hQf1, hQc2, hQf2⟩ := hQ.x3
  go_wp2_with fail
  refine (HCC.out h2 _ hBW).mono ?_
  rintro e w4 ⟨rfl, hb⟩
  clear hRc0 hRf0 hRc1 hRf1
  clear hPc0 hPf0 hPc1 hPf1 hPc2 hPf2
  clear hQc0 hQf0 hQc1 hQf1 hQc2 hQf2
  replace hR := hR.after hb
  replace hP := hP.after hb
  replace hQ := hQ.after hb
  replace hBW := bt hBW hb
  clear hb
  obtain ⟨hRc0, hRf0, hRc1, hRf1⟩ := hR.x2
  obtain ⟨hPc0, hPf0, hPc1, hPf1, hPc2, hPf2⟩ := hP.x3
  obtain ⟨hQc0, hQf0, hQc1, hQf1, hQc2, hQf2⟩ := hQ.x3
  go_wp2_with fail
  refine (awake_c _).mono ?_
  rintro e w9 ⟨rfl, hb9⟩
  go_wp2
  go_ret
  exact ⟨rfl, bt hBW hb9⟩

 obtain ⟨k, hv1, hv2⟩ := HVV.out rfl rfl h1 h2 rfl
 have HV1 := Lib.hid hv1
 have HV2 := Lib.hid hv2
 have hkk : ((k : Int) == (k : Int)) = true := by simp
 clear hv1 hv2 HVV
 obtain ⟨hRc0, hRf0, hRc1, hRf1⟩ := hR.x2
 obtain ⟨hPc0, hPf0, hPc1, hPf1, hPc2, hPf2⟩ := hP.x3
 obtain ⟨hQc0, hQf0, hQc1, hQf1, hQc2, hQf2⟩ := hQ.x3
 go_enter Tryz.func5, Tryz.ntmps5
 go_wp2_with fail
 refine (HFF.out _ hBW).mono ?_
 rintro e w2 ⟨rfl, hb⟩
 clear hRc0 hRf0 hRc1 hRf1
 clear hPc0 hPf0 hPc1 hPf1 hPc2 hPf2
 clear hQc0 hQf0 hQc1 hQf1 hQc2 hQf2
 replace hR := hR.after hb
 replace hP := hP.after hb
 replace hQ := hQ.after hb
 replace hBW := bt hBW hb
 clear hb
 obtain ⟨hRc0, hRf0, hRc1, hRf1⟩ := hR.x2
 obtain ⟨hPc0, hPf0, hPc1, hPf1, hPc2, hPf2⟩ := hP.x3
 obtain ⟨hQc0, hQf0, hQc1, hQf1, hQc2, hQf2⟩ := hQ.x3
 go_wp2_with fail
 refine (HSS.out _ hBW).mono ?_
 rintro e w3 ⟨rfl, hb⟩
 clear hRc0 hRf0 hRc1 hRf1
 clear hPc0 hPf0 hPc1 hPf1 hPc2 hPf2
 clear hQc0 hQf0 hQc1 hQf1 hQc2 hQf2
 replace hR := hR.after hb
 replace hP := hP.after hb
 replace hQ := hQ.after hb
 replace hBW := bt hBW hb
 clear hb
 obtain ⟨hRc0, hRf0, hRc1, hRf1⟩ := hR.x2
 obtain ⟨hPc0, hPf0, hPc1, hPf1, hPc2, hPf2⟩ := hP.x3
 obtain ⟨hQc0, hQf0, hQc1, hQf1, hQc2, hQf2⟩ := hQ.x3
 go_wp2_with fail
 refine (HCC.out h2 _ hBW).mono ?_
 rintro e w4 ⟨rfl, hb⟩
 clear hRc0 hRf0 hRc1 hRf1
 clear hPc0 hPf0 hPc1 hPf1 hPc2 hPf2
 clear hQc0 hQf0 hQc1 hQf1 hQc2 hQf2
 replace hR := hR.after hb
 replace hP := hP.after hb
 replace hQ := hQ.after hb
 replace hBW := bt hBW hb
 clear hb
 obtain ⟨hRc0, hRf0, hRc1, hRf1⟩ := hR.x2
 obtain ⟨hPc0, hPf0, hPc1, hPf1, hPc2, hPf2⟩ := hP.x3
 obtain ⟨hQc0, hQf0, hQc1, hQf1, hQc2, hQf2⟩ := hQ.x3
 go_wp2_with fail
 clear hRc0 hRf0 hRc1 hRf1
 clear hPc0 hPf0 hPc1 hPf1 hPc2 hPf2
 clear hQc0 hQf0 hQc1 hQf1 hQc2 hQf2
 have hC := CA.cons hR.lt (hR.cell 0) (CA.cons hR.lt (hR.cell 1) (CA.cons hP.lt (hP.cell 0) (CA.cons hP.lt (hP.cell 1) (CA.cons hP.lt (hP.cell 2) (CA.cons hQ.lt (hQ.cell 0) (CA.cons hQ.lt (hQ.cell 1) (CA.cons hQ.lt (hQ.cell 2) (CA.nil _))))))))
 clear HFF HSS HCC e1 e2 h1 h2 hR hP hQ
 go_region_held3 (fun w' => w'.cell? ⟨w.heap.size, 0, none⟩ = some (.string C) ∧ w'.cell? ⟨w.heap.size, 1, none⟩ = some (.string K) ∧ w'.cell? ⟨w.heap.size + 1, 0, none⟩ = some (.slice s1 m1 d1) ∧ w'.cell? ⟨w.heap.size + 1, 1, none⟩ = some (.slice s2 m2 d2) ∧ w'.cell? ⟨w.heap.size + 1, 2, none⟩ = some (.slice s3 m3 d3) ∧ w'.cell? ⟨w.heap.size + 1 + 1, 0, none⟩ = some (.slice sf mf df) ∧ w'.cell? ⟨w.heap.size + 1 + 1, 1, none⟩ = some (.string ch) ∧ w'.cell? ⟨w.heap.size + 1 + 1, 2, none⟩ = some (.slice sr mr dr)) ((refine CA.k8 ?_; repeat (first | (with_reducible exact hC7) | (with_reducible exact hC6) | (with_reducible exact hC5) | (with_reducible exact hC) | (with_reducible refine CA.drew ?_) | fail)))
  (first | (go_at_call 23; (with_reducible refine Calls.mono (HV1.out _ ?_) ?_); (focus (repeat (first | (with_reducible exact hBW) | (with_reducible refine Below.drew ?_) | fail))); rintro e w5 ⟨rfl, hb5⟩; (have hB5 : Below w.heap.size w w5 := bt (by repeat (first | (with_reducible exact hBW) | (with_reducible refine Below.drew ?_) | fail)) hb5); have hC5 := CA.after (CA.drew hC) hb5) | (go_at_call 24; (with_reducible refine Calls.mono (HV2.out _ ?_) ?_); (focus (repeat (first | (with_reducible exact hB5) | (with_reducible refine Below.drew ?_) | fail))); rintro e w6 ⟨rfl, hb6⟩; (have hB6 : Below w.heap.size w w6 := bt (by repeat (first | (with_reducible exact hB5) | (with_reducible refine Below.drew ?_) | fail)) hb6); have hC6 := CA.after hC5 hb6) | (go_at_call 12; (with_reducible refine Calls.mono (awake_c _) ?_); rintro e w7 ⟨rfl, hb7⟩; (have hB7 : Below w.heap.size w w7 := bt (by repeat (first | (with_reducible exact hB6) | (with_reducible refine Below.drew ?_) | fail)) hb7); have hC7 := CA.after hC6 hb7))
 go_wp2
 go_ret
 exact ⟨rfl, hB7⟩
end Go.Proofs.YtcfjcenmcpankaaGreatDoor
end

section
set_option linter.unusedVariables false
set_option linter.unusedSimpArgs false
set_option maxRecDepth 100000
namespace Go.Proofs.YtcfjcenmcpankaaGreatDoor
open Go.RowKit Go.WideShapes Go.ChangeShapes Go.ChangeAt Go.Joins Go.Deep
open Go.ChangeMaps (open_string shut_string)

theorem sver_c (S : Sta) (C K ch : ByteArray) (F : List ByteArray) (R : List (Bool × ByteArray)) (s1 s2 s3 sf sr : Option Addr) (m1 m2 m3 mf mr d1 d2 d3 df dr : Nat) (w : World) (hC : C.size ≤ 9223372036854775807) (hK : K.size ≤ 9223372036854775807) (hch : ch.size ≤ 9223372036854775807) (hF1 : ∀ x ∈ F, x.size ≤ 9223372036854775807) (hR1 : ∀ x ∈ R, x.2.size ≤ 9223372036854775807)
  (hz : SSz S) (hS : StAt w (.slice s1 m1 d1) (.slice s2 m2 d2) (.slice s3 m3 d3) S) (hFs : SsAt w (.slice sf mf df) F) (hIs : IsAt w (.slice sr mr dr) R) :
  Calls Tryz.prog 5 #[.agg #[.string C, .string K], .agg #[.slice s1 m1 d1, .slice s2 m2 d2, .slice s3 m3 d3], .agg #[.slice sf mf df, .string ch, .slice sr mr dr]] w fun e w' => e = .returned (.bool true) ∧ Below w.heap.size w w' := by
 have hmf : mf = F.length := by
  obtain ⟨a, c, h⟩ := RAt.form hFs
  injection h
 refine sv_walk C K ch s1 s2 s3 sf sr m1 m2 m3 mf mr d1 d2 d3 df dr w (ruleB S C K) (shB R) (F.any (lgB 16)) hch (fun w' hb => few16_c S C K _ _ _ w' hC hK hz (hS.after hb)) (fun w' hb => short_c R _ w' hR1 (IsAt.after hIs hb))
  (fun h w' hb => cont_lsv F (lgB 16) _ _ w' (by omega) (SsAt.after hFs hb) rfl (fun k hk w2 _ => lsv1_c _ w2 (hF1 _ (List.getElem_mem hk)))) (fun hr hs h1 h2 hbc => ?_)
 simp only [ruleB, Bool.and_eq_true, decide_eq_true_eq] at hr
 simp only [shB, Bool.and_eq_true, decide_eq_true_eq, Bool.not_eq_true', List.any_eq_false, lgB] at hs
 simp only [List.any_eq_false, lgB, decide_eq_true_eq] at hbc
 obtain ⟨k, a1, a2, _⟩ := ver_all16 S C K ch F R _ _ _ (.slice sf mf df) (.slice sr mr dr) w hr.1.1 hr.1.2 hr.2 hS (by omega) (fun x hx => by have := hbc x hx; omega) (by omega) (fun x hx => by have := hs.2 x hx; omega) (by omega) hFs hIs
 exact ⟨k, a1, a2⟩

theorem sver_lifted (os : Os) (started : os.Started) (H : Type) (enc : TypeId × Value → H) :
  ReturnsInHanded {} Tryz.checked os 5 .any (fun w args => (Rows.sigmaVerifiesSpec.pre enc Tryz.prog Tryz.f5 [] false w args ∧ laidMetH Tryz.prog laid3 w) ∧ sizedMet enc Tryz.prog Tryz.f5 (OpenSpec.ofChange Rows.sigmaVerifiesSpec) false w args)
   (Rows.sigmaVerifiesSpec.post enc Tryz.prog Tryz.f5 false true false false) := by
 refine returnsInHanded_of_change_and (C := Tryz.checked) (X := fun w _ => laidMetH Tryz.prog laid3 w) (fun _ _ _ hh h => h.of_heap hh) own_knob started (by kernel_rfl) Tryz.func5
  (ChangeSpec.witness_shaped (enc := enc) (C := Tryz.checked) (os := os) (X := fun w _ => laidMetH Tryz.prog laid3 w) false (World.doorLaid Tryz.prog 24 os) #[.agg #[.string ⟨#[]⟩, .string ⟨#[]⟩], .agg #[.slice none 0 0, .slice none 0 0, .slice none 0 0], .agg #[.slice none 0 0, .string ⟨#[]⟩, .slice none 0 0]] 8 rfl (World.shaped_of_RefB (by kernel_rfl) (by kernel_rfl)) (by kernel_rfl) (by kernel_rfl) (by kernel_rfl) (door_met os _)) ?_
 intro W base args ds gs before hval0 hW _ _ _ _
 have hval : ∀ (j : Nat) t v, Tryz.f5.params[j]? = some t → args[j]? = some v → Value.okWide Tryz.prog W .any base t v := hval0
 have hW' := hW
 obtain ⟨p, q, hA0, hV, rfl, _, _⟩ := hW
 have hA : DataW.TrodAll enc Tryz.prog W 0 (fun _ => true) true Tryz.f5.params.toList args.toList ds p := hA0
 rw [Tryz.params5] at hA hval
 obtain ⟨v0, vs0, d0, ds0, p0, q0, hargs, rfl, rfl, h0, r0⟩ := trodAll_cons hA
 obtain ⟨v1, vs1, d1, ds1, p1, q1, rfl, rfl, rfl, h1, r1⟩ := trodAll_cons r0
 obtain ⟨v2, vs2, d2, ds2, p2, q2, rfl, rfl, rfl, h2, r2⟩ := trodAll_cons r1
 obtain ⟨rfl, rfl, rfl⟩ := trodAll_nil r2
 obtain rfl : args = #[v0, v1, v2] := by cases args; simp_all
 obtain ⟨rfl, rfl⟩ := trodVars_none hV
 simp only [List.append_nil] at hW'
 have hlt : ∀ x ∈ p0 ++ (p1 ++ p2), x.block < W.heap.size := fun x hx => hW'.lt x hx
 have k0 := h0
 have k1 := h1
 have k2 := h2
 obtain ⟨C, K, rfl, hC, hK⟩ := open_rule (hval 0 24 v0 rfl rfl) h0
 obtain ⟨S, s1, s2, s3, m1, m2, m3, d1, d2, d3, rfl, hz, hS⟩ := open_sta (hval 1 29 v1 rfl rfl) h1
 obtain ⟨F, ch, R, sf, sr, mf, mr, df, dr, rfl, hF1, hch, hR1, hFs, hIs⟩ := open_proof (hval 2 52 v2 rfl rfl) h2
 clear hA0 hval0 hA r0 h0 r1 h1 r2 h2
 refine (sver_c S C K ch F R s1 s2 s3 sf sr m1 m2 m3 mf mr d1 d2 d3 df dr W hC hK hch hF1 hR1 hz hS hFs hIs).mono fun en W' hh => ?_
 obtain ⟨rfl, hb⟩ := hh
 have stay : ∀ {t : TypeId} (hr : Tryz.prog.readableRec t = true) (hrow : t < Tryz.prog.types.size) {v : Value} {d : DataW H} {ps : List MemPlace} (h : DataW.Trod enc Tryz.prog W 0 (fun _ => true) true t v d ps) (hl : ∀ z ∈ ps, z.block < W.heap.size) (sp : Nat → Bool) (hs : ∀ z ∈ ps, sp z.block = true), DataW.Trod enc Tryz.prog W' 0 sp true t v d ps :=
  fun hr hrow _ _ _ h hl sp hs => WideElems.Trod_stays laid_out hr hrow h (fun z hz => hb.same (hl z hz)) hs
 exact ⟨_, rfl, post_of_below (pa := p0 ++ (p1 ++ (p2 ++ []))) (pv := []) hW' (fun _ _ _ => trodAll_cons_mk (shut_bool Tryz.underlying4 _) trodAll_mk0)
  (fun sp hs => trodAll_cons_mk (stay (by kernel_rfl) (of_decide_eq_true (by kernel_rfl)) k0 (fun z hz => hlt z (by simp [hz])) sp (fun z hz => hs z (by simp [hz]))) (trodAll_cons_mk (stay (by kernel_rfl) (of_decide_eq_true (by kernel_rfl)) k1 (fun z hz => hlt z (by simp [hz])) sp (fun z hz => hs z (by simp [hz]))) (trodAll_cons_mk (stay (by kernel_rfl) (of_decide_eq_true (by kernel_rfl)) k2 (fun z hz => hlt z (by simp [hz])) sp (fun z hz => hs z (by simp [hz]))) trodAll_mk0))) (fun _ _ => rfl) (by simp) hb
  (ok_one (by kernel_rfl) rfl (okWide_bool_mk Tryz.underlying4 _))⟩

theorem sver_holds : Rows.SigmaVerifiesSaid :=
 OpenClaim.holds_of_wide 5 Tryz.f5 rfl rfl rfl rfl rfl rfl rfl ⟨rfl, rfl, rfl, rfl, rfl⟩ rfl rfl rfl rfl rfl (by kernel_rfl) Tryz.func5 (by kernel_rfl)
  (of_decide_eq_true (by kernel_rfl)) (by unfold Func.isWrapper; first | (rw [if_pos (by decide +kernel)]; kernel_rfl) | (rw [if_neg (by decide +kernel)]; exact ⟨rfl, rfl⟩))
  (fun os started H enc _ => sver_lifted os started H enc)

theorem sver_card : Rows.SigmaVerifiesCardSaid :=
 Claim7.holds_tied_plain_at .later [] [.data, .data, .data] true (true, "82157d4e328a061784dc718d726121388702a985537db1dd35e3cb80443a5f63") false
  sver_holds (fun _ h => by cases h) (by kernel_rfl) (fun _ h => by cases h) sigmaVerifies_row_tie rfl ⟨rfl, rfl⟩ (by kernel_rfl) rfl
  (fun f fn hf hfn => by
   obtain rfl : f = 5 := Option.some.inj ((show Tryz.prog.funcNamed "domino/dominolaw16.SigmaVerifies" = some 5 by kernel_rfl).symm.trans hf) |>.symm
   obtain rfl : fn = Tryz.f5 := (Option.some.inj (Tryz.func5.symm.trans hfn)).symm
   exact ⟨by kernel_rfl, fun j t ht => by
    rw [Tryz.params5] at ht
    have hm : t ∈ [24, 29, 52] := by simpa using Array.mem_of_getElem? ht
    have hall : ([24, 29, 52].all fun u => !Tryz.prog.wantsStandIn u) = true := by kernel_rfl
    exact (show Tryz.prog.wantsStandIn t = false by simpa using List.all_eq_true.1 hall t hm)⟩)
  (by kernel_rfl)
end Go.Proofs.YtcfjcenmcpankaaGreatDoor
end
