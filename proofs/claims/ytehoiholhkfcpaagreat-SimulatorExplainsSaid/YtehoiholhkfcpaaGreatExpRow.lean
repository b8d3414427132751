/- For every case (rule, statement, witness, challenge, numbers, tape), dominolaw17.SimulatorExplains returns true and its argument reads as it did: simulator.Explain returns the masks, or the error, of the reference. No condition. -/
import Derived.Test.YtehoiholhkfcpaaGreatArg7
import Derived.Test.YtehoiholhkfcpaaGreatRm6
import Derived.Test.YtehoiholhkfcpaaGreatFr8
import Derived.Test.YtehoiholhkfcpaaGreatSx8
import Derived.Test.YtehoiholhkfcpaaGreatSh3
section
set_option linter.unusedVariables false
set_option linter.unusedSimpArgs false
set_option maxRecDepth 100000
namespace Go.Proofs.YtehoiholhkfcpaaGreat
open Go.RowKit Go.Shelf

/-- Explain of both sides, for any proof that is read -/
theorem exp_two (S : Sta) (C K ch : ByteArray) (WL R : List (Bool × ByteArray)) (F : List ByteArray) (v1 v2 v3 v4 f rs : Value) (w : World) (hC : C.size ≤ 8) (hK : K.size ≤ 8) (hf : fewB S = true) (hS : StAt w v1 v2 v3 S)
  (hn : WL.length ≤ 20) (hs : ∀ x ∈ WL, x.2.size ≤ 24) (hL : IsAt w v4 WL) (hF : SsAt w f F) (hR : IsAt w rs R) (n1 : F.length ≤ 12) (n2 : ∀ x ∈ F, x.size ≤ 9) (n3 : R.length ≤ 12) (n4 : ∀ x ∈ R, x.2.size ≤ 40) (n5 : ch.size ≤ 16) :
  ∃ (k : Nat) (G : List Int), G.length ≤ 1000 ∧ (∀ w', Below w.heap.size w w' → Calls Tryz.prog 12 #[.agg #[.string C, .string K], .agg #[v1, v2, v3], v4, .agg #[f, .string ch, rs]] w' (EPost w' k G)) ∧
   (∀ w', Below w.heap.size w w' → Calls Tryz.prog 13 #[.agg #[.string C, .string K], .agg #[v1, v2, v3], v4, .agg #[f, .string ch, rs]] w' (EPost w' k G)) := by
 have hs2 : ∀ x ∈ WL, x.2.size ≤ 1000 := fun x hx => by have := hs x hx; omega
 obtain ⟨k, hk, h1, h2⟩ | ⟨N, c, k, rfl, rfl, hc, hk, hm, hN, h0, c2, k2, hv, h1, h2⟩ := bnd7 S C K v1 v2 v3 w hC hK hf hS
 ·exact ⟨k, [], by simp, fun w' hb => sexp_err C K v1 v2 v3 v4 f _ rs k w' hk (fun w2 hb2 => h1 w2 (bt hb hb2)), fun w' hb => rexp_err C K v1 v2 v3 v4 f _ rs k w' hk (fun w2 hb2 => h2 w2 (bt hb hb2))⟩
 ·cases hi : ivsB WL
  ·exact ⟨3, [], by simp, fun w' hb => sexp_form (E c) (E k) WL _ v1 v2 v3 v4 f _ rs w' (by omega) hs2 (IsAt.after hL hb) hi (fun w2 hb2 => h1 w2 (bt hb hb2)),
    fun w' hb => rexp_form (E c) (E k) WL _ v1 v2 v3 v4 f _ rs w' (by omega) hs2 (IsAt.after hL hb) hi (fun w2 hb2 => h2 w2 (bt hb hb2))⟩
  ·obtain ⟨e, he, hv1, hv2⟩ | ⟨G, x, Y, rfl, rfl, rfl, hG, hx, hY, hver, hv1, hv2⟩ := ver_two N c k ch F R v1 v2 v3 f rs w hc hk hm hN h0 c2 k2 hv n1 n2 n3 n4 n5 hF hR
   ·exact ⟨e, [], by simp, fun w' hb => sexp_ver (E c) (E k) WL _ v1 v2 v3 v4 f _ rs e w' he (by omega) hs2 (IsAt.after hL hb) hi (fun w2 hb2 => h1 w2 (bt hb hb2)) (fun w2 hb2 => hv1 w2 (bt hb hb2)),
     fun w' hb => rexp_ver (E c) (E k) WL _ v1 v2 v3 v4 f _ rs e w' he (by omega) hs2 (IsAt.after hL hb) hi (fun w2 hb2 => h2 w2 (bt hb hb2)) (fun w2 hb2 => hv2 w2 (bt hb hb2))⟩
   ·obtain ⟨Z, rfl, hZ⟩ := ints_lift WL 24 (by simpa [ivsB] using hi) hs
    have hz : ZsAt w v4 Z := hL
    have hy : ZsAt w rs Y := hR
    have hzl : Z.length ≤ 1000 := by simp at hn; omega
    obtain ⟨_, yl, xc, yr⟩ := ver_inv hver
    have hx8 : x < 256 ^ 8 := by omega
    have hZ63 : ∀ z ∈ Z, z.natAbs < 256 ^ 63 := fun z h => Nat.lt_of_lt_of_le (hZ z h) (Nat.pow_le_pow_right (by decide) (by decide))
    have hY64 : ∀ z ∈ Y, z.natAbs < 256 ^ 64 := fun z h => Nat.lt_of_lt_of_le (hY z h) (Nat.pow_le_pow_right (by decide) (by decide))
    have hq := ord_lt hm
    have hyq : ∀ (j : Nat) (h : j < N.vars.length) (h2 : j < Y.length), N.vars[j] = 0 → 0 ≤ Y[j] ∧ Y[j].natAbs < N.ord := fun j h h2 hz0 => by
     have a1 := ra_at yr h
     rw [blJ_at N c k Y j h h2, hz0, blw, lim, if_pos rfl] at a1
     simp only [vz, sg, Bool.and_eq_true, decide_eq_true_eq] at a1
     refine ⟨?_, a1.1⟩
     have := a1.2; simp at this; omega
    refine ⟨N.exE Z, N.exL x Y Z, ?_, fun w' hb => sexp_num N c k x Y Z v1 v2 v3 v4 f rs w' hc hk hm (hN.after hb) h0 (ZsAt.after hz hb) hZ63 hzl hx8 (ZsAt.after hy hb) yl hY64 (fun j h h2 hz0 => by
      have := hyq j h h2 hz0
      omega) (fun w2 hb2 => h1 w2 (bt hb hb2)) (fun w2 hb2 => hv1 w2 (bt hb hb2)),
     fun w' hb => rexp_num N c k x Y Z v1 v2 v3 v4 f rs w' hc hk hm (hN.after hb) h0 (ZsAt.after hz hb) hZ63 hzl hx8 (ZsAt.after hy hb) yl hY64 hyq (fun w2 hb2 => h2 w2 (bt hb hb2)) (fun w2 hb2 => hv2 w2 (bt hb hb2))⟩
    have := hm.nv
    unfold NSta.exL NSta.expL
    split
    ·simp; omega
    ·simp
end Go.Proofs.YtehoiholhkfcpaaGreat
end

section
set_option linter.unusedVariables false
set_option linter.unusedSimpArgs false
set_option maxRecDepth 100000
namespace Go.Proofs.YtehoiholhkfcpaaGreat
open Go.RowKit Go.Shelf

set_option maxHeartbeats 4000000 in
theorem expl_big (C K ch sd : ByteArray) (s1 s2 s3 xw xl xt : Option Addr) (m1 m2 m3 d1 d2 d3 nw pw nl pl nt pt : Nat) (ti : Int) (w : World)
  (HF : ∀ w', Below w.heap.size w w' → Calls Tryz.prog 6 #[.agg #[.string C, .string K, .slice s1 m1 d1, .slice s2 m2 d2, .slice s3 m3 d3, .slice xw nw pw, .string ch, .slice xl nl pl, .slice xt nt pt, .string sd, .int .i64 ti]] w' fun e w'' => e = .returned (.bool false) ∧ Below w'.heap.size w' w'') :
  Calls Tryz.prog 4 #[.agg #[.string C, .string K, .slice s1 m1 d1, .slice s2 m2 d2, .slice s3 m3 d3, .slice xw nw pw, .string ch, .slice xl nl pl, .slice xt nt pt, .string sd, .int .i64 ti]] w fun e w' => e = .returned (.bool true) ∧ Below w.heap.size w w' := by
 have HFF := Lib.hid HF
 have hP := Blk.new w #[.string C, .string K, .slice s1 m1 d1, .slice s2 m2 d2, .slice s3 m3 d3, .slice xw nw pw, .string ch, .slice xl nl pl, .slice xt nt pt, .string sd, .int .i64 ti] 35
 have hBW := b1 w (.cells #[.string C, .string K, .slice s1 m1 d1, .slice s2 m2 d2, .slice s3 m3 d3, .slice xw nw pw, .string ch, .slice xl nl pl, .slice xt nt pt, .string sd, .int .i64 ti] 35)
 clear HF
 obtain ⟨hPc0, hPf0, hPc1, hPf1, hPc2, hPf2, hPc3, hPf3, hPc4, hPf4, hPc5, hPf5, hPc6, hPf6, hPc7, hPf7, hPc8, hPf8, hPc9, hPf9, hPc10, hPf10⟩ := hP.x11
 go_enter Tryz.func4, Tryz.ntmps4
 go_wp2_with fail
 refine (HFF.out _ hBW).mono ?_
 rintro e w2 ⟨rfl, hb2⟩
 clear hPc0 hPf0 hPc1 hPf1 hPc2 hPf2 hPc3 hPf3 hPc4 hPf4 hPc5 hPf5 hPc6 hPf6 hPc7 hPf7 hPc8 hPf8 hPc9 hPf9 hPc10 hPf10
 go_wp2_with fail
 refine (awake_c _).mono ?_
 rintro e w3 ⟨rfl, hb3⟩
 go_wp2
 go_ret
 exact ⟨rfl, bt (bt hBW hb2) hb3⟩

set_option maxHeartbeats 4000000 in
theorem expl_walk (C K ch sd : ByteArray) (s1 s2 s3 xw xl xt : Option Addr) (m1 m2 m3 d1 d2 d3 nw pw nl pl nt pt : Nat) (ti : Int) (w : World)
  (HF : ∀ w', Below w.heap.size w w' → Calls Tryz.prog 6 #[.agg #[.string C, .string K, .slice s1 m1 d1, .slice s2 m2 d2, .slice s3 m3 d3, .slice xw nw pw, .string ch, .slice xl nl pl, .slice xt nt pt, .string sd, .int .i64 ti]] w' fun e w'' => e = .returned (.bool true) ∧ Below w'.heap.size w' w'')
  (H0 : ∀ w', Below w.heap.size w w' → Calls Tryz.prog 11 #[.agg #[.string C, .string K, .slice s1 m1 d1, .slice s2 m2 d2, .slice s3 m3 d3, .slice xw nw pw, .string ch, .slice xl nl pl, .slice xt nt pt, .string sd, .int .i64 ti]] w' (PrfPost w'))
  (H1 : ∀ (f rs : Value) (F : List ByteArray) (R : List (Bool × ByteArray)) (c : ByteArray) (w' : World), Below w.heap.size w w' → SsAt w' f F → IsAt w' rs R → F.length ≤ 12 → (∀ x ∈ F, x.size ≤ 9) → R.length ≤ 12 → (∀ x ∈ R, x.2.size ≤ 40) → c.size ≤ 16 →
   ∃ (k : Nat) (G : List Int), G.length ≤ 1000 ∧ (∀ w'', Below w'.heap.size w' w'' → Calls Tryz.prog 12 #[.agg #[.string C, .string K], .agg #[.slice s1 m1 d1, .slice s2 m2 d2, .slice s3 m3 d3], .slice xw nw pw, .agg #[f, .string c, rs]] w'' (EPost w'' k G)) ∧
    (∀ w'', Below w'.heap.size w' w'' → Calls Tryz.prog 13 #[.agg #[.string C, .string K], .agg #[.slice s1 m1 d1, .slice s2 m2 d2, .slice s3 m3 d3], .slice xw nw pw, .agg #[f, .string c, rs]] w'' (EPost w'' k G))) :
  Calls Tryz.prog 4 #[.agg #[.string C, .string K, .slice s1 m1 d1, .slice s2 m2 d2, .slice s3 m3 d3, .slice xw nw pw, .string ch, .slice xl nl pl, .slice xt nt pt, .string sd, .int .i64 ti]] w fun e w' => e = .returned (.bool true) ∧ Below w.heap.size w w' := by
 have HFF := Lib.hid HF
 have HH0 := Lib.hid H0
 have HH1 := Lib.hid H1
 have hP := Blk.new w #[.string C, .string K, .slice s1 m1 d1, .slice s2 m2 d2, .slice s3 m3 d3, .slice xw nw pw, .string ch, .slice xl nl pl, .slice xt nt pt, .string sd, .int .i64 ti] 35
 have hBW := b1 w (.cells #[.string C, .string K, .slice s1 m1 d1, .slice s2 m2 d2, .slice s3 m3 d3, .slice xw nw pw, .string ch, .slice xl nl pl, .slice xt nt pt, .string sd, .int .i64 ti] 35)
 clear HF H0 H1
 obtain ⟨gp, hgp⟩ : ∃ g, w.heap.size = g := ⟨_, rfl⟩
 have HGP := Lib.hid hgp
 obtain ⟨hPc0, hPf0, hPc1, hPf1, hPc2, hPf2, hPc3, hPf3, hPc4, hPf4, hPc5, hPf5, hPc6, hPf6, hPc7, hPf7, hPc8, hPf8, hPc9, hPf9, hPc10, hPf10⟩ := hP.x11
 go_enter Tryz.func4, Tryz.ntmps4
 go_wp2_with fail
 refine (HFF.out _ hBW).mono ?_
 rintro e w2 ⟨rfl, hb2⟩
 clear hPc0 hPf0 hPc1 hPf1 hPc2 hPf2 hPc3 hPf3 hPc4 hPf4 hPc5 hPf5 hPc6 hPf6 hPc7 hPf7 hPc8 hPf8 hPc9 hPf9 hPc10 hPf10
 replace hP := hP.after hb2
 replace hBW := bt hBW hb2
 clear hb2
 replace hP : Blk w2 w.heap.size 35 [.string C, .string K, .slice s1 m1 d1, .slice s2 m2 d2, .slice s3 m3 d3, .slice xw nw pw, .string ch, .slice xl nl pl, .slice xt nt pt, .string sd, .int .i64 ti] := hP
 rw [hgp] at hP
 clear hgp
 obtain ⟨hPc0, hPf0, hPc1, hPf1, hPc2, hPf2, hPc3, hPf3, hPc4, hPf4, hPc5, hPf5, hPc6, hPf6, hPc7, hPf7, hPc8, hPf8, hPc9, hPf9, hPc10, hPf10⟩ := hP.x11
 go_wp2_with fail
 refine (HH0.out _ hBW).mono ?_
 rintro e w3 ⟨f, rs, F, R, c, rfl, hF, hR, n1, n2, n3, n4, n5, hb3⟩
 clear hPc0 hPf0 hPc1 hPf1 hPc2 hPf2 hPc3 hPf3 hPc4 hPf4 hPc5 hPf5 hPc6 hPf6 hPc7 hPf7 hPc8 hPf8 hPc9 hPf9 hPc10 hPf10
 replace hP := hP.after hb3
 replace hBW := bt hBW hb3
 clear hb3
 obtain ⟨k, G, hG, hc1, hc2⟩ := HH1.out f rs F R c w3 hBW hF hR n1 n2 n3 n4 n5
 obtain ⟨af, cf, rfl⟩ := RAt.form hF
 obtain ⟨ar, cr, rfl⟩ := RAt.form hR
 have HC1 := Lib.hid hc1
 have HC2 := Lib.hid hc2
 have HG := Lib.hid hG
 have hkk : ((k : Int) == (k : Int)) = true := by simp
 clear hc1 hc2 hG hF hR n1 n2 n3 n4 n5 HH1 HH0 HFF
 generalize F.length = nf at HC1 HC2 ⊢
 generalize R.length = nr at HC1 HC2 ⊢
 go_upto_region 4 with fail
 have hQ := Blk.new w3 #[.slice af nf cf, .string c, .slice ar nr cr] 45
 have hb34 := b1 w3 (.cells #[.slice af nf cf, .string c, .slice ar nr cr] 45)
 generalize w3.alloc (.cells #[.slice af nf cf, .string c, .slice ar nr cr] 45) = w3' at hQ hb34 ⊢
 generalize w3.heap.size = gq at hQ ⊢
 replace hP := hP.after hb34
 replace hBW := bt hBW hb34
 replace hQ : Blk w3' gq 45 [.slice af nf cf, .string c, .slice ar nr cr] := hQ
 obtain ⟨hPc0, hPf0, hPc1, hPf1, hPc2, hPf2, hPc3, hPf3, hPc4, hPf4, hPc5, hPf5, hPc6, hPf6, hPc7, hPf7, hPc8, hPf8, hPc9, hPf9, hPc10, hPf10⟩ := hP.x11
 obtain ⟨hQc0, hQf0, hQc1, hQf1, hQc2, hQf2⟩ := hQ.x3
 go_wp2_with fail
 refine (HC1.out _ hb34).mono ?_
 rintro e w4 ⟨v, rfl, hO1, hb4⟩
 clear hPc0 hPf0 hPc1 hPf1 hPc2 hPf2 hPc3 hPf3 hPc4 hPf4 hPc5 hPf5 hPc6 hPf6 hPc7 hPf7 hPc8 hPf8 hPc9 hPf9 hPc10 hPf10
 clear hQc0 hQf0 hQc1 hQf1 hQc2 hQf2
 have hS1 : ZsAt w4 v G := ZOwn.zs hO1
 clear hO1
 have hb24 := bt hb34 hb4
 replace hP := hP.after hb4
 replace hQ := hQ.after hb4
 replace hBW := bt hBW hb4
 obtain ⟨a1, c1, rfl⟩ := ZsAt.form hS1
 obtain ⟨hPc0, hPf0, hPc1, hPf1, hPc2, hPf2, hPc3, hPf3, hPc4, hPf4, hPc5, hPf5, hPc6, hPf6, hPc7, hPf7, hPc8, hPf8, hPc9, hPf9, hPc10, hPf10⟩ := hP.x11
 obtain ⟨hQc0, hQf0, hQc1, hQf1, hQc2, hQf2⟩ := hQ.x3
 go_wp2_with fail
 refine (HC2.out _ hb24).mono ?_
 rintro e w5 ⟨v', rfl, hO2, hb5⟩
 clear hPc0 hPf0 hPc1 hPf1 hPc2 hPf2 hPc3 hPf3 hPc4 hPf4 hPc5 hPf5 hPc6 hPf6 hPc7 hPf7 hPc8 hPf8 hPc9 hPf9 hPc10 hPf10
 clear hQc0 hQf0 hQc1 hQf1 hQc2 hQf2
 have hS2 : ZsAt w5 v' G := ZOwn.zs hO2
 clear hO2
 replace hS1 := ZsAt.after hS1 hb5
 replace hBW := bt hBW hb5
 clear hb4 hb5 hP hQ hb34 hb24
 obtain ⟨a2, c2, rfl⟩ := ZsAt.form hS2
 go_wp2_with fail
 refine (eqZ_c _ _ G _ HG.out hS1 hS2).mono ?_
 rintro e w6 ⟨rfl, hb6⟩
 replace hBW := bt hBW hb6
 clear hb6 hS1 hS2
 go_wp2_with fail
 refine (awake_c _).mono ?_
 rintro e w7 ⟨rfl, hb7⟩
 go_wp2
 go_ret
 exact ⟨rfl, bt hBW hb7⟩
end Go.Proofs.YtehoiholhkfcpaaGreat
end

section
set_option linter.unusedVariables false
set_option linter.unusedSimpArgs false
set_option maxRecDepth 100000
namespace Go.Proofs.YtehoiholhkfcpaaGreat
open Go.RowKit Go.WideShapes Go.ChangeShapes Go.ChangeAt Go.Joins Go.Deep
open Go.ChangeMaps (open_string shut_string)

theorem caseB_tape {S : Sta} {C K ch sd : ByteArray} {W L : List (Bool × ByteArray)} {V : List ByteArray} (h : caseB S C K ch sd W L V = true) :
  V.length ≤ 100 ∧ (∀ x ∈ V, x.size ≤ 24) ∧ sd.size ≤ 60 := by
 simp only [caseB, tszV, Bool.and_eq_true, decide_eq_true_eq, List.all_eq_true] at h
 obtain ⟨h1, _, _, _, _, h2, h3⟩ := h
 exact ⟨h2, h1, h3⟩

theorem expl_c (S : Sta) (C K ch sd : ByteArray) (WL L : List (Bool × ByteArray)) (V : List ByteArray) (ti : Int) (s1 s2 s3 xw xl xt : Option Addr) (m1 m2 m3 d1 d2 d3 nw pw nl pl nt pt : Nat) (w : World)
  (hC : C.size ≤ 9223372036854775807) (hK : K.size ≤ 9223372036854775807) (hz : SSz S) (hS : StAt w (.slice s1 m1 d1) (.slice s2 m2 d2) (.slice s3 m3 d3) S)
  (hp : CSz WL L V ch sd) (hWl : IsAt w (.slice xw nw pw) WL) (hLl : IsAt w (.slice xl nl pl) L) (hVl : SsAt w (.slice xt nt pt) V) :
  Calls Tryz.prog 4 #[.agg #[.string C, .string K, .slice s1 m1 d1, .slice s2 m2 d2, .slice s3 m3 d3, .slice xw nw pw, .string ch, .slice xl nl pl, .slice xt nt pt, .string sd, .int .i64 ti]] w fun e w' => e = .returned (.bool true) ∧ Below w.heap.size w w' := by
 have HF := fun w' (hb : Below w.heap.size w w') => fewC_c S C K ch sd WL L V ti s1 s2 s3 xw xl xt m1 m2 m3 d1 d2 d3 nw pw nl pl nt pt w' hC hK hz (hS.after hb) hp (IsAt.after hWl hb) (IsAt.after hLl hb) (SsAt.after hVl hb)
 cases hr : caseB S C K ch sd WL L V
 ·rw [hr] at HF
  exact expl_big C K ch sd s1 s2 s3 xw xl xt m1 m2 m3 d1 d2 d3 nw pw nl pl nt pt ti w HF
 ·rw [hr] at HF
  obtain ⟨hC8, hK8, hf, hw1, hw2, hl1, hl2, hc8⟩ := caseB_inv hr
  obtain ⟨hv1, hv2, hsd⟩ := caseB_tape hr
  exact expl_walk C K ch sd s1 s2 s3 xw xl xt m1 m2 m3 d1 d2 d3 nw pw nl pl nt pt ti w HF (proof_c17 (fun s b c w => compress_x s b c w) S C K ch sd WL L V ti s1 s2 s3 xw xl xt m1 m2 m3 d1 d2 d3 nw pw nl pl nt pt w hC8 hK8 hc8 hf hS hl1 hl2 hLl hVl hv1 hv2 hsd)
   (fun f rs F R c w' hb hF hR n1 n2 n3 n4 n5 => exp_two S C K c WL R F _ _ _ _ f rs w' hC8 hK8 hf (hS.after hb) hw1 hw2 (IsAt.after hWl hb) hF hR n1 n2 n3 n4 n5)

theorem expl_lifted (os : Os) (started : os.Started) (H : Type) (enc : TypeId × Value → H) :
  ReturnsInHanded {} Tryz.checked os 4 .any (Rows.simulatorExplainsSpec.pre6 enc Tryz.prog Tryz.f4 Rows.simulatorExplainsRow.domain false) (Rows.simulatorExplainsSpec.post enc Tryz.prog Tryz.f4 false true false false) := by
 refine returnsInHanded_of_change (C := Tryz.checked) own_knob started (by kernel_rfl) Tryz.func4
  (ChangeSpec.witness6 (enc := enc) (C := Tryz.checked) false ⟨#[], #[.agg #[.string ⟨#[]⟩, .string ⟨#[]⟩, .slice none 0 0, .slice none 0 0, .slice none 0 0, .slice none 0 0, .string ⟨#[]⟩, .slice none 0 0, .slice none 0 0, .string ⟨#[]⟩, .int .i64 0]], []⟩ 8 (by kernel_rfl) (by kernel_rfl) (by kernel_rfl) (by kernel_rfl)) ?_
 intro W base args ds gs before hval0 hW _ _
 have hval : ∀ (j : Nat) t v, Tryz.f4.params[j]? = some t → args[j]? = some v → Value.okWide Tryz.prog W .any base t v := hval0
 have hW' := hW
 obtain ⟨p, q, hA0, hV, rfl, _, _⟩ := hW
 have hA : DataW.TrodAll enc Tryz.prog W 0 (fun _ => true) true Tryz.f4.params.toList args.toList ds p := hA0
 rw [Tryz.params4] at hA hval
 obtain ⟨v0, vs0, d0, ds0, p0, q0, hargs, rfl, rfl, h0, r0⟩ := trodAll_cons hA
 obtain ⟨rfl, rfl, rfl⟩ := trodAll_nil r0
 obtain rfl : args = #[v0] := by cases args; simp_all
 obtain ⟨rfl, rfl⟩ := trodVars_none hV
 simp only [List.append_nil] at hW'
 have hlt : ∀ x ∈ p0, x.block < W.heap.size := fun x hx => hW'.lt x (by simpa using hx)
 have k0 := h0
 obtain ⟨C, K, ch, sd, S, WL, L, V, ti, s1, s2, s3, xw, xl, xt, m1, m2, m3, d1, d2, d3, nw, pw, nl, pl, nt, pt, rfl, hC, hK, hz, hS, hp, hWl, hLl, hVl⟩ := open_case (hval 0 35 v0 rfl rfl) h0
 clear hA0 hval0 hA r0 h0
 refine (expl_c S C K ch sd WL L V ti s1 s2 s3 xw xl xt m1 m2 m3 d1 d2 d3 nw pw nl pl nt pt W hC hK hz hS hp hWl hLl hVl).mono fun en W' hh => ?_
 obtain ⟨rfl, hb⟩ := hh
 have stay : ∀ {t : TypeId} (hr : Tryz.prog.readableRec t = true) (hrow : t < Tryz.prog.types.size) {v : Value} {d : DataW H} {ps : List MemPlace} (h : DataW.Trod enc Tryz.prog W 0 (fun _ => true) true t v d ps) (hl : ∀ z ∈ ps, z.block < W.heap.size) (sp : Nat → Bool) (hs : ∀ z ∈ ps, sp z.block = true), DataW.Trod enc Tryz.prog W' 0 sp true t v d ps :=
  fun hr hrow _ _ _ h hl sp hs => WideElems.Trod_stays laid_out hr hrow h (fun z hz => hb.same (hl z hz)) hs
 exact ⟨_, rfl, post_of_below (pa := p0 ++ []) (pv := []) hW' (fun _ _ _ => trodAll_cons_mk (shut_bool Tryz.underlying4 _) trodAll_mk0)
  (fun sp hs => trodAll_cons_mk (stay (by kernel_rfl) (of_decide_eq_true (by kernel_rfl)) k0 (fun z hz => hlt z (by simp [hz])) sp (fun z hz => hs z (by simp [hz]))) trodAll_mk0) (fun _ _ => rfl) (by simp) hb
  (ok_one (by kernel_rfl) rfl (okWide_bool_mk Tryz.underlying4 _))⟩

theorem expl_holds : Rows.SimulatorExplainsSaid :=
 OpenClaim.holds_of_wide 4 Tryz.f4 rfl rfl rfl rfl rfl rfl rfl ⟨rfl, rfl, rfl, rfl, rfl⟩ rfl rfl rfl rfl rfl (by kernel_rfl) Tryz.func4 (by kernel_rfl)
  (of_decide_eq_true (by kernel_rfl)) (by unfold Func.isWrapper; first | (rw [if_pos (by decide +kernel)]; kernel_rfl) | (rw [if_neg (by decide +kernel)]; exact ⟨rfl, rfl⟩))
  (fun os started H enc _ => expl_lifted os started H enc)

end Go.Proofs.YtehoiholhkfcpaaGreat
end
