import Derived.Test.YtfgandecbkbleaaGreatDoorPow4
section
set_option linter.unusedVariables false
set_option linter.unusedSimpArgs false
set_option maxRecDepth 100000
namespace Go.Proofs.YtfgandecbkbleaaGreatDoor
open Go.RowKit

/-- the error of a key whose strings are numbers -/
def pedE (p q g h : Nat) : Nat := if grpE p q = 0 then (if hasB p q g = true ∧ hasB p q h = true ∧ g ≠ 1 ∧ h ≠ 1 ∧ g ≠ h then 0 else 13) else 13

theorem grpE_cases (p q : Nat) : grpE p q = 0 ∨ grpE p q = 13 := by
 unfold grpE
 split
 ·split
  ·exact .inl rfl
  ·exact .inr rfl
 ·split
  ·exact .inl rfl
  ·exact .inr rfl

theorem pformedV_c (a b c d : ByteArray) (r : Bool) (w : World) (ha : a.size ≤ 1000) (hb : b.size ≤ 1000) (hc : c.size ≤ 1000) (hd : d.size ≤ 1000) (hr : vl4 a b c d = r) :
  Calls Tryz.prog 101 #[.agg #[.string a, .string b, .string c, .string d]] w fun e w' => e = .returned (.bool r) ∧ Below w.heap.size w w' := by
 rw [← hr]; exact pformed_c a b c d w ha hb hc hd

theorem vl4_E {p q g h : Nat} (hp : p < 256 ^ 128) (hq : q < 256 ^ 128) (hg : g < 256 ^ 128) (hh : h < 256 ^ 128) : vl4 (E p) (E q) (E g) (E h) = true := by
 unfold vl4; rw [vldB_E p hp, vldB_E q hq, vldB_E g hg, vldB_E h hh]; rfl

theorem sz1000 {n : Nat} (h : n < 256 ^ 128) : (E n).size ≤ 1000 := by have := sz n h; omega

set_option maxHeartbeats 800000 in
theorem pedcheck_bad (a b c d : ByteArray) (w : World) (ha : a.size ≤ 1000) (hb : b.size ≤ 1000) (hc : c.size ≤ 1000) (hd : d.size ≤ 1000) (hr : vl4 a b c d = false) :
  Calls Tryz.prog 89 #[.agg #[.string a, .string b, .string c, .string d]] w fun e w' => e = .returned (.int .i64 3) ∧ Below w.heap.size w w' := by
 have HF := Lib.hid (fun w => pformedV_c a b c d false w ha hb hc hd hr)
 clear ha hb hc hd hr
 go_enter Tryz.func89, Tryz.ntmps89
 go_wp2_with fail
 refine (HF.out _).mono ?_
 rintro e w1 ⟨rfl, hb1⟩
 go_wp2
 go_ret
 exact ⟨rfl, bt (b1 _ _) hb1⟩

set_option maxHeartbeats 1600000 in
theorem pedcheck_grp (p q g h : Nat) (w : World) (hp : p < 256 ^ 8) (hq : q < 256 ^ 128) (hgb : g < 256 ^ 128) (hhb : h < 256 ^ 128) (he : grpE p q = 13) :
  Calls Tryz.prog 89 #[.agg #[.string (E p), .string (E q), .string (E g), .string (E h)]] w fun e w' => e = .returned (.int .i64 13) ∧ Below w.heap.size w w' := by
 have HF := Lib.hid (fun w => pformedV_c (E p) (E q) (E g) (E h) true w (sz1000 (lt128 hp)) (sz1000 hq) (sz1000 hgb) (sz1000 hhb) (vl4_E (lt128 hp) hq hgb hhb))
 have HO := Lib.hid (fun w => ofK_c 1 1 w rfl (by decide))
 have hB := Blk.new w #[Value.string (E p), Value.string (E q), Value.string (E g), Value.string (E h)] 26
 have HC := Lib.hid (fun w => pcheckV_c p q 13 w hp hq he)
 clear he
 clear hp hq hgb hhb
 go_enter Tryz.func89, Tryz.ntmps89
 go_wp2_with fail
 refine (HF.out _).mono ?_
 rintro e w1 ⟨rfl, hb1⟩
 replace hB := hB.after hb1
 obtain ⟨hBc0, hBf0, hBc1, hBf1, hBc2, hBf2, hBc3, hBf3⟩ := hB.x4
 go_wp2_with fail
 refine (HC.out _).mono ?_
 rintro e w2 ⟨rfl, hb2⟩
 clear hBc0 hBf0 hBc1 hBf1 hBc2 hBf2 hBc3 hBf3
 replace hB := hB.after hb2
 obtain ⟨hBc0, hBf0, hBc1, hBf1, hBc2, hBf2, hBc3, hBf3⟩ := hB.x4
 go_wp2
 go_ret
 exact ⟨rfl, bt (bt (b1 _ _) hb1) hb2⟩

set_option maxHeartbeats 1600000 in
theorem pedcheck_g (p q g h : Nat) (w : World) (hp : p < 256 ^ 8) (hq : q < 256 ^ 128) (hgb : g < 256 ^ 128) (hhb : h < 256 ^ 128) (he : grpE p q = 0) (h1 : hasB p q g = false) :
  Calls Tryz.prog 89 #[.agg #[.string (E p), .string (E q), .string (E g), .string (E h)]] w fun e w' => e = .returned (.int .i64 13) ∧ Below w.heap.size w w' := by
 have HF := Lib.hid (fun w => pformedV_c (E p) (E q) (E g) (E h) true w (sz1000 (lt128 hp)) (sz1000 hq) (sz1000 hgb) (sz1000 hhb) (vl4_E (lt128 hp) hq hgb hhb))
 have HO := Lib.hid (fun w => ofK_c 1 1 w rfl (by decide))
 have hB := Blk.new w #[Value.string (E p), Value.string (E q), Value.string (E g), Value.string (E h)] 26
 have HC := Lib.hid (fun w => pcheckV_c p q 0 w hp hq he)
 have HG := Lib.hid (fun w => pHasV_c p q g false w hp hq he hgb h1)
 clear he h1
 clear hp hq hgb hhb
 go_enter Tryz.func89, Tryz.ntmps89
 go_wp2_with fail
 refine (HF.out _).mono ?_
 rintro e w1 ⟨rfl, hb1⟩
 replace hB := hB.after hb1
 obtain ⟨hBc0, hBf0, hBc1, hBf1, hBc2, hBf2, hBc3, hBf3⟩ := hB.x4
 go_wp2_with fail
 refine (HC.out _).mono ?_
 rintro e w2 ⟨rfl, hb2⟩
 clear hBc0 hBf0 hBc1 hBf1 hBc2 hBf2 hBc3 hBf3
 replace hB := hB.after hb2
 obtain ⟨hBc0, hBf0, hBc1, hBf1, hBc2, hBf2, hBc3, hBf3⟩ := hB.x4
 go_wp2_with fail
 refine (HO.out _).mono ?_
 rintro e w3 ⟨rfl, hb3⟩
 clear hBc0 hBf0 hBc1 hBf1 hBc2 hBf2 hBc3 hBf3
 replace hB := hB.after hb3
 obtain ⟨hBc0, hBf0, hBc1, hBf1, hBc2, hBf2, hBc3, hBf3⟩ := hB.x4
 go_wp2_with fail
 refine (HG.out _).mono ?_
 rintro e w4 ⟨rfl, hb4⟩
 clear hBc0 hBf0 hBc1 hBf1 hBc2 hBf2 hBc3 hBf3
 replace hB := hB.after hb4
 obtain ⟨hBc0, hBf0, hBc1, hBf1, hBc2, hBf2, hBc3, hBf3⟩ := hB.x4
 go_wp2
 go_ret
 exact ⟨rfl, bt (bt (bt (bt (b1 _ _) hb1) hb2) hb3) hb4⟩

set_option maxHeartbeats 1600000 in
theorem pedcheck_h (p q g h : Nat) (w : World) (hp : p < 256 ^ 8) (hq : q < 256 ^ 128) (hgb : g < 256 ^ 128) (hhb : h < 256 ^ 128) (he : grpE p q = 0) (h1 : hasB p q g = true) (h2 : hasB p q h = false) :
  Calls Tryz.prog 89 #[.agg #[.string (E p), .string (E q), .string (E g), .string (E h)]] w fun e w' => e = .returned (.int .i64 13) ∧ Below w.heap.size w w' := by
 have HF := Lib.hid (fun w => pformedV_c (E p) (E q) (E g) (E h) true w (sz1000 (lt128 hp)) (sz1000 hq) (sz1000 hgb) (sz1000 hhb) (vl4_E (lt128 hp) hq hgb hhb))
 have HO := Lib.hid (fun w => ofK_c 1 1 w rfl (by decide))
 have hB := Blk.new w #[Value.string (E p), Value.string (E q), Value.string (E g), Value.string (E h)] 26
 have HC := Lib.hid (fun w => pcheckV_c p q 0 w hp hq he)
 have HG := Lib.hid (fun w => pHasV_c p q g true w hp hq he hgb h1)
 have HH := Lib.hid (fun w => pHasV_c p q h false w hp hq he hhb h2)
 clear he h1 h2
 clear hp hq hgb hhb
 go_enter Tryz.func89, Tryz.ntmps89
 go_wp2_with fail
 refine (HF.out _).mono ?_
 rintro e w1 ⟨rfl, hb1⟩
 replace hB := hB.after hb1
 obtain ⟨hBc0, hBf0, hBc1, hBf1, hBc2, hBf2, hBc3, hBf3⟩ := hB.x4
 go_wp2_with fail
 refine (HC.out _).mono ?_
 rintro e w2 ⟨rfl, hb2⟩
 clear hBc0 hBf0 hBc1 hBf1 hBc2 hBf2 hBc3 hBf3
 replace hB := hB.after hb2
 obtain ⟨hBc0, hBf0, hBc1, hBf1, hBc2, hBf2, hBc3, hBf3⟩ := hB.x4
 go_wp2_with fail
 refine (HO.out _).mono ?_
 rintro e w3 ⟨rfl, hb3⟩
 clear hBc0 hBf0 hBc1 hBf1 hBc2 hBf2 hBc3 hBf3
 replace hB := hB.after hb3
 obtain ⟨hBc0, hBf0, hBc1, hBf1, hBc2, hBf2, hBc3, hBf3⟩ := hB.x4
 go_wp2_with fail
 refine (HG.out _).mono ?_
 rintro e w4 ⟨rfl, hb4⟩
 clear hBc0 hBf0 hBc1 hBf1 hBc2 hBf2 hBc3 hBf3
 replace hB := hB.after hb4
 obtain ⟨hBc0, hBf0, hBc1, hBf1, hBc2, hBf2, hBc3, hBf3⟩ := hB.x4
 go_wp2_with fail
 refine (HH.out _).mono ?_
 rintro e w5 ⟨rfl, hb5⟩
 clear hBc0 hBf0 hBc1 hBf1 hBc2 hBf2 hBc3 hBf3
 replace hB := hB.after hb5
 obtain ⟨hBc0, hBf0, hBc1, hBf1, hBc2, hBf2, hBc3, hBf3⟩ := hB.x4
 go_wp2
 go_ret
 exact ⟨rfl, bt (bt (bt (bt (bt (b1 _ _) hb1) hb2) hb3) hb4) hb5⟩

set_option maxHeartbeats 1600000 in
theorem pedcheck_g1 (p q g h : Nat) (w : World) (hp : p < 256 ^ 8) (hq : q < 256 ^ 128) (hgb : g < 256 ^ 128) (hhb : h < 256 ^ 128) (he : grpE p q = 0) (h1 : hasB p q g = true) (h2 : hasB p q h = true) (h3 : g = 1) :
  Calls Tryz.prog 89 #[.agg #[.string (E p), .string (E q), .string (E g), .string (E h)]] w fun e w' => e = .returned (.int .i64 13) ∧ Below w.heap.size w w' := by
 have HF := Lib.hid (fun w => pformedV_c (E p) (E q) (E g) (E h) true w (sz1000 (lt128 hp)) (sz1000 hq) (sz1000 hgb) (sz1000 hhb) (vl4_E (lt128 hp) hq hgb hhb))
 have HO := Lib.hid (fun w => ofK_c 1 1 w rfl (by decide))
 have hB := Blk.new w #[Value.string (E p), Value.string (E q), Value.string (E g), Value.string (E h)] 26
 have HC := Lib.hid (fun w => pcheckV_c p q 0 w hp hq he)
 have HG := Lib.hid (fun w => pHasV_c p q g true w hp hq he hgb h1)
 have HH := Lib.hid (fun w => pHasV_c p q h true w hp hq he hhb h2)
 have e1 := eqE h3
 clear he h1 h2 h3
 clear hp hq hgb hhb
 go_enter Tryz.func89, Tryz.ntmps89
 go_wp2_with fail
 refine (HF.out _).mono ?_
 rintro e w1 ⟨rfl, hb1⟩
 replace hB := hB.after hb1
 obtain ⟨hBc0, hBf0, hBc1, hBf1, hBc2, hBf2, hBc3, hBf3⟩ := hB.x4
 go_wp2_with fail
 refine (HC.out _).mono ?_
 rintro e w2 ⟨rfl, hb2⟩
 clear hBc0 hBf0 hBc1 hBf1 hBc2 hBf2 hBc3 hBf3
 replace hB := hB.after hb2
 obtain ⟨hBc0, hBf0, hBc1, hBf1, hBc2, hBf2, hBc3, hBf3⟩ := hB.x4
 go_wp2_with fail
 refine (HO.out _).mono ?_
 rintro e w3 ⟨rfl, hb3⟩
 clear hBc0 hBf0 hBc1 hBf1 hBc2 hBf2 hBc3 hBf3
 replace hB := hB.after hb3
 obtain ⟨hBc0, hBf0, hBc1, hBf1, hBc2, hBf2, hBc3, hBf3⟩ := hB.x4
 go_wp2_with fail
 refine (HG.out _).mono ?_
 rintro e w4 ⟨rfl, hb4⟩
 clear hBc0 hBf0 hBc1 hBf1 hBc2 hBf2 hBc3 hBf3
 replace hB := hB.after hb4
 obtain ⟨hBc0, hBf0, hBc1, hBf1, hBc2, hBf2, hBc3, hBf3⟩ := hB.x4
 go_wp2_with fail
 refine (HH.out _).mono ?_
 rintro e w5 ⟨rfl, hb5⟩
 clear hBc0 hBf0 hBc1 hBf1 hBc2 hBf2 hBc3 hBf3
 replace hB := hB.after hb5
 obtain ⟨hBc0, hBf0, hBc1, hBf1, hBc2, hBf2, hBc3, hBf3⟩ := hB.x4
 go_wp2
 go_ret
 exact ⟨rfl, bt (bt (bt (bt (bt (b1 _ _) hb1) hb2) hb3) hb4) hb5⟩

set_option maxHeartbeats 1600000 in
theorem pedcheck_h1 (p q g h : Nat) (w : World) (hp : p < 256 ^ 8) (hq : q < 256 ^ 128) (hgb : g < 256 ^ 128) (hhb : h < 256 ^ 128) (he : grpE p q = 0) (h1 : hasB p q g = true) (h2 : hasB p q h = true) (h3 : g ≠ 1) (h4 : h = 1) :
  Calls Tryz.prog 89 #[.agg #[.string (E p), .string (E q), .string (E g), .string (E h)]] w fun e w' => e = .returned (.int .i64 13) ∧ Below w.heap.size w w' := by
 have HF := Lib.hid (fun w => pformedV_c (E p) (E q) (E g) (E h) true w (sz1000 (lt128 hp)) (sz1000 hq) (sz1000 hgb) (sz1000 hhb) (vl4_E (lt128 hp) hq hgb hhb))
 have HO := Lib.hid (fun w => ofK_c 1 1 w rfl (by decide))
 have hB := Blk.new w #[Value.string (E p), Value.string (E q), Value.string (E g), Value.string (E h)] 26
 have HC := Lib.hid (fun w => pcheckV_c p q 0 w hp hq he)
 have HG := Lib.hid (fun w => pHasV_c p q g true w hp hq he hgb h1)
 have HH := Lib.hid (fun w => pHasV_c p q h true w hp hq he hhb h2)
 have e1 := neE h3
 have e2 := eqE h4
 clear he h1 h2 h3 h4
 clear hp hq hgb hhb
 go_enter Tryz.func89, Tryz.ntmps89
 go_wp2_with fail
 refine (HF.out _).mono ?_
 rintro e w1 ⟨rfl, hb1⟩
 replace hB := hB.after hb1
 obtain ⟨hBc0, hBf0, hBc1, hBf1, hBc2, hBf2, hBc3, hBf3⟩ := hB.x4
 go_wp2_with fail
 refine (HC.out _).mono ?_
 rintro e w2 ⟨rfl, hb2⟩
 clear hBc0 hBf0 hBc1 hBf1 hBc2 hBf2 hBc3 hBf3
 replace hB := hB.after hb2
 obtain ⟨hBc0, hBf0, hBc1, hBf1, hBc2, hBf2, hBc3, hBf3⟩ := hB.x4
 go_wp2_with fail
 refine (HO.out _).mono ?_
 rintro e w3 ⟨rfl, hb3⟩
 clear hBc0 hBf0 hBc1 hBf1 hBc2 hBf2 hBc3 hBf3
 replace hB := hB.after hb3
 obtain ⟨hBc0, hBf0, hBc1, hBf1, hBc2, hBf2, hBc3, hBf3⟩ := hB.x4
 go_wp2_with fail
 refine (HG.out _).mono ?_
 rintro e w4 ⟨rfl, hb4⟩
 clear hBc0 hBf0 hBc1 hBf1 hBc2 hBf2 hBc3 hBf3
 replace hB := hB.after hb4
 obtain ⟨hBc0, hBf0, hBc1, hBf1, hBc2, hBf2, hBc3, hBf3⟩ := hB.x4
 go_wp2_with fail
 refine (HH.out _).mono ?_
 rintro e w5 ⟨rfl, hb5⟩
 clear hBc0 hBf0 hBc1 hBf1 hBc2 hBf2 hBc3 hBf3
 replace hB := hB.after hb5
 obtain ⟨hBc0, hBf0, hBc1, hBf1, hBc2, hBf2, hBc3, hBf3⟩ := hB.x4
 go_wp2
 go_ret
 exact ⟨rfl, bt (bt (bt (bt (bt (b1 _ _) hb1) hb2) hb3) hb4) hb5⟩

set_option maxHeartbeats 1600000 in
theorem pedcheck_gh (p q g h : Nat) (w : World) (hp : p < 256 ^ 8) (hq : q < 256 ^ 128) (hgb : g < 256 ^ 128) (hhb : h < 256 ^ 128) (he : grpE p q = 0) (h1 : hasB p q g = true) (h2 : hasB p q h = true) (h3 : g ≠ 1) (h4 : h ≠ 1) (h5 : g = h) :
  Calls Tryz.prog 89 #[.agg #[.string (E p), .string (E q), .string (E g), .string (E h)]] w fun e w' => e = .returned (.int .i64 13) ∧ Below w.heap.size w w' := by
 have HF := Lib.hid (fun w => pformedV_c (E p) (E q) (E g) (E h) true w (sz1000 (lt128 hp)) (sz1000 hq) (sz1000 hgb) (sz1000 hhb) (vl4_E (lt128 hp) hq hgb hhb))
 have HO := Lib.hid (fun w => ofK_c 1 1 w rfl (by decide))
 have hB := Blk.new w #[Value.string (E p), Value.string (E q), Value.string (E g), Value.string (E h)] 26
 have HC := Lib.hid (fun w => pcheckV_c p q 0 w hp hq he)
 have HG := Lib.hid (fun w => pHasV_c p q g true w hp hq he hgb h1)
 have HH := Lib.hid (fun w => pHasV_c p q h true w hp hq he hhb h2)
 have e1 := neE h3
 have e2 := neE h4
 have e3 := eqE h5
 clear he h1 h2 h3 h4 h5
 clear hp hq hgb hhb
 go_enter Tryz.func89, Tryz.ntmps89
 go_wp2_with fail
 refine (HF.out _).mono ?_
 rintro e w1 ⟨rfl, hb1⟩
 replace hB := hB.after hb1
 obtain ⟨hBc0, hBf0, hBc1, hBf1, hBc2, hBf2, hBc3, hBf3⟩ := hB.x4
 go_wp2_with fail
 refine (HC.out _).mono ?_
 rintro e w2 ⟨rfl, hb2⟩
 clear hBc0 hBf0 hBc1 hBf1 hBc2 hBf2 hBc3 hBf3
 replace hB := hB.after hb2
 obtain ⟨hBc0, hBf0, hBc1, hBf1, hBc2, hBf2, hBc3, hBf3⟩ := hB.x4
 go_wp2_with fail
 refine (HO.out _).mono ?_
 rintro e w3 ⟨rfl, hb3⟩
 clear hBc0 hBf0 hBc1 hBf1 hBc2 hBf2 hBc3 hBf3
 replace hB := hB.after hb3
 obtain ⟨hBc0, hBf0, hBc1, hBf1, hBc2, hBf2, hBc3, hBf3⟩ := hB.x4
 go_wp2_with fail
 refine (HG.out _).mono ?_
 rintro e w4 ⟨rfl, hb4⟩
 clear hBc0 hBf0 hBc1 hBf1 hBc2 hBf2 hBc3 hBf3
 replace hB := hB.after hb4
 obtain ⟨hBc0, hBf0, hBc1, hBf1, hBc2, hBf2, hBc3, hBf3⟩ := hB.x4
 go_wp2_with fail
 refine (HH.out _).mono ?_
 rintro e w5 ⟨rfl, hb5⟩
 clear hBc0 hBf0 hBc1 hBf1 hBc2 hBf2 hBc3 hBf3
 replace hB := hB.after hb5
 obtain ⟨hBc0, hBf0, hBc1, hBf1, hBc2, hBf2, hBc3, hBf3⟩ := hB.x4
 go_wp2
 go_ret
 exact ⟨rfl, bt (bt (bt (bt (bt (b1 _ _) hb1) hb2) hb3) hb4) hb5⟩

set_option maxHeartbeats 1600000 in
theorem pedcheck_ok (p q g h : Nat) (w : World) (hp : p < 256 ^ 8) (hq : q < 256 ^ 128) (hgb : g < 256 ^ 128) (hhb : h < 256 ^ 128) (he : grpE p q = 0) (h1 : hasB p q g = true) (h2 : hasB p q h = true) (h3 : g ≠ 1) (h4 : h ≠ 1) (h5 : g ≠ h) :
  Calls Tryz.prog 89 #[.agg #[.string (E p), .string (E q), .string (E g), .string (E h)]] w fun e w' => e = .returned (.int .i64 0) ∧ Below w.heap.size w w' := by
 have HF := Lib.hid (fun w => pformedV_c (E p) (E q) (E g) (E h) true w (sz1000 (lt128 hp)) (sz1000 hq) (sz1000 hgb) (sz1000 hhb) (vl4_E (lt128 hp) hq hgb hhb))
 have HO := Lib.hid (fun w => ofK_c 1 1 w rfl (by decide))
 have hB := Blk.new w #[Value.string (E p), Value.string (E q), Value.string (E g), Value.string (E h)] 26
 have HC := Lib.hid (fun w => pcheckV_c p q 0 w hp hq he)
 have HG := Lib.hid (fun w => pHasV_c p q g true w hp hq he hgb h1)
 have HH := Lib.hid (fun w => pHasV_c p q h true w hp hq he hhb h2)
 have e1 := neE h3
 have e2 := neE h4
 have e3 := neE h5
 clear he h1 h2 h3 h4 h5
 clear hp hq hgb hhb
 go_enter Tryz.func89, Tryz.ntmps89
 go_wp2_with fail
 refine (HF.out _).mono ?_
 rintro e w1 ⟨rfl, hb1⟩
 replace hB := hB.after hb1
 obtain ⟨hBc0, hBf0, hBc1, hBf1, hBc2, hBf2, hBc3, hBf3⟩ := hB.x4
 go_wp2_with fail
 refine (HC.out _).mono ?_
 rintro e w2 ⟨rfl, hb2⟩
 clear hBc0 hBf0 hBc1 hBf1 hBc2 hBf2 hBc3 hBf3
 replace hB := hB.after hb2
 obtain ⟨hBc0, hBf0, hBc1, hBf1, hBc2, hBf2, hBc3, hBf3⟩ := hB.x4
 go_wp2_with fail
 refine (HO.out _).mono ?_
 rintro e w3 ⟨rfl, hb3⟩
 clear hBc0 hBf0 hBc1 hBf1 hBc2 hBf2 hBc3 hBf3
 replace hB := hB.after hb3
 obtain ⟨hBc0, hBf0, hBc1, hBf1, hBc2, hBf2, hBc3, hBf3⟩ := hB.x4
 go_wp2_with fail
 refine (HG.out _).mono ?_
 rintro e w4 ⟨rfl, hb4⟩
 clear hBc0 hBf0 hBc1 hBf1 hBc2 hBf2 hBc3 hBf3
 replace hB := hB.after hb4
 obtain ⟨hBc0, hBf0, hBc1, hBf1, hBc2, hBf2, hBc3, hBf3⟩ := hB.x4
 go_wp2_with fail
 refine (HH.out _).mono ?_
 rintro e w5 ⟨rfl, hb5⟩
 clear hBc0 hBf0 hBc1 hBf1 hBc2 hBf2 hBc3 hBf3
 replace hB := hB.after hb5
 obtain ⟨hBc0, hBf0, hBc1, hBf1, hBc2, hBf2, hBc3, hBf3⟩ := hB.x4
 go_wp2
 go_ret
 exact ⟨rfl, bt (bt (bt (bt (bt (b1 _ _) hb1) hb2) hb3) hb4) hb5⟩

theorem pedcheck_c (p q g h : Nat) (w : World) (hp : p < 256 ^ 8) (hq : q < 256 ^ 128) (hgb : g < 256 ^ 128) (hhb : h < 256 ^ 128) :
  Calls Tryz.prog 89 #[.agg #[.string (E p), .string (E q), .string (E g), .string (E h)]] w fun e w' => e = .returned (.int .i64 (pedE p q g h)) ∧ Below w.heap.size w w' := by
 rcases grpE_cases p q with he | he
 ·by_cases h1 : hasB p q g = true
  ·by_cases h2 : hasB p q h = true
   ·by_cases h3 : g = 1
    ·rw [show pedE p q g h = 13 by rw [pedE, if_pos he, if_neg (fun k => k.2.2.1 h3)]]
     exact pedcheck_g1 p q g h w hp hq hgb hhb he h1 h2 h3
    ·by_cases h4 : h = 1
     ·rw [show pedE p q g h = 13 by rw [pedE, if_pos he, if_neg (fun k => k.2.2.2.1 h4)]]
      exact pedcheck_h1 p q g h w hp hq hgb hhb he h1 h2 h3 h4
     ·by_cases h5 : g = h
      ·rw [show pedE p q g h = 13 by rw [pedE, if_pos he, if_neg (fun k => k.2.2.2.2 h5)]]
       exact pedcheck_gh p q g h w hp hq hgb hhb he h1 h2 h3 h4 h5
      ·rw [show pedE p q g h = 0 by rw [pedE, if_pos he, if_pos ⟨h1, h2, h3, h4, h5⟩]]
       exact pedcheck_ok p q g h w hp hq hgb hhb he h1 h2 h3 h4 h5
   ·rw [show pedE p q g h = 13 by rw [pedE, if_pos he, if_neg (fun k => h2 k.2.1)]]
    exact pedcheck_h p q g h w hp hq hgb hhb he h1 (by simpa using h2)
  ·rw [show pedE p q g h = 13 by rw [pedE, if_pos he, if_neg (fun k => h1 k.1)]]
   exact pedcheck_g p q g h w hp hq hgb hhb he (by simpa using h1)
 ·rw [show pedE p q g h = 13 by rw [pedE, if_neg (by omega)]]
  exact pedcheck_grp p q g h w hp hq hgb hhb he

end Go.Proofs.YtfgandecbkbleaaGreatDoor
end

section
set_option linter.unusedVariables false
set_option linter.unusedSimpArgs false
set_option maxRecDepth 100000
namespace Go.Proofs.YtfgandecbkbleaaGreatDoor
open Go.RowKit

/-- a slice of strings -/
def StrsAt (w : World) (ao : Option Addr) (C : List ByteArray) : Prop := C.length = 0 ∨ ∃ b, ao = some ⟨b, 0, none⟩ ∧ b < w.heap.size ∧ ∀ j (h : j < C.length), w.cell? ⟨b, j, none⟩ = some (.string C[j])

theorem StrsAt.after {w w' : World} {ao : Option Addr} {C : List ByteArray} (h : StrsAt w ao C) (hb : Below w.heap.size w w') : StrsAt w' ao C := by
 rcases h with h | ⟨b, h1, h2, h3⟩
 ·exact .inl h
 ·exact .inr ⟨b, h1, Nat.lt_of_lt_of_le h2 hb.size, fun j hj => (hb.cell (p := ⟨b, j, none⟩) h2).trans (h3 j hj)⟩

theorem StrsAt.at_ {w : World} {ao : Option Addr} {C : List ByteArray} (h : StrsAt w ao C) {k : Nat} (hk : k < C.length) : ∃ b, ao = some ⟨b, 0, none⟩ ∧ w.cell? ⟨b, k, none⟩ = some (.string C[k]) := by
 rcases h with h | ⟨b, h1, h2, h3⟩
 ·omega
 ·exact ⟨b, h1, h3 k hk⟩

theorem all_get {C : List ByteArray} (h : C.all vldB = true) {k : Nat} (hk : k < C.length) : vldB C[k] = true := List.all_eq_true.1 h _ (List.getElem_mem hk)

theorem all_not {C : List ByteArray} (h : C.all vldB = false) (h2 : ∀ j (hj : j < C.length), vldB C[j] = true) : False := by
 rw [List.all_eq_false] at h
 obtain ⟨x, hx, hn⟩ := h
 obtain ⟨j, hj, rfl⟩ := List.mem_iff_getElem.1 hx
 exact hn (h2 j hj)

/-- the error of a key and commitments that are numbers -/
def readyN (p q g h : Nat) (L : List Nat) : Nat := if pedE p q g h = 0 then (if q = 0 then 1 else if L.all (hasB p q) then 0 else 13) else 13

theorem pedE_cases (p q g h : Nat) : pedE p q g h = 0 ∨ pedE p q g h = 13 := by
 unfold pedE
 split
 ·split
  ·exact .inl rfl
  ·exact .inr rfl
 ·exact .inr rfl

theorem pedE_grp {p q g h : Nat} (hh : pedE p q g h = 0) : grpE p q = 0 := by
 unfold pedE at hh
 by_cases he : grpE p q = 0
 ·exact he
 ·rw [if_neg he] at hh; omega

theorem pedcheckV_c (p q g h k : Nat) (w : World) (hp : p < 256 ^ 8) (hq : q < 256 ^ 128) (hgb : g < 256 ^ 128) (hhb : h < 256 ^ 128) (hk : pedE p q g h = k) :
  Calls Tryz.prog 89 #[.agg #[.string (E p), .string (E q), .string (E g), .string (E h)]] w fun e w' => e = .returned (.int .i64 k) ∧ Below w.heap.size w w' := by
 rw [← hk]; exact pedcheck_c p q g h w hp hq hgb hhb

/-- a slice of numbers -/
theorem StrsAt.nat_at {w : World} {ao : Option Addr} {L : List Nat} (h : StrsAt w ao (L.map E)) {k : Nat} (hk : k < L.length) : ∃ b, ao = some ⟨b, 0, none⟩ ∧ w.cell? ⟨b, k, none⟩ = some (.string (E L[k])) := by
 obtain ⟨b, h1, h2⟩ := h.at_ (k := k) (by simpa using hk)
 exact ⟨b, h1, by rw [h2, List.getElem_map]⟩

end Go.Proofs.YtfgandecbkbleaaGreatDoor
end
