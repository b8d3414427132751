import Derived.Test.YtecobjddpinonaaGreatPow4
set_option linter.unusedVariables false
set_option linter.unusedSimpArgs false
set_option maxRecDepth 100000
namespace Go.Proofs.YtecobjddpinonaaGreat
open Go.RowKit

/-- the error of a key whose strings are numbers -/
def pedE (p q g h : Nat) : Nat := if grpE p q = 0 then (if hasB p q g = true ∧ hasB p q h = true ∧ g ≠ 1 ∧ h ≠ 1 ∧ g ≠ h then 0 else 13) else 13

theorem grpE_cases (p q : Nat) : grpE p q = 0 ∨ grpE p q = 13 := by
  unfold grpE
  split
  · split
    · exact .inl rfl
    · exact .inr rfl
  · split
    · exact .inl rfl
    · exact .inr rfl

theorem pformedV_c (a b c d : ByteArray) (r : Bool) (w : World) (ha : a.size ≤ 1000) (hb : b.size ≤ 1000) (hc : c.size ≤ 1000) (hd : d.size ≤ 1000) (hr : vl4 a b c d = r) :
    Calls Tryz.prog 93 #[.agg #[.string a, .string b, .string c, .string d]] w fun e w' => e = .returned (.bool r) ∧ Below w.heap.size w w' := by
  rw [← hr]; exact pformed_c a b c d w ha hb hc hd

theorem vl4_E {p q g h : Nat} (hp : p < 256 ^ 128) (hq : q < 256 ^ 128) (hg : g < 256 ^ 128) (hh : h < 256 ^ 128) : vl4 (E p) (E q) (E g) (E h) = true := by
  unfold vl4; rw [vldB_E p hp, vldB_E q hq, vldB_E g hg, vldB_E h hh]; rfl

theorem sz1000 {n : Nat} (h : n < 256 ^ 128) : (E n).size ≤ 1000 := by have := sz n h; omega

set_option maxHeartbeats 800000 in
theorem pedcheck_bad (a b c d : ByteArray) (w : World) (ha : a.size ≤ 1000) (hb : b.size ≤ 1000) (hc : c.size ≤ 1000) (hd : d.size ≤ 1000) (hr : vl4 a b c d = false) :
    Calls Tryz.prog 60 #[.agg #[.string a, .string b, .string c, .string d]] w fun e w' => e = .returned (.int .i64 3) ∧ Below w.heap.size w w' := by
  have HF := Lib.hid (fun w => pformedV_c a b c d false w ha hb hc hd hr)
  clear ha hb hc hd hr
  go_enter Tryz.func60, Tryz.ntmps60
  go_wp2_with fail
  refine (HF.out _).mono ?_
  rintro e w1 ⟨rfl, hb1⟩
  go_wp2
  go_ret
  exact ⟨rfl, bt (b1 _ _) hb1⟩

set_option maxHeartbeats 1600000 in
theorem pedcheck_grp (p q g h : Nat) (w : World) (hp : p < 256 ^ 8) (hq : q < 256 ^ 128) (hgb : g < 256 ^ 128) (hhb : h < 256 ^ 128) (he : grpE p q = 13) :
    Calls Tryz.prog 60 #[.agg #[.string (E p), .string (E q), .string (E g), .string (E h)]] w fun e w' => e = .returned (.int .i64 13) ∧ Below w.heap.size w w' := by
  have HF := Lib.hid (fun w => pformedV_c (E p) (E q) (E g) (E h) true w (sz1000 (lt128 hp)) (sz1000 hq) (sz1000 hgb) (sz1000 hhb) (vl4_E (lt128 hp) hq hgb hhb))
  have HO := Lib.hid (fun w => ofK_c 1 1 w rfl (by decide))
  have hB := Blk.new w #[Value.string (E p), Value.string (E q), Value.string (E g), Value.string (E h)] 26
  have HC := Lib.hid (fun w => pcheckV_c p q 13 w hp hq he)
  clear he
  clear hp hq hgb hhb
  go_enter Tryz.func60, Tryz.ntmps60
  go_wp2_with fail
  refine (HF.out _).mono ?_
  rintro e w1 ⟨rfl, hb1⟩
  replace hB := hB.after hb1
  have hBc0 := hB.cell 0
  have hBf0 := hB.free 0
  have hBc1 := hB.cell 1
  have hBf1 := hB.free 1
  have hBc2 := hB.cell 2
  have hBf2 := hB.free 2
  have hBc3 := hB.cell 3
  have hBf3 := hB.free 3
  go_wp2_with fail
  refine (HC.out _).mono ?_
  rintro e w2 ⟨rfl, hb2⟩
  clear hBc0 hBf0 hBc1 hBf1 hBc2 hBf2 hBc3 hBf3
  replace hB := hB.after hb2
  have hBc0 := hB.cell 0
  have hBf0 := hB.free 0
  have hBc1 := hB.cell 1
  have hBf1 := hB.free 1
  have hBc2 := hB.cell 2
  have hBf2 := hB.free 2
  have hBc3 := hB.cell 3
  have hBf3 := hB.free 3
  go_wp2
  go_ret
  exact ⟨rfl, bt (bt (b1 _ _) hb1) hb2⟩

set_option maxHeartbeats 1600000 in
theorem pedcheck_g (p q g h : Nat) (w : World) (hp : p < 256 ^ 8) (hq : q < 256 ^ 128) (hgb : g < 256 ^ 128) (hhb : h < 256 ^ 128) (he : grpE p q = 0) (h1 : hasB p q g = false) :
    Calls Tryz.prog 60 #[.agg #[.string (E p), .string (E q), .string (E g), .string (E h)]] w fun e w' => e = .returned (.int .i64 13) ∧ Below w.heap.size w w' := by
  have HF := Lib.hid (fun w => pformedV_c (E p) (E q) (E g) (E h) true w (sz1000 (lt128 hp)) (sz1000 hq) (sz1000 hgb) (sz1000 hhb) (vl4_E (lt128 hp) hq hgb hhb))
  have HO := Lib.hid (fun w => ofK_c 1 1 w rfl (by decide))
  have hB := Blk.new w #[Value.string (E p), Value.string (E q), Value.string (E g), Value.string (E h)] 26
  have HC := Lib.hid (fun w => pcheckV_c p q 0 w hp hq he)
  have HG := Lib.hid (fun w => pHasV_c p q g false w hp hq he hgb h1)
  clear he h1
  clear hp hq hgb hhb
  go_enter Tryz.func60, Tryz.ntmps60
  go_wp2_with fail
  refine (HF.out _).mono ?_
  rintro e w1 ⟨rfl, hb1⟩
  replace hB := hB.after hb1
  have hBc0 := hB.cell 0
  have hBf0 := hB.free 0
  have hBc1 := hB.cell 1
  have hBf1 := hB.free 1
  have hBc2 := hB.cell 2
  have hBf2 := hB.free 2
  have hBc3 := hB.cell 3
  have hBf3 := hB.free 3
  go_wp2_with fail
  refine (HC.out _).mono ?_
  rintro e w2 ⟨rfl, hb2⟩
  clear hBc0 hBf0 hBc1 hBf1 hBc2 hBf2 hBc3 hBf3
  replace hB := hB.after hb2
  have hBc0 := hB.cell 0
  have hBf0 := hB.free 0
  have hBc1 := hB.cell 1
  have hBf1 := hB.free 1
  have hBc2 := hB.cell 2
  have hBf2 := hB.free 2
  have hBc3 := hB.cell 3
  have hBf3 := hB.free 3
  go_wp2_with fail
  refine (HO.out _).mono ?_
  rintro e w3 ⟨rfl, hb3⟩
  clear hBc0 hBf0 hBc1 hBf1 hBc2 hBf2 hBc3 hBf3
  replace hB := hB.after hb3
  have hBc0 := hB.cell 0
  have hBf0 := hB.free 0
  have hBc1 := hB.cell 1
  have hBf1 := hB.free 1
  have hBc2 := hB.cell 2
  have hBf2 := hB.free 2
  have hBc3 := hB.cell 3
  have hBf3 := hB.free 3
  go_wp2_with fail
  refine (HG.out _).mono ?_
  rintro e w4 ⟨rfl, hb4⟩
  clear hBc0 hBf0 hBc1 hBf1 hBc2 hBf2 hBc3 hBf3
  replace hB := hB.after hb4
  have hBc0 := hB.cell 0
  have hBf0 := hB.free 0
  have hBc1 := hB.cell 1
  have hBf1 := hB.free 1
  have hBc2 := hB.cell 2
  have hBf2 := hB.free 2
  have hBc3 := hB.cell 3
  have hBf3 := hB.free 3
  go_wp2
  go_ret
  exact ⟨rfl, bt (bt (bt (bt (b1 _ _) hb1) hb2) hb3) hb4⟩

set_option maxHeartbeats 1600000 in
theorem pedcheck_h (p q g h : Nat) (w : World) (hp : p < 256 ^ 8) (hq : q < 256 ^ 128) (hgb : g < 256 ^ 128) (hhb : h < 256 ^ 128) (he : grpE p q = 0) (h1 : hasB p q g = true) (h2 : hasB p q h = false) :
    Calls Tryz.prog 60 #[.agg #[.string (E p), .string (E q), .string (E g), .string (E h)]] w fun e w' => e = .returned (.int .i64 13) ∧ Below w.heap.size w w' := by
  have HF := Lib.hid (fun w => pformedV_c (E p) (E q) (E g) (E h) true w (sz1000 (lt128 hp)) (sz1000 hq) (sz1000 hgb) (sz1000 hhb) (vl4_E (lt128 hp) hq hgb hhb))
  have HO := Lib.hid (fun w => ofK_c 1 1 w rfl (by decide))
  have hB := Blk.new w #[Value.string (E p), Value.string (E q), Value.string (E g), Value.string (E h)] 26
  have HC := Lib.hid (fun w => pcheckV_c p q 0 w hp hq he)
  have HG := Lib.hid (fun w => pHasV_c p q g true w hp hq he hgb h1)
  have HH := Lib.hid (fun w => pHasV_c p q h false w hp hq he hhb h2)
  clear he h1 h2
  clear hp hq hgb hhb
  go_enter Tryz.func60, Tryz.ntmps60
  go_wp2_with fail
  refine (HF.out _).mono ?_
  rintro e w1 ⟨rfl, hb1⟩
  replace hB := hB.after hb1
  have hBc0 := hB.cell 0
  have hBf0 := hB.free 0
  have hBc1 := hB.cell 1
  have hBf1 := hB.free 1
  have hBc2 := hB.cell 2
  have hBf2 := hB.free 2
  have hBc3 := hB.cell 3
  have hBf3 := hB.free 3
  go_wp2_with fail
  refine (HC.out _).mono ?_
  rintro e w2 ⟨rfl, hb2⟩
  clear hBc0 hBf0 hBc1 hBf1 hBc2 hBf2 hBc3 hBf3
  replace hB := hB.after hb2
  have hBc0 := hB.cell 0
  have hBf0 := hB.free 0
  have hBc1 := hB.cell 1
  have hBf1 := hB.free 1
  have hBc2 := hB.cell 2
  have hBf2 := hB.free 2
  have hBc3 := hB.cell 3
  have hBf3 := hB.free 3
  go_wp2_with fail
  refine (HO.out _).mono ?_
  rintro e w3 ⟨rfl, hb3⟩
  clear hBc0 hBf0 hBc1 hBf1 hBc2 hBf2 hBc3 hBf3
  replace hB := hB.after hb3
  have hBc0 := hB.cell 0
  have hBf0 := hB.free 0
  have hBc1 := hB.cell 1
  have hBf1 := hB.free 1
  have hBc2 := hB.cell 2
  have hBf2 := hB.free 2
  have hBc3 := hB.cell 3
  have hBf3 := hB.free 3
  go_wp2_with fail
  refine (HG.out _).mono ?_
  rintro e w4 ⟨rfl, hb4⟩
  clear hBc0 hBf0 hBc1 hBf1 hBc2 hBf2 hBc3 hBf3
  replace hB := hB.after hb4
  have hBc0 := hB.cell 0
  have hBf0 := hB.free 0
  have hBc1 := hB.cell 1
  have hBf1 := hB.free 1
  have hBc2 := hB.cell 2
  have hBf2 := hB.free 2
  have hBc3 := hB.cell 3
  have hBf3 := hB.free 3
  go_wp2_with fail
  refine (HH.out _).mono ?_
  rintro e w5 ⟨rfl, hb5⟩
  clear hBc0 hBf0 hBc1 hBf1 hBc2 hBf2 hBc3 hBf3
  replace hB := hB.after hb5
  have hBc0 := hB.cell 0
  have hBf0 := hB.free 0
  have hBc1 := hB.cell 1
  have hBf1 := hB.free 1
  have hBc2 := hB.cell 2
  have hBf2 := hB.free 2
  have hBc3 := hB.cell 3
  have hBf3 := hB.free 3
  go_wp2
  go_ret
  exact ⟨rfl, bt (bt (bt (bt (bt (b1 _ _) hb1) hb2) hb3) hb4) hb5⟩

set_option maxHeartbeats 1600000 in
theorem pedcheck_g1 (p q g h : Nat) (w : World) (hp : p < 256 ^ 8) (hq : q < 256 ^ 128) (hgb : g < 256 ^ 128) (hhb : h < 256 ^ 128) (he : grpE p q = 0) (h1 : hasB p q g = true) (h2 : hasB p q h = true) (h3 : g = 1) :
    Calls Tryz.prog 60 #[.agg #[.string (E p), .string (E q), .string (E g), .string (E h)]] w fun e w' => e = .returned (.int .i64 13) ∧ Below w.heap.size w w' := by
  have HF := Lib.hid (fun w => pformedV_c (E p) (E q) (E g) (E h) true w (sz1000 (lt128 hp)) (sz1000 hq) (sz1000 hgb) (sz1000 hhb) (vl4_E (lt128 hp) hq hgb hhb))
  have HO := Lib.hid (fun w => ofK_c 1 1 w rfl (by decide))
  have hB := Blk.new w #[Value.string (E p), Value.string (E q), Value.string (E g), Value.string (E h)] 26
  have HC := Lib.hid (fun w => pcheckV_c p q 0 w hp hq he)
  have HG := Lib.hid (fun w => pHasV_c p q g true w hp hq he hgb h1)
  have HH := Lib.hid (fun w => pHasV_c p q h true w hp hq he hhb h2)
  have e1 := eqE h3
  clear he h1 h2 h3
  clear hp hq hgb hhb
  go_enter Tryz.func60, Tryz.ntmps60
  go_wp2_with fail
  refine (HF.out _).mono ?_
  rintro e w1 ⟨rfl, hb1⟩
  replace hB := hB.after hb1
  have hBc0 := hB.cell 0
  have hBf0 := hB.free 0
  have hBc1 := hB.cell 1
  have hBf1 := hB.free 1
  have hBc2 := hB.cell 2
  have hBf2 := hB.free 2
  have hBc3 := hB.cell 3
  have hBf3 := hB.free 3
  go_wp2_with fail
  refine (HC.out _).mono ?_
  rintro e w2 ⟨rfl, hb2⟩
  clear hBc0 hBf0 hBc1 hBf1 hBc2 hBf2 hBc3 hBf3
  replace hB := hB.after hb2
  have hBc0 := hB.cell 0
  have hBf0 := hB.free 0
  have hBc1 := hB.cell 1
  have hBf1 := hB.free 1
  have hBc2 := hB.cell 2
  have hBf2 := hB.free 2
  have hBc3 := hB.cell 3
  have hBf3 := hB.free 3
  go_wp2_with fail
  refine (HO.out _).mono ?_
  rintro e w3 ⟨rfl, hb3⟩
  clear hBc0 hBf0 hBc1 hBf1 hBc2 hBf2 hBc3 hBf3
  replace hB := hB.after hb3
  have hBc0 := hB.cell 0
  have hBf0 := hB.free 0
  have hBc1 := hB.cell 1
  have hBf1 := hB.free 1
  have hBc2 := hB.cell 2
  have hBf2 := hB.free 2
  have hBc3 := hB.cell 3
  have hBf3 := hB.free 3
  go_wp2_with fail
  refine (HG.out _).mono ?_
  rintro e w4 ⟨rfl, hb4⟩
  clear hBc0 hBf0 hBc1 hBf1 hBc2 hBf2 hBc3 hBf3
  replace hB := hB.after hb4
  have hBc0 := hB.cell 0
  have hBf0 := hB.free 0
  have hBc1 := hB.cell 1
  have hBf1 := hB.free 1
  have hBc2 := hB.cell 2
  have hBf2 := hB.free 2
  have hBc3 := hB.cell 3
  have hBf3 := hB.free 3
  go_wp2_with fail
  refine (HH.out _).mono ?_
  rintro e w5 ⟨rfl, hb5⟩
  clear hBc0 hBf0 hBc1 hBf1 hBc2 hBf2 hBc3 hBf3
  replace hB := hB.after hb5
  have hBc0 := hB.cell 0
  have hBf0 := hB.free 0
  have hBc1 := hB.cell 1
  have hBf1 := hB.free 1
  have hBc2 := hB.cell 2
  have hBf2 := hB.free 2
  have hBc3 := hB.cell 3
  have hBf3 := hB.free 3
  go_wp2
  go_ret
  exact ⟨rfl, bt (bt (bt (bt (bt (b1 _ _) hb1) hb2) hb3) hb4) hb5⟩

set_option maxHeartbeats 1600000 in
theorem pedcheck_h1 (p q g h : Nat) (w : World) (hp : p < 256 ^ 8) (hq : q < 256 ^ 128) (hgb : g < 256 ^ 128) (hhb : h < 256 ^ 128) (he : grpE p q = 0) (h1 : hasB p q g = true) (h2 : hasB p q h = true) (h3 : g ≠ 1) (h4 : h = 1) :
    Calls Tryz.prog 60 #[.agg #[.string (E p), .string (E q), .string (E g), .string (E h)]] w fun e w' => e = .returned (.int .i64 13) ∧ Below w.heap.size w w' := by
  have HF := Lib.hid (fun w => pformedV_c (E p) (E q) (E g) (E h) true w (sz1000 (lt128 hp)) (sz1000 hq) (sz1000 hgb) (sz1000 hhb) (vl4_E (lt128 hp) hq hgb hhb))
  have HO := Lib.hid (fun w => ofK_c 1 1 w rfl (by decide))
  have hB := Blk.new w #[Value.string (E p), Value.string (E q), Value.string (E g), Value.string (E h)] 26
  have HC := Lib.hid (fun w => pcheckV_c p q 0 w hp hq he)
  have HG := Lib.hid (fun w => pHasV_c p q g true w hp hq he hgb h1)
  have HH := Lib.hid (fun w => pHasV_c p q h true w hp hq he hhb h2)
  have e1 := neE h3
  have e2 := eqE h4
  clear he h1 h2 h3 h4
  clear hp hq hgb hhb
  go_enter Tryz.func60, Tryz.ntmps60
  go_wp2_with fail
  refine (HF.out _).mono ?_
  rintro e w1 ⟨rfl, hb1⟩
  replace hB := hB.after hb1
  have hBc0 := hB.cell 0
  have hBf0 := hB.free 0
  have hBc1 := hB.cell 1
  have hBf1 := hB.free 1
  have hBc2 := hB.cell 2
  have hBf2 := hB.free 2
  have hBc3 := hB.cell 3
  have hBf3 := hB.free 3
  go_wp2_with fail
  refine (HC.out _).mono ?_
  rintro e w2 ⟨rfl, hb2⟩
  clear hBc0 hBf0 hBc1 hBf1 hBc2 hBf2 hBc3 hBf3
  replace hB := hB.after hb2
  have hBc0 := hB.cell 0
  have hBf0 := hB.free 0
  have hBc1 := hB.cell 1
  have hBf1 := hB.free 1
  have hBc2 := hB.cell 2
  have hBf2 := hB.free 2
  have hBc3 := hB.cell 3
  have hBf3 := hB.free 3
  go_wp2_with fail
  refine (HO.out _).mono ?_
  rintro e w3 ⟨rfl, hb3⟩
  clear hBc0 hBf0 hBc1 hBf1 hBc2 hBf2 hBc3 hBf3
  replace hB := hB.after hb3
  have hBc0 := hB.cell 0
  have hBf0 := hB.free 0
  have hBc1 := hB.cell 1
  have hBf1 := hB.free 1
  have hBc2 := hB.cell 2
  have hBf2 := hB.free 2
  have hBc3 := hB.cell 3
  have hBf3 := hB.free 3
  go_wp2_with fail
  refine (HG.out _).mono ?_
  rintro e w4 ⟨rfl, hb4⟩
  clear hBc0 hBf0 hBc1 hBf1 hBc2 hBf2 hBc3 hBf3
  replace hB := hB.after hb4
  have hBc0 := hB.cell 0
  have hBf0 := hB.free 0
  have hBc1 := hB.cell 1
  have hBf1 := hB.free 1
  have hBc2 := hB.cell 2
  have hBf2 := hB.free 2
  have hBc3 := hB.cell 3
  have hBf3 := hB.free 3
  go_wp2_with fail
  refine (HH.out _).mono ?_
  rintro e w5 ⟨rfl, hb5⟩
  clear hBc0 hBf0 hBc1 hBf1 hBc2 hBf2 hBc3 hBf3
  replace hB := hB.after hb5
  have hBc0 := hB.cell 0
  have hBf0 := hB.free 0
  have hBc1 := hB.cell 1
  have hBf1 := hB.free 1
  have hBc2 := hB.cell 2
  have hBf2 := hB.free 2
  have hBc3 := hB.cell 3
  have hBf3 := hB.free 3
  go_wp2
  go_ret
  exact ⟨rfl, bt (bt (bt (bt (bt (b1 _ _) hb1) hb2) hb3) hb4) hb5⟩

set_option maxHeartbeats 1600000 in
theorem pedcheck_gh (p q g h : Nat) (w : World) (hp : p < 256 ^ 8) (hq : q < 256 ^ 128) (hgb : g < 256 ^ 128) (hhb : h < 256 ^ 128) (he : grpE p q = 0) (h1 : hasB p q g = true) (h2 : hasB p q h = true) (h3 : g ≠ 1) (h4 : h ≠ 1) (h5 : g = h) :
    Calls Tryz.prog 60 #[.agg #[.string (E p), .string (E q), .string (E g), .string (E h)]] w fun e w' => e = .returned (.int .i64 13) ∧ Below w.heap.size w w' := by
  have HF := Lib.hid (fun w => pformedV_c (E p) (E q) (E g) (E h) true w (sz1000 (lt128 hp)) (sz1000 hq) (sz1000 hgb) (sz1000 hhb) (vl4_E (lt128 hp) hq hgb hhb))
  have HO := Lib.hid (fun w => ofK_c 1 1 w rfl (by decide))
  have hB := Blk.new w #[Value.string (E p), Value.string (E q), Value.string (E g), Value.string (E h)] 26
  have HC := Lib.hid (fun w => pcheckV_c p q 0 w hp hq he)
  have HG := Lib.hid (fun w => pHasV_c p q g true w hp hq he hgb h1)
  have HH := Lib.hid (fun w => pHasV_c p q h true w hp hq he hhb h2)
  have e1 := neE h3
  have e2 := neE h4
  have e3 := eqE h5
  clear he h1 h2 h3 h4 h5
  clear hp hq hgb hhb
  go_enter Tryz.func60, Tryz.ntmps60
  go_wp2_with fail
  refine (HF.out _).mono ?_
  rintro e w1 ⟨rfl, hb1⟩
  replace hB := hB.after hb1
  have hBc0 := hB.cell 0
  have hBf0 := hB.free 0
  have hBc1 := hB.cell 1
  have hBf1 := hB.free 1
  have hBc2 := hB.cell 2
  have hBf2 := hB.free 2
  have hBc3 := hB.cell 3
  have hBf3 := hB.free 3
  go_wp2_with fail
  refine (HC.out _).mono ?_
  rintro e w2 ⟨rfl, hb2⟩
  clear hBc0 hBf0 hBc1 hBf1 hBc2 hBf2 hBc3 hBf3
  replace hB := hB.after hb2
  have hBc0 := hB.cell 0
  have hBf0 := hB.free 0
  have hBc1 := hB.cell 1
  have hBf1 := hB.free 1
  have hBc2 := hB.cell 2
  have hBf2 := hB.free 2
  have hBc3 := hB.cell 3
  have hBf3 := hB.free 3
  go_wp2_with fail
  refine (HO.out _).mono ?_
  rintro e w3 ⟨rfl, hb3⟩
  clear hBc0 hBf0 hBc1 hBf1 hBc2 hBf2 hBc3 hBf3
  replace hB := hB.after hb3
  have hBc0 := hB.cell 0
  have hBf0 := hB.free 0
  have hBc1 := hB.cell 1
  have hBf1 := hB.free 1
  have hBc2 := hB.cell 2
  have hBf2 := hB.free 2
  have hBc3 := hB.cell 3
  have hBf3 := hB.free 3
  go_wp2_with fail
  refine (HG.out _).mono ?_
  rintro e w4 ⟨rfl, hb4⟩
  clear hBc0 hBf0 hBc1 hBf1 hBc2 hBf2 hBc3 hBf3
  replace hB := hB.after hb4
  have hBc0 := hB.cell 0
  have hBf0 := hB.free 0
  have hBc1 := hB.cell 1
  have hBf1 := hB.free 1
  have hBc2 := hB.cell 2
  have hBf2 := hB.free 2
  have hBc3 := hB.cell 3
  have hBf3 := hB.free 3
  go_wp2_with fail
  refine (HH.out _).mono ?_
  rintro e w5 ⟨rfl, hb5⟩
  clear hBc0 hBf0 hBc1 hBf1 hBc2 hBf2 hBc3 hBf3
  replace hB := hB.after hb5
  have hBc0 := hB.cell 0
  have hBf0 := hB.free 0
  have hBc1 := hB.cell 1
  have hBf1 := hB.free 1
  have hBc2 := hB.cell 2
  have hBf2 := hB.free 2
  have hBc3 := hB.cell 3
  have hBf3 := hB.free 3
  go_wp2
  go_ret
  exact ⟨rfl, bt (bt (bt (bt (bt (b1 _ _) hb1) hb2) hb3) hb4) hb5⟩

set_option maxHeartbeats 1600000 in
theorem pedcheck_ok (p q g h : Nat) (w : World) (hp : p < 256 ^ 8) (hq : q < 256 ^ 128) (hgb : g < 256 ^ 128) (hhb : h < 256 ^ 128) (he : grpE p q = 0) (h1 : hasB p q g = true) (h2 : hasB p q h = true) (h3 : g ≠ 1) (h4 : h ≠ 1) (h5 : g ≠ h) :
    Calls Tryz.prog 60 #[.agg #[.string (E p), .string (E q), .string (E g), .string (E h)]] w fun e w' => e = .returned (.int .i64 0) ∧ Below w.heap.size w w' := by
  have HF := Lib.hid (fun w => pformedV_c (E p) (E q) (E g) (E h) true w (sz1000 (lt128 hp)) (sz1000 hq) (sz1000 hgb) (sz1000 hhb) (vl4_E (lt128 hp) hq hgb hhb))
  have HO := Lib.hid (fun w => ofK_c 1 1 w rfl (by decide))
  have hB := Blk.new w #[Value.string (E p), Value.string (E q), Value.string (E g), Value.string (E h)] 26
  have HC := Lib.hid (fun w => pcheckV_c p q 0 w hp hq he)
  have HG := Lib.hid (fun w => pHasV_c p q g true w hp hq he hgb h1)
  have HH := Lib.hid (fun w => pHasV_c p q h true w hp hq he hhb h2)
  have e1 := neE h3
  have e2 := neE h4
  have e3 := neE h5
  clear he h1 h2 h3 h4 h5
  clear hp hq hgb hhb
  go_enter Tryz.func60, Tryz.ntmps60
  go_wp2_with fail
  refine (HF.out _).mono ?_
  rintro e w1 ⟨rfl, hb1⟩
  replace hB := hB.after hb1
  have hBc0 := hB.cell 0
  have hBf0 := hB.free 0
  have hBc1 := hB.cell 1
  have hBf1 := hB.free 1
  have hBc2 := hB.cell 2
  have hBf2 := hB.free 2
  have hBc3 := hB.cell 3
  have hBf3 := hB.free 3
  go_wp2_with fail
  refine (HC.out _).mono ?_
  rintro e w2 ⟨rfl, hb2⟩
  clear hBc0 hBf0 hBc1 hBf1 hBc2 hBf2 hBc3 hBf3
  replace hB := hB.after hb2
  have hBc0 := hB.cell 0
  have hBf0 := hB.free 0
  have hBc1 := hB.cell 1
  have hBf1 := hB.free 1
  have hBc2 := hB.cell 2
  have hBf2 := hB.free 2
  have hBc3 := hB.cell 3
  have hBf3 := hB.free 3
  go_wp2_with fail
  refine (HO.out _).mono ?_
  rintro e w3 ⟨rfl, hb3⟩
  clear hBc0 hBf0 hBc1 hBf1 hBc2 hBf2 hBc3 hBf3
  replace hB := hB.after hb3
  have hBc0 := hB.cell 0
  have hBf0 := hB.free 0
  have hBc1 := hB.cell 1
  have hBf1 := hB.free 1
  have hBc2 := hB.cell 2
  have hBf2 := hB.free 2
  have hBc3 := hB.cell 3
  have hBf3 := hB.free 3
  go_wp2_with fail
  refine (HG.out _).mono ?_
  rintro e w4 ⟨rfl, hb4⟩
  clear hBc0 hBf0 hBc1 hBf1 hBc2 hBf2 hBc3 hBf3
  replace hB := hB.after hb4
  have hBc0 := hB.cell 0
  have hBf0 := hB.free 0
  have hBc1 := hB.cell 1
  have hBf1 := hB.free 1
  have hBc2 := hB.cell 2
  have hBf2 := hB.free 2
  have hBc3 := hB.cell 3
  have hBf3 := hB.free 3
  go_wp2_with fail
  refine (HH.out _).mono ?_
  rintro e w5 ⟨rfl, hb5⟩
  clear hBc0 hBf0 hBc1 hBf1 hBc2 hBf2 hBc3 hBf3
  replace hB := hB.after hb5
  have hBc0 := hB.cell 0
  have hBf0 := hB.free 0
  have hBc1 := hB.cell 1
  have hBf1 := hB.free 1
  have hBc2 := hB.cell 2
  have hBf2 := hB.free 2
  have hBc3 := hB.cell 3
  have hBf3 := hB.free 3
  go_wp2
  go_ret
  exact ⟨rfl, bt (bt (bt (bt (bt (b1 _ _) hb1) hb2) hb3) hb4) hb5⟩

theorem pedcheck_c (p q g h : Nat) (w : World) (hp : p < 256 ^ 8) (hq : q < 256 ^ 128) (hgb : g < 256 ^ 128) (hhb : h < 256 ^ 128) :
    Calls Tryz.prog 60 #[.agg #[.string (E p), .string (E q), .string (E g), .string (E h)]] w fun e w' => e = .returned (.int .i64 (pedE p q g h)) ∧ Below w.heap.size w w' := by
  rcases grpE_cases p q with he | he
  · by_cases h1 : hasB p q g = true
    · by_cases h2 : hasB p q h = true
      · by_cases h3 : g = 1
        · rw [show pedE p q g h = 13 by rw [pedE, if_pos he, if_neg (fun k => k.2.2.1 h3)]]
          exact pedcheck_g1 p q g h w hp hq hgb hhb he h1 h2 h3
        · by_cases h4 : h = 1
          · rw [show pedE p q g h = 13 by rw [pedE, if_pos he, if_neg (fun k => k.2.2.2.1 h4)]]
            exact pedcheck_h1 p q g h w hp hq hgb hhb he h1 h2 h3 h4
          · by_cases h5 : g = h
            · rw [show pedE p q g h = 13 by rw [pedE, if_pos he, if_neg (fun k => k.2.2.2.2 h5)]]
              exact pedcheck_gh p q g h w hp hq hgb hhb he h1 h2 h3 h4 h5
            · rw [show pedE p q g h = 0 by rw [pedE, if_pos he, if_pos ⟨h1, h2, h3, h4, h5⟩]]
              exact pedcheck_ok p q g h w hp hq hgb hhb he h1 h2 h3 h4 h5
      · rw [show pedE p q g h = 13 by rw [pedE, if_pos he, if_neg (fun k => h2 k.2.1)]]
        exact pedcheck_h p q g h w hp hq hgb hhb he h1 (by simpa using h2)
    · rw [show pedE p q g h = 13 by rw [pedE, if_pos he, if_neg (fun k => h1 k.1)]]
      exact pedcheck_g p q g h w hp hq hgb hhb he (by simpa using h1)
  · rw [show pedE p q g h = 13 by rw [pedE, if_neg (by omega)]]
    exact pedcheck_grp p q g h w hp hq hgb hhb he

end Go.Proofs.YtecobjddpinonaaGreat
