import Derived.Test.YtehoiholhkfcpaaGreatPow1
set_option linter.unusedVariables false
set_option linter.unusedSimpArgs false
set_option maxRecDepth 100000
namespace Go.Proofs.YtehoiholhkfcpaaGreat
open Go.RowKit

theorem grp0 {p : Nat} (h : grpE p 0 = 0) : bitB p 0 = true ∧ 8 < p := by
 have h2 : grpE p 0 = if p % 2 = 1 ∧ 8 < p then 0 else 13 := rfl
 rw [h2] at h
 by_cases h3 : p % 2 = 1 ∧ 8 < p
 ·exact ⟨by rw [odd_bit, decide_eq_true h3.1], h3.2⟩
 ·rw [if_neg h3] at h; omega

set_option maxHeartbeats 800000 in
theorem good_c (p : Nat) (w : World) (hp : p < 256 ^ 8) (hg : grpE p 0 = 0) :
  Calls Tryz.prog 198 #[.agg #[.string (E p), .string (E 0)]] w fun e w' => e = .returned (.bool true) ∧ Below w.heap.size w w' := by
 obtain ⟨hb, h8⟩ := grp0 hg
 have HP := Lib.hid (lt128 hp)
 have HB := Lib.hid hb
 have hz := zE (n := 0) rfl
 have HO := Lib.hid (fun w => ofK_c 8 8 w rfl (by decide))
 have H8 : Hid ((8 : Nat) < 256 ^ 128) := by unfold Hid; decide
 have hB := Blk.new w #[Value.string (E p), Value.string (E 0)] 90
 have hc : 0 < cmpN p 8 := by have := cmp_pos p 8 h8; omega
 clear hp hg hb h8
 have hBg0 := hB.gcell 0
 have hBg1 := hB.gcell 1
 go_enter Tryz.func198, Tryz.ntmps198
 go_wp2_with fail
 refine wp_region_gw (by kernel_rfl) (by kernel_rfl) ?_
 repeat (go_big_quiet_step (first | (go_at_call 21; exact gw_same (validE_c p _ HP.out)) | (go_at_call 152; exact gw_same (bitV_c p 0 0 true _ rfl HP.out (by omega) HB.out)) | (go_at_call 95; exact gw_of (HO.out _)) | (go_at_call 23; exact gw_same (cmp_c p 8 _ HP.out H8.out))))
 refine wpQuiet_nil ?_
 rintro w1 ⟨xw1, rfl⟩
 have hb1 := gw_below xw1
 generalize gw xw1 = w1 at hb1
 go_wp2
 go_ret
 exact ⟨rfl, bt (b1 _ _) hb1⟩

theorem one_c (w : World) : Calls Tryz.prog 200 #[] w fun e w' => e = .returned (.string (E 1)) ∧ Below w.heap.size w w' := by
 have HO := Lib.hid (fun w => ofK_c 1 1 w rfl (by decide))
 go_enter Tryz.func200, Tryz.ntmps200
 go_wp2_with fail
 refine (HO.out _).mono ?_
 rintro e w1 ⟨rfl, hb1⟩
 go_wp2
 go_ret
 exact ⟨rfl, hb1⟩

set_option maxHeartbeats 1600000 in
theorem uhas_c (p x : Nat) (w : World) (hp : p < 256 ^ 8) (hg : grpE p 0 = 0) (hx : x < 256 ^ 128) :
  Calls Tryz.prog 168 #[.agg #[.string (E p), .string (E 0)], .string (E x)] w fun e w' => e = .returned (.bool (hasB p 0 x)) ∧ Below w.heap.size w w' := by
 have HP := Lib.hid (lt128 hp)
 have HP8 := Lib.hid hp
 have HX := Lib.hid hx
 have HGG := Lib.hid hg
 have hB := Blk.new w #[Value.string (E p), Value.string (E 0)] 90
 by_cases hx0 : x = 0
 ·have HR : Hid (hasB p 0 x = false) := by rw [hx0]; exact hasB_zero p 0
  have hzx := zE hx0
  clear hp hx hx0 hg
  have hBc0 := hB.cell 0
  have hBf0 := hB.free 0
  have hBc1 := hB.cell 1
  have hBf1 := hB.free 1
  go_enter Tryz.func168, Tryz.ntmps168
  go_wp2_with fail
  refine (good_c p _ HP8.out HGG.out).mono ?_
  rintro e w1 ⟨rfl, hb1⟩
  clear hBc0 hBf0 hBc1 hBf1
  replace hB := hB.after hb1
  have hBc0 := hB.cell 0
  have hBf0 := hB.free 0
  have hBc1 := hB.cell 1
  have hBf1 := hB.free 1
  go_wp2_with fail
  refine (validE_c x _ HX.out).mono ?_
  rintro e w' ⟨rfl, rfl⟩
  go_wp2
  go_ret
  exact ⟨rb HR.out.symm, bt (b1 _ _) hb1⟩
 ·have hzx := nzE (Nat.pos_of_ne_zero hx0)
  rcases Nat.lt_or_ge x p with hlt | hge
  ·have HR := Lib.hid (hasB_0 (Nat.pos_of_ne_zero hx0) hlt)
   have HX8 := Lib.hid (Nat.lt_trans hlt hp)
   have hc := cmp_neg x p hlt
   have HD := Lib.hid (eqE_dec (Nat.gcd x p) 1)
   clear hp hx hx0 hlt hg
   have hBc0 := hB.cell 0
   have hBf0 := hB.free 0
   have hBc1 := hB.cell 1
   have hBf1 := hB.free 1
   go_enter Tryz.func168, Tryz.ntmps168
   go_wp2_with fail
   refine (good_c p _ HP8.out HGG.out).mono ?_
   rintro e w1 ⟨rfl, hb1⟩
   clear hBc0 hBf0 hBc1 hBf1
   replace hB := hB.after hb1
   have hBc0 := hB.cell 0
   have hBf0 := hB.free 0
   have hBc1 := hB.cell 1
   have hBf1 := hB.free 1
   go_wp2_with fail
   refine (validE_c x _ HX.out).mono ?_
   rintro e w' ⟨rfl, rfl⟩
   go_wp2_with fail
   refine (cmp_c x p _ HX.out HP.out).mono ?_
   rintro e w' ⟨rfl, rfl⟩
   go_wp2_with fail
   refine (gcd_c x p _ HX8.out HP8.out).mono ?_
   rintro e w2 ⟨rfl, hb2⟩
   go_wp2_with fail
   refine (one_c _).mono ?_
   rintro e w3 ⟨rfl, hb3⟩
   go_wp2
   go_ret
   exact ⟨rb (by rw [HR.out]; exact HD.out), bt (bt (bt (b1 _ _) hb1) hb2) hb3⟩
  ·have HR := Lib.hid (hasB_big (q := 0) hge)
   have hc := cmp_nneg x p hge
   clear hp hx hx0 hge hg
   have hBc0 := hB.cell 0
   have hBf0 := hB.free 0
   have hBc1 := hB.cell 1
   have hBf1 := hB.free 1
   go_enter Tryz.func168, Tryz.ntmps168
   go_wp2_with fail
   refine (good_c p _ HP8.out HGG.out).mono ?_
   rintro e w1 ⟨rfl, hb1⟩
   clear hBc0 hBf0 hBc1 hBf1
   replace hB := hB.after hb1
   have hBc0 := hB.cell 0
   have hBf0 := hB.free 0
   have hBc1 := hB.cell 1
   have hBf1 := hB.free 1
   go_wp2_with fail
   refine (validE_c x _ HX.out).mono ?_
   rintro e w' ⟨rfl, rfl⟩
   go_wp2_with fail
   refine (cmp_c x p _ HX.out HP.out).mono ?_
   rintro e w' ⟨rfl, rfl⟩
   go_wp2
   go_ret
   exact ⟨rb HR.out.symm, bt (b1 _ _) hb1⟩

set_option maxHeartbeats 800000 in
theorem phas_c (p q x : Nat) (w : World) (hp : p < 256 ^ 8) (hq : q < 256 ^ 128) (hg : grpE p q = 0) (hx : x < 256 ^ 128) :
  Calls Tryz.prog 122 #[.agg #[.string (E p), .string (E q)], .string (E x)] w fun e w' => e = .returned (.bool (hasB p q x)) ∧ Below w.heap.size w w' := by
 have HP8 := Lib.hid hp
 have HX := Lib.hid hx
 have HGG := Lib.hid hg
 rcases Nat.eq_zero_or_pos q with rfl | h0
 ·have hz := zE (n := 0) rfl
  clear hp hx hg hq
  go_enter Tryz.func122, Tryz.ntmps122
  go_wp2_with fail
  refine (uhas_c p x _ HP8.out HGG.out HX.out).mono ?_
  rintro e w1 ⟨rfl, hb1⟩
  go_wp2
  go_ret
  exact ⟨rfl, bt (b1 _ _) hb1⟩
 ·have hz := nzE h0
  have HQ := Lib.hid hq
  have H0 := Lib.hid h0
  clear hp hx hg hq h0
  go_enter Tryz.func122, Tryz.ntmps122
  go_wp2_with fail
  refine (ghas_c p q x _ HP8.out HQ.out H0.out HX.out).mono ?_
  rintro e w1 ⟨rfl, hb1⟩
  go_wp2
  go_ret
  exact ⟨rfl, bt (b1 _ _) hb1⟩

theorem pcheckV_c (p q k : Nat) (w : World) (hp : p < 256 ^ 8) (hq : q < 256 ^ 128) (hg : grpE p q = k) :
  Calls Tryz.prog 121 #[.agg #[.string (E p), .string (E q)]] w fun e w' => e = .returned (.int .i64 k) ∧ Below w.heap.size w w' := by
 rw [← hg]; exact pcheck_c p q w hp hq

theorem phasV_c (p q x : Nat) (b : Bool) (w : World) (hp : p < 256 ^ 8) (hq : q < 256 ^ 128) (hg : grpE p q = 0) (hx : x < 256 ^ 128) (h : hasB p q x = b) :
  Calls Tryz.prog 122 #[.agg #[.string (E p), .string (E q)], .string (E x)] w fun e w' => e = .returned (.bool b) ∧ Below w.heap.size w w' := by
 rw [← h]; exact phas_c p q x w hp hq hg hx

set_option maxHeartbeats 800000 in
theorem pHas_c (p q x : Nat) (w : World) (hp : p < 256 ^ 8) (hq : q < 256 ^ 128) (hg : grpE p q = 0) (hx : x < 256 ^ 128) :
  Calls Tryz.prog 68 #[.agg #[.string (E p), .string (E q)], .string (E x)] w fun e w' => e = .returned (.bool (hasB p q x)) ∧ Below w.heap.size w w' := by
 have HP8 := Lib.hid hp
 have HX := Lib.hid hx
 have HGG := Lib.hid hg
 have HQ := Lib.hid hq
 have HC := Lib.hid (fun w => pcheckV_c p q 0 w hp hq hg)
 have hB := Blk.new w #[Value.string (E p), Value.string (E q)] 90
 clear hp hx hg hq
 have hBc0 := hB.cell 0
 have hBf0 := hB.free 0
 have hBc1 := hB.cell 1
 have hBf1 := hB.free 1
 go_enter Tryz.func68, Tryz.ntmps68
 go_wp2_with fail
 refine (HC.out _).mono ?_
 rintro e w1 ⟨rfl, hb1⟩
 clear hBc0 hBf0 hBc1 hBf1
 replace hB := hB.after hb1
 have hBc0 := hB.cell 0
 have hBf0 := hB.free 0
 have hBc1 := hB.cell 1
 have hBf1 := hB.free 1
 go_wp2_with fail
 refine (phas_c p q x _ HP8.out HQ.out HGG.out HX.out).mono ?_
 rintro e w2 ⟨rfl, hb2⟩
 go_wp2
 go_ret
 exact ⟨rfl, bt (bt (b1 _ _) hb1) hb2⟩

theorem pHasV_c (p q x : Nat) (b : Bool) (w : World) (hp : p < 256 ^ 8) (hq : q < 256 ^ 128) (hg : grpE p q = 0) (hx : x < 256 ^ 128) (h : hasB p q x = b) :
  Calls Tryz.prog 68 #[.agg #[.string (E p), .string (E q)], .string (E x)] w fun e w' => e = .returned (.bool b) ∧ Below w.heap.size w w' := by
 rw [← h]; exact pHas_c p q x w hp hq hg hx

/-- whether all strings are numbers -/
def vl4 (a b c d : ByteArray) : Bool := vldB a && vldB b && vldB c && vldB d

end Go.Proofs.YtehoiholhkfcpaaGreat
