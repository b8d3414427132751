import Derived.Test.YtecobjddpinonaaGreatRSet1
import Derived.Test.YtecobjddpinonaaGreatSet3
set_option linter.unusedVariables false
set_option linter.unusedSimpArgs false
set_option maxRecDepth 100000
namespace Go.Proofs.YtecobjddpinonaaGreat
open Go.RowKit

theorem pow_one_of (y q k p : Nat) (h : y ^ q % p = 1 % p) : (y ^ k % p) ^ q % p = 1 % p := by
  rw [← Nat.pow_mod, ← Nat.pow_mul, Nat.mul_comm, Nat.pow_mul, Nat.pow_mod, h, ← Nat.pow_mod, Nat.one_pow]

theorem inv_pow_one (b y q p : Nat) (hb : b ^ q % p = 1 % p) (hy : b * y % p = 1 % p) : y ^ q % p = 1 % p := by
  have h1 : (b * y) ^ q % p = 1 % p := by rw [Nat.pow_mod, hy, ← Nat.pow_mod, Nat.one_pow]
  rw [Nat.mul_pow, Nat.mul_mod, hb, ← Nat.mul_mod, Nat.one_mul] at h1
  exact h1

theorem hasB_of {p q x : Nat} (hq : 0 < q) (hp : 2 ≤ p) (hx : x < p) (h : x ^ q % p = 1 % p) : hasB p q x = true := by
  unfold hasB
  rw [if_neg (by omega), decide_eq_true_iff]
  refine ⟨?_, hx, h⟩
  rintro rfl
  rw [Nat.zero_pow hq, Nat.zero_mod, mod1 hp] at h
  omega

theorem hasB_pow1 {p q x : Nat} (hq : 0 < q) (h : hasB p q x = true) : x ^ q % p = 1 % p := by
  unfold hasB at h
  rw [if_neg (by omega), decide_eq_true_iff] at h
  exact h.2.2

theorem has_powI {p q x : Nat} (z : Int) (hp : 2 ≤ p) (hq : 0 < q) (h : hasB p q x = true) : hasB p q (powI x z p) = true := by
  have h1 := hasB_pow1 hq h
  have hlt := has_lt h
  unfold powI
  split
  · refine hasB_of hq hp (Nat.mod_lt _ (by omega)) (pow_one_of _ _ _ _ ?_)
    rw [Nat.mod_eq_of_lt hlt]
    exact inv_pow_one x _ q p h1 (invN_spec x p (by omega) (has_coprime hp h))
  · exact hasB_of hq hp (Nat.mod_lt _ (by omega)) (pow_one_of _ _ _ _ h1)

theorem shift_eq {p c g : Nat} (z : Int) (hg : g < p) : shiftN p c g z = c * powI g z p % p := by
  unfold shiftN powI prs bse
  simp only [List.zipWith_cons_cons, List.zipWith_nil_left, pw, Nat.pow_zero, Nat.div_one, Nat.mul_one]
  have h1 : ¬ (1 : Int) < 0 := by decide
  rw [if_neg h1, show Int.natAbs 1 = 1 from rfl, Nat.pow_one, Nat.mod_eq_of_lt hg]
  split <;> rw [Nat.mul_mod_mod]

/-- an element over a power of another -/
def overN (p c g : Nat) (v : Int) : Nat := c * powI g (-v) p % p

theorem rexp13S_c (p q x : Nat) (z : Int) (w : World) (hp : p < 256 ^ 8) (hq : q < 256 ^ 128) (hg : grpE p q = 0) (hx : hasB p q x = true) (hz : z.natAbs < 256 ^ 128) :
    Calls Tryz.prog 70 #[.agg #[.string (E p), .string (E q)], .string (E x), .agg #[.bool (sg (-z)), .string (E z.natAbs)]] w fun e w' => e = .returned (.tuple #[.string (E (powI x (-z) p)), .int .i64 0]) ∧ Below w.heap.size w w' := by
  have := rexp13_c p q x (-z) w hp hq hg hx (by rw [Int.natAbs_neg]; exact hz)
  rwa [Int.natAbs_neg] at this

set_option maxHeartbeats 1600000 in
theorem rover28_c (p q g h c b : Nat) (v : Int) (w : World) (hp : p < 256 ^ 8) (hq : q < 256 ^ 128) (hq0 : 0 < q) (h1 : -9223372036854775808 ≤ v) (h2 : v ≤ 9223372036854775807)
    (he : grpE p q = 0) (hc : hasB p q c = true) (hb : hasB p q b = true) :
    Calls Tryz.prog 38 #[.agg #[.string (E p), .string (E q), .string (E g), .string (E h)], .string (E c), .string (E b), .int .i64 v] w fun e w' => e = .returned (.string (E (overN p c b v))) ∧ Below w.heap.size w w' := by
  have hvb := natAbs_i64 h1 h2
  have HVB := Lib.hid hvb
  have HO := Lib.hid (fun w => riof_c v w h1 h2)
  have HX := Lib.hid (fun w => rexp13S_c p q b v w hp hq he hb hvb)
  have HM := Lib.hid (fun w => rmul13_c p q c (powI b (-v) p) w hp hq he hc (has_powI (-v) (grp_gt he) hq0 hb))
  have HV : Hid (overN p c b v = c * powI b (-v) p % p) := rfl
  have hB := Blk.new w #[Value.string (E p), Value.string (E q), Value.string (E g), Value.string (E h)] 26
  have hBW := b1 w (.cells #[Value.string (E p), Value.string (E q), Value.string (E g), Value.string (E h)] 26)
  clear hp hq hq0 he hc hb hvb
  generalize powI b (-v) p = y at HX HM HV
  have hBc0 := hB.cell 0
  have hBf0 := hB.free 0
  have hBc1 := hB.cell 1
  have hBf1 := hB.free 1
  have hBc2 := hB.cell 2
  have hBf2 := hB.free 2
  have hBc3 := hB.cell 3
  have hBf3 := hB.free 3
  go_enter Tryz.func38, Tryz.ntmps38
  go_wp2_with fail
  refine (HO.out _).mono ?_
  rintro e w1 ⟨rfl, hb1⟩
  clear hBc0 hBf0 hBc1 hBf1 hBc2 hBf2 hBc3 hBf3
  go_wp2_with fail
  replace hB := (hB.after hb1).alloc (.cells #[.bool (sg v), .string (E v.natAbs)] 45)
  have hI := Blk.new w1 #[.bool (sg v), .string (E v.natAbs)] 45
  have hBW2 := ba (bt hBW hb1) (.cells #[.bool (sg v), .string (E v.natAbs)] 45)
  have hBg0 := hB.gcell 0
  have hBg1 := hB.gcell 1
  have hBg2 := hB.gcell 2
  have hBg3 := hB.gcell 3
  have hIg0 := hI.gcell 0
  have hIg1 := hI.gcell 1
  go_wp2_with fail
  refine wp_region_gw (by kernel_rfl) (by kernel_rfl) ?_
  repeat (go_big_quiet_step (first | (go_at_call 71; exact gw_of (rinegS_c v _ HVB.out)) | (go_at_call 70; exact gw_of (HX.out _))))
  refine wpQuiet_nil ?_
  rintro w2 ⟨xw2, rfl⟩
  have hb2 := gw_below xw2
  generalize gw xw2 = w2 at hb2
  clear hBg0 hBg1 hBg2 hBg3
  clear hIg0 hIg1
  replace hB := hB.after hb2
  have hBc0 := hB.cell 0
  have hBf0 := hB.free 0
  have hBc1 := hB.cell 1
  have hBf1 := hB.free 1
  have hBc2 := hB.cell 2
  have hBf2 := hB.free 2
  have hBc3 := hB.cell 3
  have hBf3 := hB.free 3
  go_wp2_with fail
  refine (HM.out _).mono ?_
  rintro e w3 ⟨rfl, hb3⟩
  go_wp2
  go_ret
  exact ⟨rE HV.out.symm, bt (bt hBW2 hb2) hb3⟩

end Go.Proofs.YtecobjddpinonaaGreat
