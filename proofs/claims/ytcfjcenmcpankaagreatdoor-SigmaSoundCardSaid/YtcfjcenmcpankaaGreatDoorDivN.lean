set_option linter.unusedVariables false
/- one step of Knuth's division with two digits, in natural numbers -/
namespace Go.Proofs.YtcfjcenmcpankaaGreatDoor

section
variable {B Y Y1 Y0 U D q r : Nat}

theorem kn_lt (hY : Y = Y1 * B + Y0) (hU : U < Y) (hD : D < B) : (U * B + D) / Y < B := by
 rw [Nat.div_lt_iff_lt_mul (by omega)]
 have : (U + 1) * B ≤ Y * B := Nat.mul_le_mul_right B hU
 have h2 : (U + 1) * B = U * B + B := by rw [Nat.add_mul, Nat.one_mul]
 have h3 : B * Y = Y * B := Nat.mul_comm _ _
 omega

/-- a candidate that passes the test is not too great -/
theorem kn_le (hY : Y = Y1 * B + Y0) (hY1 : 0 < Y) (hq : q * Y1 + r = U) (h : q * Y0 ≤ B * r + D) : q ≤ (U * B + D) / Y := by
 rw [Nat.le_div_iff_mul_le hY1, hY, Nat.mul_add, ← Nat.mul_assoc, ← hq, Nat.add_mul, Nat.mul_comm r B]
 omega

/-- a candidate that fails it is too great -/
theorem kn_gt (hY : Y = Y1 * B + Y0) (hY1 : 0 < Y) (hq : q * Y1 + r = U) (h : B * r + D < q * Y0) : (U * B + D) / Y < q := by
 rw [Nat.div_lt_iff_lt_mul hY1, hY, Nat.mul_add, ← Nat.mul_assoc, ← hq, Nat.add_mul, Nat.mul_comm r B]
 omega

theorem kn_start (hY : Y = Y1 * B + Y0) (h1 : 0 < Y1) (h0 : Y0 < B) : (U * B + D) / Y ≤ (U * B + D) / (Y1 * B) :=
 Nat.div_le_div_left (by omega) (Nat.mul_pos h1 (by omega))

theorem kn_first (hY : Y = Y1 * B + Y0) (h1 : 0 < Y1) (h0 : Y0 < B) (hD : D < B) : (U * B + D) / Y ≤ U / Y1 := by
 refine Nat.le_trans (kn_start hY h1 h0) ?_
 rw [Nat.mul_comm Y1 B, ← Nat.div_div_eq_div_mul, Nat.mul_comm U B, Nat.mul_add_div (by omega), Nat.div_eq_of_lt hD, Nat.add_zero]
 exact Nat.le_refl _

/-- the remainder is great: the candidate is right -/
theorem kn_break (hY : Y = Y1 * B + Y0) (h0 : Y0 < B) (hU : U < Y) (hq : q * Y1 + r = U) (hr : B ≤ r) : q * Y0 ≤ B * r + D := by
 have h1 : q * Y1 < B * Y1 := by rw [Nat.mul_comm B Y1]; omega
 have h2 : q < B := Nat.lt_of_mul_lt_mul_right h1
 have h3 : q * Y0 ≤ B * Y0 := Nat.mul_le_mul_right _ (by omega)
 have h4 : B * Y0 ≤ B * r := Nat.mul_le_mul_left _ (by omega)
 omega

theorem kn_down (hq : q * Y1 + r = U) (h : 0 < q) : (q - 1) * Y1 + (r + Y1) = U := by
 have : q = q - 1 + 1 := by omega
 rw [this, Nat.add_mul, Nat.one_mul] at hq
 omega
end

theorem kn_two (n0 n1 n2 Y B : Nat) (hY : 0 < Y) :
  ((n0 * B + n1) * B + n2) / Y = (n0 * B + n1) / Y * B + ((n0 * B + n1) % Y * B + n2) / Y := by
 have h := Nat.div_add_mod (n0 * B + n1) Y
 have : (n0 * B + n1) * B + n2 = Y * ((n0 * B + n1) / Y * B) + ((n0 * B + n1) % Y * B + n2) := by
  conv => lhs; rw [← h]
  rw [Nat.add_mul, Nat.mul_assoc, Nat.add_assoc]
 rw [this, Nat.mul_add_div hY]

theorem kn_two_mod (n0 n1 n2 Y B : Nat) (hY : 0 < Y) :
  ((n0 * B + n1) * B + n2) % Y = ((n0 * B + n1) % Y * B + n2) % Y := by
 have h := Nat.div_add_mod (n0 * B + n1) Y
 have : (n0 * B + n1) * B + n2 = Y * ((n0 * B + n1) / Y * B) + ((n0 * B + n1) % Y * B + n2) := by
  conv => lhs; rw [← h]
  rw [Nat.add_mul, Nat.mul_assoc, Nat.add_assoc]
 rw [this, Nat.mul_add_mod]

/-- scaled by 2^s -/
theorem kn_scale (N y t : Nat) (ht : 0 < t) : (N * t) / (y * t) = N / y ∧ (N * t) % (y * t) / t = N % y := by
 refine ⟨Nat.mul_div_mul_right _ _ ht, ?_⟩
 rw [Nat.mul_mod_mul_right, Nat.mul_div_cancel _ ht]

end Go.Proofs.YtcfjcenmcpankaaGreatDoor
