/- For every case (rule, statement, two proofs), dominolaw18.ExtractorSatisfies returns true and its argument reads as it did: what Extract returns satisfies all equations, and is less than twice the limits of the masks. No condition. -/
import Derived.Test.YtbcgimgkcdpjcaaGreatNum
import Derived.Test.YtbcgimgkcdpjcaaGreatDivN
import Derived.Test.YtbcgimgkcdpjcaaGreatIdx
import Derived.Test.YtbcgimgkcdpjcaaGreatExm2
import Derived.Test.YtbcgimgkcdpjcaaGreatArg
set_option linter.unusedVariables false
set_option linter.unusedSimpArgs false
set_option maxRecDepth 100000
section
/- Long division in base 256: the digits of a number as a list, one digit set, the steps of the loops. Plain Lean. -/
namespace Go.Proofs.YtbcgimgkcdpjcaaGreat

def digs (X M : Nat) : List Nat := (List.range M).map fun i => X / 256 ^ i % 256
/-- X with its digit p replaced by v -/
def setd (X p v : Nat) : Nat := X / 256 ^ (p + 1) * 256 ^ (p + 1) + v * 256 ^ p + X % 256 ^ p

theorem p256 (k : Nat) : 0 < 256 ^ k := Nat.pow_pos (by decide)
theorem digs_len (X M : Nat) : (digs X M).length = M := by simp [digs]
theorem digs_get (X M i : Nat) (h : i < (digs X M).length) : (digs X M)[i] = X / 256 ^ i % 256 := by simp [digs]
theorem digs_get? (X M i : Nat) (h : i < M) : (digs X M)[i]? = some (X / 256 ^ i % 256) := by simp [digs, h]
theorem digs_zero (M : Nat) : digs 0 M = List.replicate M 0 := by
 refine List.ext_getElem (by simp [digs]) fun i h1 h2 => ?_
 simp [digs]

theorem dig_parts (X p : Nat) : X = X / 256 ^ (p + 1) * 256 ^ (p + 1) + X / 256 ^ p % 256 * 256 ^ p + X % 256 ^ p := by
 have h1 := Nat.div_add_mod X (256 ^ (p + 1))
 have h2 := mod_succ X p
 rw [Nat.mul_comm] at h1
 omega

theorem setd_eq (X p v : Nat) : setd X p v + X / 256 ^ p % 256 * 256 ^ p = X + v * 256 ^ p := by
 have := dig_parts X p
 unfold setd
 omega

theorem dig_low (A p L i : Nat) (h : i < p) : (A * 256 ^ p + L) / 256 ^ i % 256 = L / 256 ^ i % 256 := by
 obtain ⟨d, rfl⟩ : ∃ d, p = i + 1 + d := ⟨p - i - 1, by omega⟩
 rw [show A * 256 ^ (i + 1 + d) + L = L + 256 ^ i * (256 * (256 ^ d * A)) by rw [Nat.pow_add, Nat.pow_add, Nat.pow_one]; rw [Nat.add_comm]; congr 1; rw [Nat.mul_comm A, Nat.mul_assoc, Nat.mul_assoc], Nat.add_mul_div_left _ _ (p256 i), Nat.add_mul_mod_self_left]

theorem dig_high (A p L i : Nat) (h : p ≤ i) (hL : L < 256 ^ p) : (A * 256 ^ p + L) / 256 ^ i = A / 256 ^ (i - p) := by
 obtain ⟨d, rfl⟩ : ∃ d, i = p + d := ⟨i - p, by omega⟩
 rw [Nat.pow_add, ← Nat.div_div_eq_div_mul, Nat.add_comm, Nat.add_mul_div_right _ _ (p256 p), Nat.div_eq_of_lt hL, Nat.zero_add, Nat.add_sub_cancel_left]

theorem low_lt (v r p : Nat) (hv : v < 256) (hr : r < 256 ^ p) : v * 256 ^ p + r < 256 ^ (p + 1) := by
 have : (v + 1) * 256 ^ p ≤ 256 * 256 ^ p := Nat.mul_le_mul_right _ hv
 rw [Nat.add_mul, Nat.one_mul] at this
 rw [Nat.pow_succ, Nat.mul_comm (256 ^ p)]
 omega

theorem setd_div (X p v M : Nat) (hv : v < 256) (h : p < M) : setd X p v / 256 ^ M = X / 256 ^ M := by
 have hr : X % 256 ^ p < 256 ^ p := Nat.mod_lt _ (p256 p)
 have e1 : setd X p v / 256 ^ M = X / 256 ^ (p + 1) / 256 ^ (M - (p + 1)) := by
  unfold setd
  rw [Nat.add_assoc, dig_high _ (p + 1) _ M (by omega) (low_lt v _ p hv hr)]
 rw [e1, Nat.div_div_eq_div_mul, ← Nat.pow_add, show p + 1 + (M - (p + 1)) = M by omega]

theorem setd_dig (X p v i : Nat) (hv : v < 256) : setd X p v / 256 ^ i % 256 = if i = p then v else X / 256 ^ i % 256 := by
 have hr : X % 256 ^ p < 256 ^ p := Nat.mod_lt _ (p256 p)
 by_cases h : i = p
 ·subst h
  rw [if_pos rfl]
  unfold setd
  rw [show X / 256 ^ (i + 1) * 256 ^ (i + 1) + v * 256 ^ i + X % 256 ^ i = (X / 256 ^ (i + 1) * 256 + v) * 256 ^ i + X % 256 ^ i by rw [Nat.add_mul, Nat.pow_succ, Nat.mul_comm (256 ^ i) 256, Nat.mul_assoc],
   dig_high _ _ _ _ (Nat.le_refl _) hr, Nat.sub_self, Nat.pow_zero, Nat.div_one, Nat.add_comm, Nat.mul_comm, Nat.add_mul_mod_self_left, Nat.mod_eq_of_lt hv]
 ·rw [if_neg h]
  rcases Nat.lt_or_gt_of_ne h with h1 | h1
  ·have e1 : setd X p v / 256 ^ i % 256 = X % 256 ^ p / 256 ^ i % 256 := by
    unfold setd
    rw [show X / 256 ^ (p + 1) * 256 ^ (p + 1) + v * 256 ^ p + X % 256 ^ p = (X / 256 ^ (p + 1) * 256 + v) * 256 ^ p + X % 256 ^ p by rw [Nat.add_mul, Nat.pow_succ, Nat.mul_comm (256 ^ p) 256, Nat.mul_assoc], dig_low _ _ _ _ h1]
   have e2 : X / 256 ^ i % 256 = X % 256 ^ p / 256 ^ i % 256 := by
    conv => lhs; rw [show X = X / 256 ^ p * 256 ^ p + X % 256 ^ p by have := Nat.div_add_mod X (256 ^ p); rw [Nat.mul_comm] at this; omega]
    rw [dig_low _ _ _ _ h1]
   rw [e1, e2]
  ·rw [setd_div X p v i hv h1]

theorem digs_set (X p v M : Nat) (hv : v < 256) : (digs X M).set p v = digs (setd X p v) M := by
 refine List.ext_getElem (by simp [digs]) fun i h1 h2 => ?_
 rw [List.getElem_set, digs_get, digs_get, setd_dig X p v i hv]
 by_cases h : p = i
 ·rw [if_pos h, if_pos h.symm]
 ·rw [if_neg h, if_neg (fun e => h e.symm)]

theorem setd_fill (X k : Nat) : setd (X % 256 ^ k) k (X / 256 ^ k % 256) = X % 256 ^ (k + 1) := by
 have h1 := setd_eq (X % 256 ^ k) k (X / 256 ^ k % 256)
 rw [Nat.div_eq_of_lt (Nat.mod_lt _ (p256 k)), Nat.zero_mod, Nat.zero_mul, Nat.add_zero] at h1
 rw [h1, mod_succ]; omega

/-- one digit of a shifted number -/
theorem shl_dig0 (x s : Nat) : x * 2 ^ s / 256 ^ 0 % 256 = x % 256 * 2 ^ s % 256 := by
 rw [Nat.pow_zero, Nat.div_one, Nat.mod_mul_mod]
theorem two8 {s : Nat} (hs : s ≤ 7) : 2 ^ (8 - s) * 2 ^ s = 256 := by
 rw [← Nat.pow_add, show 8 - s + s = 8 by omega]
theorem shl_dig (x s k : Nat) (hs : s ≤ 7) : x * 2 ^ s / 256 ^ (k + 1) % 256 = x / 256 ^ (k + 1) % 256 * 2 ^ s % 256 + x / 256 ^ k % 256 / 2 ^ (8 - s) := by
 have h8 := two8 hs
 have hp : 0 < 2 ^ s := Nat.pow_pos (by decide)
 have hq : 0 < 2 ^ (8 - s) := Nat.pow_pos (by decide)
 have e1 : x * 2 ^ s / 256 ^ (k + 1) = x / 256 ^ k / 2 ^ (8 - s) := by
  rw [Nat.pow_succ, show 256 ^ k * 256 = 256 ^ k * 2 ^ (8 - s) * 2 ^ s by rw [Nat.mul_assoc, h8], Nat.mul_div_mul_right _ _ hp, Nat.div_div_eq_div_mul]
 have e2 : x / 256 ^ (k + 1) = x / 256 ^ k / 256 := by rw [Nat.pow_succ, Nat.div_div_eq_div_mul]
 rw [e1, e2]
 generalize x / 256 ^ k = y
 have h1 : y = y % 256 + 2 ^ (8 - s) * (2 ^ s * (y / 256)) := by
  have := Nat.mod_add_div y 256
  rw [← Nat.mul_assoc, h8]; omega
 have h2 : y / 2 ^ (8 - s) = y % 256 / 2 ^ (8 - s) + 2 ^ s * (y / 256) := by
  conv => lhs; rw [h1]
  rw [Nat.add_mul_div_left _ _ hq]
 have h3 : y % 256 / 2 ^ (8 - s) < 2 ^ s := by
  rw [Nat.div_lt_iff_lt_mul hq, Nat.mul_comm, h8]
  exact Nat.mod_lt _ (by decide)
 rw [h2, Nat.mod_mul_mod, Nat.mul_comm (y / 256)]
 generalize y % 256 / 2 ^ (8 - s) = r at h3
 have h4 : 2 ^ s * (y / 256) % 256 = 2 ^ s * (y / 256 % 2 ^ (8 - s)) := by
  have : (256 : Nat) = 2 ^ s * 2 ^ (8 - s) := by rw [Nat.mul_comm, h8]
  conv => lhs; arg 2; rw [this]
  rw [Nat.mul_mod_mul_left]
 have h5 : 2 ^ s * (y / 256 % 2 ^ (8 - s)) + 2 ^ s ≤ 256 := by
  have := Nat.mod_lt (y / 256) hq
  have h6 : 2 ^ s * (y / 256 % 2 ^ (8 - s) + 1) ≤ 2 ^ s * 2 ^ (8 - s) := Nat.mul_le_mul_left _ this
  rw [Nat.mul_add, Nat.mul_one, Nat.mul_comm (2 ^ s) (2 ^ (8 - s)), h8] at h6
  exact h6
 rw [Nat.add_mod, h4, Nat.mod_eq_of_lt (a := r) (by omega), Nat.mod_eq_of_lt (by omega)]
 omega
theorem shl_or (x y s : Nat) (hs : s ≤ 7) : (x % 256 * 2 ^ s % 256) ||| (y % 256 / 2 ^ (8 - s)) = x % 256 * 2 ^ s % 256 + y % 256 / 2 ^ (8 - s) := by
 have h8 := two8 hs
 have hq : 0 < 2 ^ (8 - s) := Nat.pow_pos (by decide)
 have h3 : y % 256 / 2 ^ (8 - s) < 2 ^ s := by
  rw [Nat.div_lt_iff_lt_mul hq, Nat.mul_comm, h8]
  exact Nat.mod_lt _ (by decide)
 have h4 : x % 256 * 2 ^ s % 256 = 2 ^ s * (x % 256 % 2 ^ (8 - s)) := by
  have : (256 : Nat) = 2 ^ s * 2 ^ (8 - s) := by rw [Nat.mul_comm, h8]
  conv => lhs; rw [Nat.mul_comm (x % 256)]
  conv => lhs; arg 2; rw [this]
  rw [Nat.mul_mod_mul_left]
 rw [h4, Nat.two_pow_add_eq_or_of_lt h3]

/-- one step of the subtraction -/
theorem ld_sub (X D Y j k g c t x' t' : Nat) (h : Y + g * (D % 256 ^ k) * 256 ^ j = X + (c + t) * 256 ^ (j + k))
  (hx : x' + (c + g * (D / 256 ^ k % 256)) % 256 + t = Y / 256 ^ (j + k) % 256 + 256 * t') :
  setd Y (j + k) x' + g * (D % 256 ^ (k + 1)) * 256 ^ j = X + ((c + g * (D / 256 ^ k % 256)) / 256 + t') * 256 ^ (j + (k + 1)) := by
 have h1 := setd_eq Y (j + k) x'
 have h2 := Nat.div_add_mod (c + g * (D / 256 ^ k % 256)) 256
 have h3 := mod_succ D k
 generalize (c + g * (D / 256 ^ k % 256)) / 256 = c1 at *
 generalize (c + g * (D / 256 ^ k % 256)) % 256 = c0 at *
 generalize Y / 256 ^ (j + k) % 256 = y at *
 generalize D / 256 ^ k % 256 = d at *
 rw [h3, show j + (k + 1) = j + k + 1 by omega, Nat.pow_succ]
 have e1 : g * (d * 256 ^ k + D % 256 ^ k) * 256 ^ j = g * d * 256 ^ (j + k) + g * (D % 256 ^ k) * 256 ^ j := by
  rw [Nat.mul_add, Nat.add_mul, Nat.pow_add, ← Nat.mul_assoc, Nat.mul_assoc (g * d), Nat.mul_comm (256 ^ k)]
 rw [e1]
 generalize g * (D % 256 ^ k) * 256 ^ j = G at *
 generalize 256 ^ (j + k) = P at *
 have e2 : (x' + c + g * d + t) * P = (y + 256 * t' + 256 * c1) * P := by congr 1; omega
 rw [Nat.mul_comm P 256, show (c1 + t') * (256 * P) = (256 * (c1 + t')) * P by rw [Nat.mul_comm 256 (c1 + t'), Nat.mul_assoc]]
 simp only [Nat.add_mul, Nat.mul_add] at *
 omega

/-- one step of the addition -/
theorem ld_add (Y0 D Y j k c : Nat) (h : Y + c * 256 ^ (j + k) = Y0 + D % 256 ^ k * 256 ^ j) :
  setd Y (j + k) ((c + (Y / 256 ^ (j + k) % 256 + D / 256 ^ k % 256)) % 256) + (c + (Y / 256 ^ (j + k) % 256 + D / 256 ^ k % 256)) / 256 * 256 ^ (j + (k + 1)) = Y0 + D % 256 ^ (k + 1) * 256 ^ j := by
 generalize hv : c + (Y / 256 ^ (j + k) % 256 + D / 256 ^ k % 256) = v
 have h1 := setd_eq Y (j + k) (v % 256)
 have h2 := Nat.div_add_mod v 256
 have h3 := mod_succ D k
 generalize v / 256 = c1 at *
 generalize v % 256 = c0 at *
 generalize Y / 256 ^ (j + k) % 256 = y at *
 generalize D / 256 ^ k % 256 = d at *
 rw [h3, show j + (k + 1) = j + k + 1 by omega, Nat.pow_succ]
 have e1 : (d * 256 ^ k + D % 256 ^ k) * 256 ^ j = d * 256 ^ (j + k) + D % 256 ^ k * 256 ^ j := by
  rw [Nat.add_mul, Nat.pow_add, Nat.mul_assoc, Nat.mul_comm (256 ^ k)]
 rw [e1]
 generalize D % 256 ^ k * 256 ^ j = G at *
 generalize 256 ^ (j + k) = P at *
 have e2 : (c + (y + d)) * P = (256 * c1 + c0) * P := by congr 1; omega
 rw [Nat.mul_comm P 256, show c1 * (256 * P) = (256 * c1) * P by rw [Nat.mul_comm 256 c1, Nat.mul_assoc]]
 simp only [Nat.add_mul] at *
 omega

/-- the guess is not too small -/
theorem ld_guess (X D j n : Nat) (hn : 0 < n) (hD : 0 < D / 256 ^ (n - 1)) (hX : X < D * 256 ^ (j + 1)) :
  X < (min (X / 256 ^ (j + n - 1) / (D / 256 ^ (n - 1))) 255 + 1) * (D * 256 ^ j) := by
 have hD0 : 0 < D := by
  rcases Nat.eq_zero_or_pos D with h | h
  ·subst h; simp at hD
  ·exact h
 have hW : 0 < D * 256 ^ j := Nat.mul_pos hD0 (p256 j)
 rw [← Nat.div_lt_iff_lt_mul hW]
 have h1 : X / (D * 256 ^ j) ≤ 255 := by
  have : X / (D * 256 ^ j) < 256 := by
   rw [Nat.div_lt_iff_lt_mul hW]
   rw [Nat.pow_succ] at hX
   rw [show 256 * (D * 256 ^ j) = D * (256 ^ j * 256) by rw [Nat.mul_comm 256, Nat.mul_assoc]]
   exact hX
  omega
 have h2 : X / (D * 256 ^ j) ≤ X / 256 ^ (j + n - 1) / (D / 256 ^ (n - 1)) := by
  rw [Nat.div_div_eq_div_mul]
  refine Nat.div_le_div_left ?_ (Nat.mul_pos (p256 _) hD)
  rw [show j + n - 1 = j + (n - 1) by omega, Nat.pow_add, Nat.mul_assoc, Nat.mul_comm D, Nat.mul_comm (256 ^ (n - 1))]
  exact Nat.mul_le_mul_left _ (Nat.div_mul_le_self _ _)
 have := Nat.le_min.2 ⟨h2, h1⟩
 omega

theorem dig_two (X p : Nat) (h : X < 256 ^ (p + 2)) : X / 256 ^ p = X / 256 ^ (p + 1) % 256 * 256 + X / 256 ^ p % 256 := by
 have e : X / 256 ^ (p + 1) = X / 256 ^ p / 256 := by rw [Nat.pow_succ, Nat.div_div_eq_div_mul]
 have h2 : X / 256 ^ (p + 1) < 256 := by
  rw [Nat.div_lt_iff_lt_mul (p256 _), show 256 * 256 ^ (p + 1) = 256 ^ (p + 2) by rw [Nat.pow_succ 256 (p + 1), Nat.mul_comm]]
  exact h
 rw [Nat.mod_eq_of_lt h2, e]
 have := Nat.div_add_mod (X / 256 ^ p) 256
 omega
theorem or8 (u v : Nat) (hv : v < 256) : (u * 256) ||| v = u * 256 + v := by
 have := Nat.two_pow_add_eq_or_of_lt (i := 8) (show v < 2 ^ 8 by omega) u
 rw [Nat.mul_comm u 256]
 exact this.symm

theorem ld_neg (Y X G W M u : Nat) (T : Int) (hY : Y / M = u) (h : (Y : Int) + (T - u) * M = X - G * W) (hM : 0 < M) (hT : T < 0) : X < G * W := by
 have h1 := Nat.div_add_mod Y M
 have h2 := Nat.mod_lt Y hM
 rw [hY] at h1
 have h3 : (Y : Int) = (M : Int) * (u : Int) + (Y % M : Nat) := by rw [← Int.natCast_mul]; omega
 have h4 : T * (M : Int) ≤ -1 * (M : Int) := Int.mul_le_mul_of_nonneg_right (by omega) (by omega)
 rw [Int.sub_mul, Int.mul_comm (u : Int)] at h
 have h5 : (X : Int) < ((G * W : Nat) : Int) := by rw [Int.natCast_mul]; omega
 exact Int.ofNat_lt.1 h5
theorem ld_exit (Y X G W M u : Nat) (T : Int) (hY : Y / M = u) (h : (Y : Int) + (T - u) * M = X - G * W) (hX : X < (G + 1) * W) (hW : W ≤ M) (hM : 0 < M) (hT : ¬ T < 0) : T = 0 ∧ G * W ≤ X ∧ Y % M = X - G * W := by
 have h1 := Nat.div_add_mod Y M
 rw [hY] at h1
 have h3 : (Y : Int) = (M : Int) * (u : Int) + (Y % M : Nat) := by rw [← Int.natCast_mul]; omega
 rw [Int.sub_mul, Int.mul_comm (u : Int)] at h
 rw [Nat.add_mul, Nat.one_mul] at hX
 have h5 : ((G * W : Nat) : Int) = (G : Int) * (W : Int) := Int.natCast_mul _ _
 have hT0 : T = 0 := by
  apply Classical.byContradiction
  intro hn
  have h4 : 1 * (M : Int) ≤ T * (M : Int) := Int.mul_le_mul_of_nonneg_right (by omega) (by omega)
  omega
 subst hT0
 rw [Int.zero_mul] at h
 refine ⟨rfl, ?_, ?_⟩ <;> omega
theorem setd_top (Y p u : Nat) (hY : Y / 256 ^ p = u) (hu : u < 256) : setd Y p 0 = Y % 256 ^ p := by
 unfold setd
 rw [Nat.pow_succ, ← Nat.div_div_eq_div_mul, hY, Nat.div_eq_of_lt hu]
 omega
/-- the numbers of the loop that adds the divisor back -/
theorem ld_back (Y Y' X G W M u c : Nat) (T : Int) (h : (Y : Int) + (T - u) * M = X - G * W) (h0 : 0 < G) (hb : Y' + c * M = Y + W) : (Y' : Int) + ((T + c) - u) * M = X - ((G - 1 : Nat) : Int) * W := by
 have e1 : ((G - 1 : Nat) : Int) = (G : Int) - 1 := by omega
 have e2 : (Y' : Int) + (c : Int) * (M : Int) = (Y : Int) + (W : Int) := by rw [← Int.natCast_mul]; omega
 rw [e1]
 simp only [Int.sub_mul, Int.add_mul, Int.one_mul] at *
 omega
/-- the numbers behind the loop that subtracts -/
theorem ld_first (Y X G W M u c t : Nat) (h : Y + G * W = X + (c + t) * M) : (Y : Int) + (((u : Int) - c - t) - u) * M = X - G * W := by
 have e : (Y : Int) + (G : Int) * (W : Int) = (X : Int) + ((c : Int) + (t : Int)) * (M : Int) := by rw [← Int.natCast_mul, ← Int.natCast_add, ← Int.natCast_add, ← Int.natCast_mul, ← Int.natCast_add]; exact congrArg _ h
 simp only [Int.sub_mul, Int.add_mul] at *
 omega
theorem ld_next (l : Nat) (A D X G j : Nat) (hv : l * (256 ^ (j + 1) * D) + X = A) (hg : G * (D * 256 ^ j) ≤ X) : (l * 256 + G) * (256 ^ j * D) + (X - G * (D * 256 ^ j)) = A := by
 rw [Nat.add_mul, Nat.mul_comm D] at *
 have e : l * 256 * (256 ^ j * D) = l * (256 ^ (j + 1) * D) := by rw [Nat.pow_succ, Nat.mul_comm (256 ^ j) 256, Nat.mul_assoc, Nat.mul_assoc]
 rw [e]
 omega
theorem ld_end (v a b s X : Nat) (h : v * (b * 2 ^ s) + X = a * 2 ^ s) (hX : X < b * 2 ^ s) : v = a / b ∧ X / 2 ^ s = a % b := by
 have hs : 0 < 2 ^ s := Nat.pow_pos (by decide)
 obtain ⟨k1, k2⟩ := kn_scale a b (2 ^ s) hs
 have hD : 0 < b * 2 ^ s := by omega
 have e1 : a * 2 ^ s / (b * 2 ^ s) = v := by
  rw [← h, Nat.add_comm, Nat.add_mul_div_right _ _ hD, Nat.div_eq_of_lt hX, Nat.zero_add]
 have e2 : a * 2 ^ s % (b * 2 ^ s) = X := by
  rw [← h, Nat.add_comm, Nat.add_mul_mod_self_right, Nat.mod_eq_of_lt hX]
 rw [e1] at k1
 rw [e2] at k2
 exact ⟨k1, k2⟩
/-- a digit of the remainder, shifted back -/
theorem shr_dig (X s k : Nat) (hs : s ≤ 7) : ((X / 256 ^ k % 256) ||| (X / 256 ^ (k + 1) % 256 * 256)) / 2 ^ s % 256 = X / 2 ^ s / 256 ^ k % 256 := by
 rw [Nat.or_comm, or8 _ _ (Nat.mod_lt _ (by decide))]
 have e : X / 2 ^ s / 256 ^ k = X / 256 ^ k / 2 ^ s := by rw [Nat.div_div_eq_div_mul, Nat.div_div_eq_div_mul, Nat.mul_comm]
 rw [e, Nat.pow_succ, ← Nat.div_div_eq_div_mul]
 generalize X / 256 ^ k = y
 have h8 := two8 hs
 have hp : 0 < 2 ^ s := Nat.pow_pos (by decide)
 have h1 : y = (y / 256 % 256 * 256 + y % 256) + 2 ^ s * (256 * (2 ^ (8 - s) * (y / 256 / 256))) := by
  rw [show 2 ^ s * (256 * (2 ^ (8 - s) * (y / 256 / 256))) = 256 * 256 * (y / 256 / 256) by rw [Nat.mul_left_comm, ← Nat.mul_assoc (2 ^ s), Nat.mul_comm (2 ^ s), h8, Nat.mul_assoc]]
  omega
 conv => rhs; rw [h1]
 rw [Nat.add_mul_div_left _ _ hp, Nat.add_mul_mod_self_left]

end Go.Proofs.YtbcgimgkcdpjcaaGreat
end

section
namespace Go.Proofs.YtbcgimgkcdpjcaaGreat
open Go.RowKit

theorem lz8_spec : ∀ x : Fin 256, x.1 ≠ 0 → ∃ s : Fin 8, (8 - (Lib.bitLen x.1 : Int)) = (s.1 : Int) ∧ 128 ≤ x.1 * 2 ^ s.1 ∧ (x.1 + 1) * 2 ^ s.1 ≤ 256 := by decide +kernel

theorem lz8_c (x : Nat) (w : World) (h : x < 256) : Calls Tryz.prog 190 #[.int .u8 (x : Int)] w fun e w' => e = .returned (.int .i64 (8 - (Lib.bitLen x : Int))) ∧ w = w' :=
 (Tryz.bits_LeadingZeros8 (x : Int) w (by omega) (by omega)).mono fun _ _ h => ⟨by rw [h.1, Int.toNat_natCast], h.2.symm⟩

/-- the scaled divisor -/
theorem scale_spec (b s n : Nat) (hn : n = (E b).size) (h0 : 0 < b) (h1 : 128 ≤ b / 256 ^ (n - 1) * 2 ^ s) (h2 : (b / 256 ^ (n - 1) + 1) * 2 ^ s ≤ 256) : 0 < n ∧ b * 2 ^ s < 256 ^ n ∧ 128 ≤ b * 2 ^ s / 256 ^ (n - 1) := by
 have hn0 : 0 < n := by rw [hn]; exact (E_size_pos b).2 h0
 refine ⟨hn0, ?_, ?_⟩
 ·have h3 : b < (b / 256 ^ (n - 1) + 1) * 256 ^ (n - 1) := by
   have := Nat.div_add_mod b (256 ^ (n - 1))
   have h4 := Nat.mod_lt b (p256 (n - 1))
   rw [Nat.add_mul, Nat.one_mul, Nat.mul_comm (b / _)]
   omega
  have h5 : b * 2 ^ s < (b / 256 ^ (n - 1) + 1) * 256 ^ (n - 1) * 2 ^ s := Nat.mul_lt_mul_of_pos_right h3 (Nat.pow_pos (by decide))
  have h6 : (b / 256 ^ (n - 1) + 1) * 2 ^ s * 256 ^ (n - 1) ≤ 256 * 256 ^ (n - 1) := Nat.mul_le_mul_right _ h2
  have h7 : 256 * 256 ^ (n - 1) = 256 ^ n := by
   conv => rhs; rw [show n = n - 1 + 1 by omega, Nat.pow_succ, Nat.mul_comm]
  rw [Nat.mul_assoc, Nat.mul_comm (256 ^ (n - 1)), ← Nat.mul_assoc] at h5
  omega
 ·refine Nat.le_trans h1 ?_
  rw [Nat.le_div_iff_mul_le (p256 _), Nat.mul_right_comm]
  exact Nat.mul_le_mul_right _ (Nat.div_mul_le_self _ _)

theorem i64_and255 (n : Int) : bits .and .i64 n 255 = n % 256 := by
 have h1 : (BitVec.ofInt 64 255).toNat = 2 ^ 8 - 1 := by decide
 have key : (BitVec.ofInt 64 n &&& BitVec.ofInt 64 255).toNat = (n % ((2 ^ 64 : Nat) : Int)).toNat % 2 ^ 8 := by
  rw [BitVec.toNat_and, BitVec.toNat_ofInt, h1, Nat.and_two_pow_sub_one_eq_mod]
 show IntKind.i64.wrap ((BitVec.ofInt 64 n &&& BitVec.ofInt 64 255).toNat : Nat) = n % 256
 rw [key, IntKind.wrap_i64]
 omega

theorem i64_or (a b : Nat) (ha : a < 65536) (hb : b < 65536) : bits .or .i64 (a : Int) (b : Int) = ((a ||| b : Nat) : Int) := by
 have h : (a ||| b) < 2 ^ 16 := Nat.or_lt_two_pow ha hb
 have key : (BitVec.ofInt 64 (a : Int) ||| BitVec.ofInt 64 (b : Int)).toNat = a ||| b := by
  rw [BitVec.toNat_or, BitVec.toNat_ofInt, BitVec.toNat_ofInt]
  rw [show ((a : Int) % ((2 ^ 64 : Nat) : Int)).toNat = a by omega, show ((b : Int) % ((2 ^ 64 : Nat) : Int)).toNat = b by omega]
 show IntKind.i64.wrap ((BitVec.ofInt 64 (a : Int) ||| BitVec.ofInt 64 (b : Int)).toNat : Nat) = _
 rw [key, IntKind.wrap_i64]
 omega

theorem setd_setd (X p v u : Nat) (hv : v < 256) : setd (setd X p v) p u = setd X p u := by
 have h1 := setd_div X p v (p + 1) hv (by omega)
 have h2 : setd X p v % 256 ^ p = X % 256 ^ p := by
  have e1 : ∀ A P : Nat, A * (P * 256) = P * (256 * A) := fun A P => by rw [Nat.mul_comm A, Nat.mul_assoc]
  unfold setd
  rw [Nat.pow_succ, e1, Nat.mul_comm v, ← Nat.mul_add, Nat.add_comm, Nat.add_mul_mod_self_left, Nat.mod_mod]
 show setd X p v / 256 ^ (p + 1) * 256 ^ (p + 1) + u * 256 ^ p + setd X p v % 256 ^ p = _
 rw [h1, h2]; rfl

theorem or_val (x s k v0 : Nat) (hs : s < 8) (hk : 0 < k) (hv : v0 = dgt (E x) k * 2 ^ s % 256) : bits BinOp.or IntKind.i64 (v0 : Int) ((dgt (E x) (k - 1) : Int) / 2 ^ (8 - s)) = ((x * 2 ^ s / 256 ^ k % 256 : Nat) : Int) := by
 obtain ⟨j, rfl⟩ : ∃ j, k = j + 1 := ⟨k - 1, by omega⟩
 have h1 := dgt_lt (E x) (j + 1 - 1)
 rw [dgt_E] at h1
 have e : (dgt (E x) (j + 1 - 1) : Int) / 2 ^ (8 - s) = ((dgt (E x) (j + 1 - 1) / 2 ^ (8 - s) : Nat) : Int) := by rw [Int.natCast_ediv]; simp
 rw [e, dgt_E, hv, dgt_E, Nat.add_sub_cancel, shl_dig x s j (by omega), ← shl_or _ _ s (by omega)]
 have h2 : x / 256 ^ j % 256 / 2 ^ (8 - s) ≤ x / 256 ^ j % 256 := Nat.div_le_self _ _
 rw [Nat.add_sub_cancel] at h1
 exact i64_or _ _ (by omega) (by omega)

theorem digz_c (s : ByteArray) (z : Int) (w : World) (hs : s.size ≤ 1000000) (h0 : 0 ≤ z) (h1 : z ≤ 1000000) :
  Calls Tryz.prog 60 #[.string s, .int .i64 z] w fun e w' => e = .returned (.int .i64 (dgt s z.toNat)) ∧ w' = w :=
 (digit_c s z w (by omega) h0 (by omega)).mono fun _ _ h => ⟨h.1, h.2.symm⟩

theorem shl_val (d s : Nat) (hd : d < 256) (hs : s < 8) : bits BinOp.and IntKind.i64 (wrap64 ((d : Int) * 2 ^ s)) 255 = ((d * 2 ^ s % 256 : Nat) : Int) := by
 have h1 : d * 2 ^ s ≤ 255 * 128 := Nat.mul_le_mul (by omega) (Nat.pow_le_pow_right (by decide) (show s ≤ 7 by omega))
 have e : (d : Int) * 2 ^ s = ((d * 2 ^ s : Nat) : Int) := by simp
 rw [e, i64_and255, IntWalk.wrap64_in _ (by omega)]
 omega

theorem guess_val (u v t : Nat) (hu : u < 256) (hv : v < 256) (ht : 128 ≤ t) (ht8 : t < 256) : min (IntKind.i64.wrap ((bits BinOp.or IntKind.i64 (IntKind.i64.wrap ((u : Int) * 256)) (v : Int)).tdiv (t : Int))) 255 = ((min ((u * 256 + v) / t) 255 : Nat) : Int) := by
 have e1 : IntKind.i64.wrap ((u : Int) * 256) = ((u * 256 : Nat) : Int) := by rw [IntWalk.i64_in _ (by omega)]; omega
 rw [e1, i64_or _ _ (by omega) (by omega), or8 u v hv, ← Int.ofNat_tdiv]
 have h2 : (u * 256 + v) / t ≤ u * 256 + v := Nat.div_le_self _ _
 generalize (u * 256 + v) / t = q at h2 ⊢
 rw [IntWalk.i64_in _ (by omega)]
 omega

theorem blk_digs (w : World) (m : Nat) : Blk (w.alloc (.cells (Array.replicate m (Value.int .i64 0)) 3)) w.heap.size 3 (i64s (digs 0 m)) := by
 have := Blk.new w (Array.replicate m (Value.int .i64 0)) 3
 rw [digs_zero, i64s, List.map_replicate]
 simpa using this

theorem digs_cell {w : World} {g X M : Nat} {T : TypeId} (h : Blk w g T (i64s (digs X M))) (i : Nat) (hi : i < M) : w.cell? ⟨g, i, none⟩ = some (.int .i64 ((X / 256 ^ i % 256 : Nat) : Int)) := by
 have hl : i < (digs X M).length := by rw [digs_len]; exact hi
 rw [i64_cell h i hl, digs_get]

theorem digs_put {w : World} {g X M : Nat} {T : TypeId} (h : Blk w g T (i64s (digs X M))) (i v : Nat) (hv : v < 256) : Blk (w.setCell ⟨g, i, none⟩ (.int .i64 (v : Int))) g T (i64s (digs (setd X i v) M)) := by
 have := i64_set h i v
 rw [digs_set X i v M hv] at this
 exact this

end Go.Proofs.YtbcgimgkcdpjcaaGreat
end

section
namespace Go.Proofs.YtbcgimgkcdpjcaaGreat
open Go.RowKit

set_option maxHeartbeats 4000000 in
theorem ldiv_c (a b : Nat) (w : World) (ha : a < 256 ^ 128) (h8 : 8 < (E a).size) (hb : b < 256 ^ 128) (h0 : 0 < b) (hle : b ≤ a) :
  Calls Tryz.prog 163 #[.string (E a), .string (E b)] w fun e w' => e = .returned (.tuple #[.string (E (a / b)), .string (E (a % b))]) ∧ Below w.heap.size w w' := by
 have h1 := sz a ha
 have h2 := sz b hb
 have hc := cmp_nneg a b hle
 have hz := (E_size_pos b).2 h0
 obtain ⟨m, hm⟩ : ∃ m, m = (E a).size := ⟨_, rfl⟩
 obtain ⟨n, hn⟩ : ∃ n, n = (E b).size := ⟨_, rfl⟩
 have hfb := firstb b hz
 have hx1 : b / 256 ^ (n - 1) < 256 := by rw [hn, ← hfb]; have := (E b)[0].toNat_lt; omega
 have hx0 : b / 256 ^ (n - 1) ≠ 0 := by
  rw [hn, E_size]
  have := (first_byte b h0).1
  omega
 obtain ⟨s, hs, hs1, hs2⟩ := lz8_spec ⟨b / 256 ^ (n - 1), hx1⟩ hx0
 obtain ⟨s, hs7⟩ := s
 simp only at hs hs1 hs2
 obtain ⟨hn0, hDn, hD128⟩ := scale_spec b s n hn h0 hs1 hs2
 have HFB : Hid ((E b)[0].toNat = b / 256 ^ (n - 1)) := by rw [Hid, hn]; exact hfb
 have HS := Lib.hid hs
 have HDN := Lib.hid hDn
 have HD128 := Lib.hid hD128
 have HLZ : Hid (∀ w, Calls Tryz.prog 190 #[.int .u8 ((E b)[0].toNat : Int)] w fun e w' => e = .returned (.int .i64 (s : Int)) ∧ w = w') := fun w => by
  have := lz8_c (E b)[0].toNat w (by have := (E b)[0].toNat_lt; omega)
  rw [HFB.out, HS.out] at this
  rw [HFB.out]
  exact this
 clear hfb hx1 hx0 hs hs1 hs2 hDn hD128
 go_enter Tryz.func163, Tryz.ntmps163
 go_wp2_with fail
 refine (compare_c a b _ (by omega) (by omega)).mono ?_
 rintro e w' ⟨rfl, rfl⟩
 go_wp2_with fail
 refine (HLZ.out _).mono ?_
 rintro e w' ⟨rfl, rfl⟩
 have hmk := run_mk (P := Tryz.prog) Tryz.underlying168 info_int (E b).size (by omega) (by omega)
 go_wp2
 clear hmk
 obtain ⟨bd, hbd⟩ : ∃ bd, bd = w.heap.size := ⟨_, rfl⟩
 have HBDE : Hid (w.heap.size ≤ bd) := Nat.le_of_eq hbd.symm
 have hblk0 := blk_digs w (E b).size
 have hbel0 := b1' w (.cells (Array.replicate (E b).size (Value.int .i64 0)) 3)
 generalize w.alloc (.cells (Array.replicate (E b).size (Value.int .i64 0)) 3) = w1 at hblk0 hbel0 ⊢
 rw [← hbd] at hblk0 ⊢
 clear hbd
 go_loopw [63] (fun x wr => ∃ k : Nat, k ≤ (E b).size ∧ x = .int .i64 k ∧ Blk wr bd 3 (i64s (digs (b * 2 ^ s % 256 ^ k) ((E b).size))) ∧ Below w.heap.size w wr) (fun x _ => (E b).size - (intOf x).toNat)
 case atStart => exact ⟨0, by omega, rfl, by rw [Nat.pow_zero, Nat.mod_one]; exact hblk0, hbel0⟩
 case round =>
  obtain ⟨k, hk, rfl, hblk, hbel⟩ := hrel
  by_cases hlt : k < (E b).size
  ·have hd := dgt_lt (E b) k
   have hfr := hblk.free k
   have hcell := digs_cell hblk k hlt
   obtain ⟨v0, hv0⟩ : ∃ v0, v0 = dgt (E b) k * 2 ^ s % 256 := ⟨_, rfl⟩
   have HV : Hid (bits BinOp.and IntKind.i64 (wrap64 ((dgt (E b) k : Int) * 2 ^ s)) 255 = (v0 : Int)) := by rw [Hid, hv0]; exact shl_val _ _ hd hs7
   have HV0 := Lib.hid hv0
   have hv256 : v0 < 256 := by rw [hv0]; exact Nat.mod_lt _ (by decide)
   clear hv0
   by_cases k0 : k = 0
   ·have hk0 : decide (0 < k) = false := decide_eq_false (by omega)
    have K0 := Lib.hid k0
    clear k0
    go_wp2_with fail
    refine (digit_c (E b) k _ (by omega) (by omega) (by omega)).mono ?_
    rintro e w' ⟨rfl, rfl⟩
    rw [Int.toNat_natCast]
    go_wp2
    go_roundw
    case rel =>
     rw [HV.out]
     refine ⟨k + 1, by omega, by go_num, ?_, hbel.setCell HBDE.out _⟩
     have := digs_put hblk k v0 hv256
     have k0 := K0.out
     have e0 : v0 = b * 2 ^ s / 256 ^ k % 256 := by rw [HV0.out, dgt_E, k0, shl_dig0, Nat.pow_zero, Nat.div_one]
     have e1 : setd (b * 2 ^ s % 256 ^ k) k v0 = b * 2 ^ s % 256 ^ (k + 1) := by rw [e0, setd_fill]
     rw [e1] at this
     exact this
    case measure => simp [intOf]; omega
   ·have hk0 : decide (0 < k) = true := decide_eq_true (by omega)
    have K0 : Hid (0 < k) := Nat.pos_of_ne_zero k0
    clear k0
    go_wp2_with fail
    refine (digit_c (E b) k _ (by omega) (by omega) (by omega)).mono ?_
    rintro e w' ⟨rfl, rfl⟩
    rw [Int.toNat_natCast]
    go_wp2
    rw [HV.out]
    have hb2 := digs_put hblk k v0 hv256
    replace hbel := hbel.setCell HBDE.out (p := ⟨bd, k, none⟩) (.int .i64 (v0 : Int))
    generalize wr.setCell ⟨bd, k, none⟩ (.int .i64 (v0 : Int)) = wx at hb2 hbel  ⊢
    clear hblk hfr hcell
    have hfr := hb2.free k
    have hcell := digs_cell hb2 k hlt
    rw [setd_dig _ _ _ _ hv256, if_pos rfl] at hcell
    have q1 : IntKind.i64.wrap ((k : Int) - 1) = (k : Int) - 1 := IntWalk.i64_in _ (by omega)
    have q2 : IntKind.i64.wrap (8 - (s : Int)) = 8 - (s : Int) := IntWalk.i64_in _ (by omega)
    refine wp_region_still_tail 12 (by kernel_rfl) (by kernel_rfl) ?_
    simp only [List.take_succ_cons, List.take_zero, List.drop_succ_cons, List.drop_zero]
    have k1 : 0 ≤ (k : Int) - 1 := by have := K0.out; omega
    repeat still_step
    still_call (digz_c (E b) ((k : Int) - 1) _ (by omega) k1 (by omega))
    repeat still_step
    refine wpStill_nil ?_
    change wpList _ _ _ _ _ wx.drew
    go_wp2
    go_roundw
    case rel =>
     rw [or_val b s k v0 hs7 K0.out HV0.out]
     refine ⟨k + 1, by omega, by go_num, ?_, (hbel.setCell HBDE.out _).drew⟩
     have := digs_put hb2 k (b * 2 ^ s / 256 ^ k % 256) (Nat.mod_lt _ (by decide))
     rw [setd_setd _ _ _ _ hv256, setd_fill] at this
     exact this
    case measure => simp [intOf]; omega
  ·obtain rfl : k = (E b).size := by omega
   obtain ⟨D, hDd⟩ : ∃ D, D = b * 2 ^ s := ⟨_, rfl⟩
   rw [Nat.mod_eq_of_lt (show b * 2 ^ s < 256 ^ (E b).size by have := HDN.out; rw [hn] at this; exact this)] at hblk
   obtain ⟨M, hM⟩ : ∃ M, M = (E a).size + 1 := ⟨_, rfl⟩
   have HM : Hid (((E a).size : Int) + 1 = (M : Int)) := by unfold Hid; omega
   have HMM := Lib.hid hM
   have hMb : M ≤ 129 := by omega
   have hMb2 : M = (E a).size + 1 := hM
   have hmk := run_mk (P := Tryz.prog) Tryz.underlying168 info_int M (by omega) (by omega)
   rw [← HM.out] at hmk
   clear hM hMb2 hlt hk
   go_wp2
   clear hmk
   rw [HM.out]
   obtain ⟨br, hbr⟩ : ∃ br, br = wr.heap.size := ⟨_, rfl⟩
   have HBRE : Hid (w.heap.size ≤ br) := by rw [Hid, hbr]; exact hbel.size
   have hne : bd ≠ br := by have := hblk.lt; omega
   have hblk0 := blk_digs wr M
   have hD := hblk.alloc (.cells (Array.replicate M (Value.int .i64 0)) 3)
   have hbel0 := hbel.alloc hbel.size (.cells (Array.replicate M (Value.int .i64 0)) 3)
   clear hblk hbel hblk0
   have hblk0 := blk_digs wr M
   generalize wr.alloc (.cells (Array.replicate M (Value.int .i64 0)) 3) = w2 at hblk0 hbel0 hD ⊢
   rw [← hbr] at hblk0 ⊢
   clear hbr
   go_loopw [97] (fun x wr => ∃ k : Nat, k ≤ M ∧ x = .int .i64 k ∧ Blk wr br 3 (i64s (digs (a * 2 ^ s % 256 ^ k) (M))) ∧ Blk wr bd 3 (i64s (digs (b * 2 ^ s) (E b).size)) ∧ Below w.heap.size w wr) (fun x _ => M - (intOf x).toNat)
   case atStart => exact ⟨0, by omega, rfl, by rw [Nat.pow_zero, Nat.mod_one]; exact hblk0, hD, hbel0⟩
   case round =>
    obtain ⟨k, hk, rfl, hblk, hD, hbel⟩ := hrel
    by_cases hlt : k < M
    ·have hd := dgt_lt (E a) k
     have hfr := hblk.free k
     have hcell := digs_cell hblk k hlt
     obtain ⟨v0, hv0⟩ : ∃ v0, v0 = dgt (E a) k * 2 ^ s % 256 := ⟨_, rfl⟩
     have HV : Hid (bits BinOp.and IntKind.i64 (wrap64 ((dgt (E a) k : Int) * 2 ^ s)) 255 = (v0 : Int)) := by rw [Hid, hv0]; exact shl_val _ _ hd hs7
     have HV0 := Lib.hid hv0
     have hv256 : v0 < 256 := by rw [hv0]; exact Nat.mod_lt _ (by decide)
     clear hv0
     by_cases k0 : k = 0
     ·have hk0 : decide (0 < k) = false := decide_eq_false (by omega)
      have K0 := Lib.hid k0
      clear k0
      go_wp2_with fail
      refine (digit_c (E a) k _ (by omega) (by omega) (by omega)).mono ?_
      rintro e w' ⟨rfl, rfl⟩
      rw [Int.toNat_natCast]
      go_wp2
      go_roundw
      case rel =>
       rw [HV.out]
       refine ⟨k + 1, by omega, by go_num, ?_, hD.other _ _ hne, hbel.setCell HBRE.out _⟩
       have := digs_put hblk k v0 hv256
       have k0 := K0.out
       have e0 : v0 = a * 2 ^ s / 256 ^ k % 256 := by rw [HV0.out, dgt_E, k0, shl_dig0, Nat.pow_zero, Nat.div_one]
       have e1 : setd (a * 2 ^ s % 256 ^ k) k v0 = a * 2 ^ s % 256 ^ (k + 1) := by rw [e0, setd_fill]
       rw [e1] at this
       exact this
      case measure => simp [intOf]; omega
     ·have hk0 : decide (0 < k) = true := decide_eq_true (by omega)
      have K0 : Hid (0 < k) := Nat.pos_of_ne_zero k0
      clear k0
      go_wp2_with fail
      refine (digit_c (E a) k _ (by omega) (by omega) (by omega)).mono ?_
      rintro e w' ⟨rfl, rfl⟩
      rw [Int.toNat_natCast]
      go_wp2
      rw [HV.out]
      have hb2 := digs_put hblk k v0 hv256
      replace hD := hD.other ⟨br, k, none⟩ (.int .i64 (v0 : Int)) hne
      replace hbel := hbel.setCell HBRE.out (p := ⟨br, k, none⟩) (.int .i64 (v0 : Int))
      generalize wr.setCell ⟨br, k, none⟩ (.int .i64 (v0 : Int)) = wx at hb2 hbel hD ⊢
      clear hblk hfr hcell
      have hfr := hb2.free k
      have hcell := digs_cell hb2 k hlt
      rw [setd_dig _ _ _ _ hv256, if_pos rfl] at hcell
      have q1 : IntKind.i64.wrap ((k : Int) - 1) = (k : Int) - 1 := IntWalk.i64_in _ (by omega)
      have q2 : IntKind.i64.wrap (8 - (s : Int)) = 8 - (s : Int) := IntWalk.i64_in _ (by omega)
      refine wp_region_still_tail 12 (by kernel_rfl) (by kernel_rfl) ?_
      simp only [List.take_succ_cons, List.take_zero, List.drop_succ_cons, List.drop_zero]
      have k1 : 0 ≤ (k : Int) - 1 := by have := K0.out; omega
      repeat still_step
      still_call (digz_c (E a) ((k : Int) - 1) _ (by omega) k1 (by omega))
      repeat still_step
      refine wpStill_nil ?_
      change wpList _ _ _ _ _ wx.drew
      go_wp2
      go_roundw
      case rel =>
       rw [or_val a s k v0 hs7 K0.out HV0.out]
       refine ⟨k + 1, by omega, by go_num, ?_, hD.other ⟨br, k, none⟩ _ hne, (hbel.setCell HBRE.out _).drew⟩
       have := digs_put hb2 k (a * 2 ^ s / 256 ^ k % 256) (Nat.mod_lt _ (by decide))
       rw [setd_setd _ _ _ _ hv256, setd_fill] at this
       exact this
      case measure => simp [intOf]; omega
    ·obtain rfl : M = k := by omega
     obtain ⟨A, hA⟩ : ∃ A, A = a * 2 ^ s := ⟨_, rfl⟩
     have hAM : a * 2 ^ s < 256 ^ M := by rw [HMM.out, Nat.pow_succ]; exact Nat.mul_lt_mul'' (E_lt a) (Nat.lt_of_le_of_lt (Nat.pow_le_pow_right (by decide) (show s ≤ 7 by omega)) (by decide))
     rw [Nat.mod_eq_of_lt hAM, ← hA] at hblk
     rw [← hDd] at hD
     have hsz : (E b).size ≤ (E a).size := (E_size_le b _).2 (Nat.lt_of_le_of_lt hle (E_lt a))
     obtain ⟨Q, hQ⟩ : ∃ Q, Q = (E a).size - (E b).size + 1 := ⟨_, rfl⟩
     have HQ : Hid (((E a).size : Int) - ((E b).size : Int) + 1 = (Q : Int)) := by unfold Hid; omega
     have HQ1 : Hid (((E a).size : Int) - ((E b).size : Int) = (Q : Int) - 1) := by unfold Hid; omega
     have HQQ := Lib.hid hQ
     have HDD := Lib.hid hDd
     have HAA := Lib.hid hA
     have HDlt : Hid (D < 256 ^ (E b).size) := by rw [Hid, hDd, ← hn]; exact HDN.out
     have HD1 : Hid (128 ≤ D / 256 ^ ((E b).size - 1)) := by rw [Hid, hDd, ← hn]; exact HD128.out
     have HAlt : Hid (A < D * 256 ^ Q) := by
      have g1 : 128 * 256 ^ ((E b).size - 1) ≤ D := by have := HD1.out; rw [Nat.le_div_iff_mul_le (p256 _)] at this; exact this
      have g2 : 128 * 256 ^ ((E b).size - 1) * 256 ^ Q ≤ D * 256 ^ Q := Nat.mul_le_mul_right _ g1
      rw [Nat.mul_assoc, ← Nat.pow_add, show (E b).size - 1 + Q = (E a).size by omega] at g2
      have g3 : a * 2 ^ s < 256 ^ (E a).size * 2 ^ s := Nat.mul_lt_mul_of_pos_right (E_lt a) (Nat.pow_pos (by decide))
      have g4 : 256 ^ (E a).size * 2 ^ s ≤ 256 ^ (E a).size * 128 := Nat.mul_le_mul_left _ (Nat.pow_le_pow_right (by decide) (show s ≤ 7 by omega))
      unfold Hid; rw [hA]; omega
     have hQ1 : 1 ≤ Q := by omega
     have hQn : Q + (E b).size = M := by have := HMM.out; omega
     have hmk := run_mk (P := Tryz.prog) Tryz.underlying106 info_u8 Q (by omega) (by omega)
     rw [← HQ.out] at hmk
     clear hA hDd hQ hAM hlt hk
     go_wp2
     clear hmk
     rw [HQ.out]
     obtain ⟨bq, hbq⟩ : ∃ bq, bq = wr.heap.size := ⟨_, rfl⟩
     have HBQE : Hid (w.heap.size ≤ bq) := by rw [Hid, hbq]; exact hbel.size
     have hnq1 : bd ≠ bq := by have := hD.lt; omega
     have hnq2 : br ≠ bq := by have := hblk.lt; omega
     have hq0 : Blk (wr.alloc (.cells (Array.replicate Q (Value.int .u8 0)) 5)) wr.heap.size 5 (u8s (List.replicate Q 0)) := by
      have := Blk.new wr (Array.replicate Q (Value.int .u8 0)) 5
      simpa [u8s, u8v] using this
     replace hD := hD.alloc (.cells (Array.replicate Q (Value.int .u8 0)) 5)
     replace hblk := hblk.alloc (.cells (Array.replicate Q (Value.int .u8 0)) 5)
     replace hbel := hbel.alloc hbel.size (.cells (Array.replicate Q (Value.int .u8 0)) 5)
     generalize wr.alloc (.cells (Array.replicate Q (Value.int .u8 0)) 5) = w3 at hD hblk hbel hq0 ⊢
     rw [← hbq] at hq0 ⊢
     clear hbq
     go_loopw [17] (fun x wr => ∃ (i X : Nat) (l : List UInt8) (z : Int), i ≤ Q ∧ x = .int .i64 z ∧ z = (i : Int) - 1 ∧ l.length = Q - i ∧ val l * (256 ^ i * D) + X = A ∧ X < D * 256 ^ i ∧ Blk wr bd 3 (i64s (digs D (E b).size)) ∧ Blk wr br 3 (i64s (digs X M)) ∧ Blk wr bq 5 (u8s (l ++ List.replicate i 0)) ∧ Below w.heap.size w wr) (fun x _ => (intOf x + 1).toNat)
     case atStart => exact ⟨Q, A, [], _, Nat.le_refl _, rfl, HQ1.out, by simp, by simp [val_nil], HAlt.out, hD, hblk, by simpa using hq0, hbel⟩
     case round =>
      clear hD hblk hq0 hbel
      obtain ⟨i, X, l, z, hi, rfl, hz1, hl, hval, hX, hD, hR, hq, hbel⟩ := hrel
      have HL := Lib.hid hl
      have HVAL := Lib.hid hval
      clear hl hval
      cases i with
      | succ j =>
       obtain rfl : z = (j : Int) := by omega
       clear hz1
       have hjn : j + (E b).size < M := by omega
       have hn0' : 0 < (E b).size := hz
       have HX := Lib.hid hX
       clear hX
       have c1 := digs_cell hR (j + (E b).size) hjn
       have c2 := digs_cell hR (j + (E b).size - 1) (by omega)
       have c3 := digs_cell hD ((E b).size - 1) (by omega)
       have q1 : IntKind.i64.wrap ((j : Int) + ((E b).size : Int)) = (j : Int) + ((E b).size : Int) := IntWalk.i64_in _ (by omega)
       have q2 : IntKind.i64.wrap ((j : Int) + ((E b).size : Int) - 1) = (j : Int) + ((E b).size : Int) - 1 := IntWalk.i64_in _ (by omega)
       have q3 : IntKind.i64.wrap (((E b).size : Int) - 1) = ((E b).size : Int) - 1 := IntWalk.i64_in _ (by omega)
       have q4 : ((j : Int) + ((E b).size : Int)).toNat = j + (E b).size := by omega
       have q5 : ((j : Int) + ((E b).size : Int) - 1).toNat = j + (E b).size - 1 := by omega
       have q6 : (((E b).size : Int) - 1).toNat = (E b).size - 1 := by omega
       have hdec : decide ((0 : Int) ≤ (j : Int)) = true := decide_eq_true (by omega)
       go_wp2_with fail
       have q7 : 0 ≤ (j : Int) + ((E b).size : Int) := by omega
       have q8 : (j : Int) + ((E b).size : Int) < (M : Int) := by omega
       have q9 : 0 ≤ (j : Int) + ((E b).size : Int) - 1 := by omega
       have q10 : (j : Int) + ((E b).size : Int) - 1 < (M : Int) := by omega
       have q11 : 0 ≤ ((E b).size : Int) - 1 := by omega
       have q12 : ((E b).size : Int) - 1 < ((E b).size : Int) := by omega
       have q13 : (1 : Int) ≤ (j : Int) + ((E b).size : Int) := by omega
       have q14 : (j : Int) + ((E b).size : Int) ≤ (M : Int) := by omega
       have q15 : (1 : Int) ≤ ((E b).size : Int) := by omega
       have q16 : 1 ≤ (E b).size := hz
       have hDt : D / 256 ^ ((E b).size - 1) < 256 := by
        rw [Nat.div_lt_iff_lt_mul (p256 _)]
        have := HDlt.out
        rw [show (E b).size = (E b).size - 1 + 1 by omega, Nat.pow_succ, Nat.mul_comm] at this
        exact this
       obtain ⟨u, hu⟩ : ∃ u, u = X / 256 ^ (j + (E b).size) % 256 := ⟨_, rfl⟩
       obtain ⟨v, hv⟩ : ∃ v, v = X / 256 ^ (j + (E b).size - 1) % 256 := ⟨_, rfl⟩
       obtain ⟨t, ht⟩ : ∃ t, t = D / 256 ^ ((E b).size - 1) % 256 := ⟨_, rfl⟩
       have HT1 : Hid (t = D / 256 ^ ((E b).size - 1)) := by rw [Hid, ht, Nat.mod_eq_of_lt hDt]
       have ht1 : 128 ≤ t := by have := HD1.out; have := HT1.out; omega
       have ht8 : t < 256 := by rw [ht]; exact Nat.mod_lt _ (by decide)
       have hu8 : u < 256 := by rw [hu]; exact Nat.mod_lt _ (by decide)
       have hv8 : v < 256 := by rw [hv]; exact Nat.mod_lt _ (by decide)
       have ht0 : ¬ t = 0 := by omega
       have cz : ((t : Int) == 0) = false := by rw [beq_eq_false_iff_ne]; omega
       rw [← hu] at c1
       rw [← hv] at c2
       rw [← ht] at c3
       have HU := Lib.hid hu
       have HV := Lib.hid hv
       clear hu hv ht hDt
       refine wp_region_still_tail 22 (by kernel_rfl) (by kernel_rfl) ?_
       simp only [List.take_succ_cons, List.take_zero, List.drop_succ_cons, List.drop_zero]
       repeat still_step
       refine wpStill_nil ?_
       change wpList _ _ _ _ _ wr.drew
       clear q1 q2 q3 q4 q5 q6 q7 q8 q9 q10 q11 q12 q13 q14 q15 q16
       go_wp2
       obtain ⟨G, hG⟩ : ∃ G, G = min ((u * 256 + v) / t) 255 := ⟨_, rfl⟩
       have HXW : Hid (X < 256 ^ (j + (E b).size - 1 + 2)) := by
        have g1 := HX.out
        have g2 : D * 256 ^ (j + 1) ≤ 256 ^ (E b).size * 256 ^ (j + 1) := Nat.mul_le_mul_right _ (Nat.le_of_lt HDlt.out)
        rw [← Nat.pow_add, show (E b).size + (j + 1) = j + (E b).size - 1 + 2 by omega] at g2
        unfold Hid; omega
       have HG1 : Hid (X < (G + 1) * (D * 256 ^ j)) := by
        have g1 := ld_guess X D j (E b).size hz (by have := HD1.out; omega) HX.out
        have g2 := dig_two X (j + (E b).size - 1) HXW.out
        rw [show j + (E b).size - 1 + 1 = j + (E b).size by omega, ← HU.out, ← HV.out] at g2
        rw [g2, ← HT1.out, ← hG] at g1
        exact g1
       have HU1 : Hid (X / 256 ^ (j + (E b).size) = u) := by
        rw [Hid, HU.out, Nat.mod_eq_of_lt]
        rw [Nat.div_lt_iff_lt_mul (p256 _), show 256 * 256 ^ (j + (E b).size) = 256 ^ (j + (E b).size - 1 + 2) by rw [show j + (E b).size - 1 + 2 = j + (E b).size + 1 by omega, Nat.pow_succ, Nat.mul_comm]]
        exact HXW.out
       have hGb : G ≤ 255 := by omega
       rw [guess_val u v t hu8 hv8 ht1 ht8, ← hG]
       clear hG cz ht0 ht1 ht8 hv8 HV HT1 HU HXW c1 c2 c3 hdec
       go_loopw [19, 20, 162] (fun c t i wr => ∃ k cc tt Y : Nat, k ≤ (E b).size ∧ cc ≤ 255 ∧ tt ≤ 1 ∧ i = .int .i64 k ∧ c = .int .i64 cc ∧ t = .int .i64 tt ∧ Hid (Y + G * (D % 256 ^ k) * 256 ^ j = X + (cc + tt) * 256 ^ (j + k)) ∧ Hid (Y / 256 ^ (j + (E b).size) = u) ∧ Blk wr bd 3 (i64s (digs D (E b).size)) ∧ Blk wr br 3 (i64s (digs Y M)) ∧ Blk wr bq 5 (u8s (l ++ List.replicate (j + 1) 0)) ∧ Below w.heap.size w wr) (fun _ _ i _ => (E b).size - (intOf i).toNat)
       case atStart => exact ⟨0, 0, 0, X, by omega, by omega, by omega, rfl, rfl, rfl, by unfold Hid; simp [Nat.mod_one], HU1, hD, hR, hq, hbel.drew⟩
       case round =>
        clear hD hR hq hbel
        obtain ⟨k, cc, tt, Y, hk, hcc, htt, rfl, rfl, rfl, HY, HYU, hD, hR, hq, hbel⟩ := hrel
        by_cases hlk : k < (E b).size
        ·have c1 := digs_cell hR (k + j) (by omega)
         have c2 := digs_cell hD k hlk
         have hfr := hR.free (k + j)
         obtain ⟨y, hy⟩ : ∃ y, y = Y / 256 ^ (k + j) % 256 := ⟨_, rfl⟩
         obtain ⟨d, hd⟩ : ∃ d, d = D / 256 ^ k % 256 := ⟨_, rfl⟩
         have hy8 : y < 256 := by rw [hy]; exact Nat.mod_lt _ (by decide)
         have hd8 : d < 256 := by rw [hd]; exact Nat.mod_lt _ (by decide)
         rw [← hy] at c1
         rw [← hd] at c2
         have HYY := Lib.hid hy
         have HDD2 := Lib.hid hd
         clear hy hd
         obtain ⟨m2, hm2⟩ : ∃ m2, m2 = G * d := ⟨_, rfl⟩
         have hmb : m2 ≤ 65025 := by rw [hm2]; exact Nat.le_trans (Nat.mul_le_mul hGb (show d ≤ 255 by omega)) (by decide)
         have hmI : (G : Int) * (d : Int) = (m2 : Int) := by rw [hm2, Int.natCast_mul]
         have HM2 := Lib.hid hm2
         clear hm2
         have hand : bits BinOp.and IntKind.i64 ((cc : Int) + (m2 : Int)) 255 = (((cc + m2) % 256 : Nat) : Int) := by rw [i64_and255]; omega
         obtain ⟨c0, hc0⟩ : ∃ c0, c0 = (cc + m2) % 256 := ⟨_, rfl⟩
         have hc8 : c0 < 256 := by omega
         rw [← hc0] at hand
         have HC0 := Lib.hid hc0
         clear hc0
         by_cases hneg : (y : Int) - (c0 : Int) - (tt : Int) < 0
         ·go_wp2
          go_roundw
          case rel =>
           obtain ⟨x, hx⟩ : ∃ x : Nat, (x : Int) = (y : Int) - (c0 : Int) - (tt : Int) + 256 := ⟨((y : Int) - (c0 : Int) - (tt : Int) + 256).toNat, by omega⟩
           have hx8 : x < 256 := by omega
           rw [← hx]
           have e := ld_sub X D Y j k G cc tt x 1 HY.out (by rw [← HDD2.out, ← HM2.out, ← HC0.out, Nat.add_comm j k, ← HYY.out]; omega)
           rw [← HDD2.out, ← HM2.out, Nat.add_comm j k] at e
           exact ⟨k + 1, (cc + m2) / 256, 1, setd Y (k + j) x, by omega, by omega, by omega, by go_num, vi (by omega), rfl, e, (setd_div Y (k + j) x _ hx8 (by omega)).trans HYU.out, hD.other _ _ hne, digs_put hR (k + j) x hx8, hq.other _ _ (Ne.symm hnq2), hbel.setCell HBRE.out _⟩
          case measure => simp [intOf]; omega
         ·go_wp2
          go_roundw
          case rel =>
           obtain ⟨x, hx⟩ : ∃ x : Nat, (x : Int) = (y : Int) - (c0 : Int) - (tt : Int) := ⟨((y : Int) - (c0 : Int) - (tt : Int)).toNat, by omega⟩
           have hx8 : x < 256 := by omega
           rw [← hx]
           have e := ld_sub X D Y j k G cc tt x 0 HY.out (by rw [← HDD2.out, ← HM2.out, ← HC0.out, Nat.add_comm j k, ← HYY.out]; omega)
           rw [← HDD2.out, ← HM2.out, Nat.add_comm j k] at e
           exact ⟨k + 1, (cc + m2) / 256, 0, setd Y (k + j) x, by omega, by omega, by omega, by go_num, vi (by omega), rfl, e, (setd_div Y (k + j) x _ hx8 (by omega)).trans HYU.out, hD.other _ _ hne, digs_put hR (k + j) x hx8, hq.other _ _ (Ne.symm hnq2), hbel.setCell HBRE.out _⟩
          case measure => simp [intOf]; omega
        ·obtain rfl : k = (E b).size := by omega
         clear hk hlk
         have c1 := digs_cell hR (j + (E b).size) hjn
         have hu9 : Y / 256 ^ (j + (E b).size) % 256 = u := by rw [HYU.out, Nat.mod_eq_of_lt hu8]
         rw [hu9] at c1
         clear hu9
         have HH0 : Hid ((Y : Int) + (((u : Int) - cc - tt) - u) * ((256 ^ (j + (E b).size) : Nat) : Int) = X - G * ((D * 256 ^ j : Nat) : Int)) := by
          refine ld_first Y X G (D * 256 ^ j) (256 ^ (j + (E b).size)) u cc tt ?_
          have := HY.out
          rw [Nat.mod_eq_of_lt HDlt.out, Nat.mul_assoc] at this
          exact this
         go_wp2
         clear c1 HY
         go_loopw [18, 23] (fun g tp wr => ∃ (G Y : Nat) (T : Int), G ≤ 255 ∧ -300 ≤ T ∧ T ≤ 300 ∧ g = .int .i64 G ∧ tp = .int .i64 T ∧ Hid ((Y : Int) + (T - u) * ((256 ^ (j + (E b).size) : Nat) : Int) = X - G * ((D * 256 ^ j : Nat) : Int)) ∧ Hid (X < (G + 1) * (D * 256 ^ j)) ∧ Hid (Y / 256 ^ (j + (E b).size) = u) ∧ Blk wr bd 3 (i64s (digs D (E b).size)) ∧ Blk wr br 3 (i64s (digs Y M)) ∧ Blk wr bq 5 (u8s (l ++ List.replicate (j + 1) 0)) ∧ Below w.heap.size w wr) (fun g _ _ => (intOf g).toNat)
         case atStart => exact ⟨G, Y, _, hGb, by omega, by omega, rfl, rfl, HH0.out, HG1.out, HYU.out, hD, hR, hq, hbel⟩
         case round =>
          clear hD hR hq hbel HG1 HH0 HYU hGb hcc htt
          obtain ⟨G', Y', T, hGb, hT1, hT2, rfl, rfl, HH, HG1, HYU, hD, hR, hq, hbel⟩ := hrel
          have HWM : Hid (D * 256 ^ j ≤ 256 ^ (j + (E b).size)) := by
           rw [Hid, Nat.pow_add, Nat.mul_comm]
           exact Nat.mul_le_mul_left _ (Nat.le_of_lt HDlt.out)
          by_cases hT : T < 0
          ·have HN : Hid (X < G' * (D * 256 ^ j)) := ld_neg Y' X G' _ _ u T HYU.out HH.out (p256 _) hT
           have hG0 : 0 < G' := by
            rcases Nat.eq_zero_or_pos G' with h | h
            ·exact absurd HN.out (by rw [h, Nat.zero_mul]; exact Nat.not_lt_zero _)
            ·exact h
           go_wp2
           go_loopw [24, 212] (fun c i wr => ∃ k cc Y2 : Nat, k ≤ (E b).size ∧ cc ≤ 1 ∧ i = .int .i64 k ∧ c = .int .i64 cc ∧ Hid (Y2 + cc * 256 ^ (j + k) = Y' + D % 256 ^ k * 256 ^ j) ∧ Hid (Y2 / 256 ^ (j + (E b).size) = u) ∧ Blk wr bd 3 (i64s (digs D (E b).size)) ∧ Blk wr br 3 (i64s (digs Y2 M)) ∧ Blk wr bq 5 (u8s (l ++ List.replicate (j + 1) 0)) ∧ Below w.heap.size w wr) (fun _ i _ => (E b).size - (intOf i).toNat)
           case atStart => exact ⟨0, 0, Y', by omega, by omega, rfl, rfl, by unfold Hid; simp [Nat.mod_one], HYU.out, hD, hR, hq, hbel⟩
           case round =>
            clear hD hR hq hbel
            obtain ⟨k, cc, Y2, hk, hcc, rfl, rfl, HY2, HYU2, hD, hR, hq, hbel⟩ := hrel
            by_cases hlk : k < (E b).size
            ·have c1 := digs_cell hR (k + j) (by omega)
             have c2 := digs_cell hD k hlk
             have hfr := hR.free (k + j)
             obtain ⟨y, hy⟩ : ∃ y, y = Y2 / 256 ^ (k + j) % 256 := ⟨_, rfl⟩
             obtain ⟨d, hd⟩ : ∃ d, d = D / 256 ^ k % 256 := ⟨_, rfl⟩
             have hy8 : y < 256 := by rw [hy]; exact Nat.mod_lt _ (by decide)
             have hd8 : d < 256 := by rw [hd]; exact Nat.mod_lt _ (by decide)
             rw [← hy] at c1
             rw [← hd] at c2
             have HYY := Lib.hid hy
             have HDD2 := Lib.hid hd
             clear hy hd
             obtain ⟨v, hv⟩ : ∃ v, v = cc + (y + d) := ⟨_, rfl⟩
             have HV := Lib.hid hv
             have hvb : v ≤ 600 := by omega
             have hvI : (cc : Int) + ((y : Int) + (d : Int)) = (v : Int) := by omega
             have hand : bits BinOp.and IntKind.i64 (v : Int) 255 = ((v % 256 : Nat) : Int) := by rw [i64_and255]; omega
             obtain ⟨v0, hv0⟩ : ∃ v0, v0 = v % 256 := ⟨_, rfl⟩
             rw [← hv0] at hand
             have HV0 := Lib.hid hv0
             have hv08 : v0 < 256 := by omega
             clear hv0 hv
             have q1 : IntKind.i64.wrap ((k : Int) + (j : Int)) = (k : Int) + (j : Int) := IntWalk.i64_in _ (by omega)
             have q2 : ((k : Int) + (j : Int)).toNat = k + j := by omega
             have q3 : 0 ≤ (k : Int) + (j : Int) := by omega
             have q4 : (k : Int) + (j : Int) < (M : Int) := by omega
             have q5 : (k : Int) < ((E b).size : Int) := by omega
             have q6 : IntKind.i64.wrap ((y : Int) + (d : Int)) = (y : Int) + (d : Int) := IntWalk.i64_in _ (by omega)
             have q7 : IntKind.i64.wrap (v : Int) = (v : Int) := IntWalk.i64_in _ (by omega)
             go_wp2_with fail
             refine wp_region_still_tail 13 (by kernel_rfl) (by kernel_rfl) ?_
             simp only [List.take_succ_cons, List.take_zero, List.drop_succ_cons, List.drop_zero]
             repeat still_step
             refine wpStill_nil ?_
             change wpList _ _ _ _ _ wr.drew
             clear q1 q2 q3 q4 q5 q6 q7
             go_wp2
             go_roundw
             case rel =>
              have e := ld_add Y' D Y2 j k cc HY2.out
              rw [Nat.add_comm j k, ← HDD2.out, ← HYY.out, ← HV.out, ← HV0.out] at e
              exact ⟨k + 1, v / 256, setd Y2 (k + j) v0, by omega, by omega, by go_num, vi (by omega), e, (setd_div Y2 (k + j) v0 _ hv08 (by omega)).trans HYU2.out, (hD.other _ _ hne), digs_put hR (k + j) v0 hv08, (hq.other _ _ (Ne.symm hnq2)), (hbel.drew.setCell HBRE.out _)⟩
             case measure => simp [intOf]; omega
            ·obtain rfl : k = (E b).size := by omega
             go_wp2
             go_roundw
             case rel =>
              have hb := HY2.out
              rw [Nat.mod_eq_of_lt HDlt.out] at hb
              have e := ld_back Y' Y2 X G' (D * 256 ^ j) (256 ^ (j + (E b).size)) u cc T HH.out hG0 hb
              exact ⟨G' - 1, Y2, T + cc, by omega, by omega, by omega, vi (by omega), rfl, e, by rw [Hid, show G' - 1 + 1 = G' by omega]; exact HN.out, HYU2, hD, hR, hq, hbel⟩
             case measure => simp [intOf]; omega
          ·obtain ⟨rfl, HX1, HX2⟩ := ld_exit Y' X G' _ _ u T HYU.out HH.out HG1.out HWM.out (p256 _) hT
           have HX1 := Lib.hid HX1
           have HX2 := Lib.hid HX2
           have HL2 := HL.out
           have hfr := hR.free (j + (E b).size)
           have c1 := digs_cell hR (j + (E b).size) hjn
           have hfq := hq.free (Q - 1 - j)
           have cq : wr.cell? ⟨bq, Q - 1 - j, none⟩ = some (.int .u8 0) := by
            rw [hq.cell, show Q - 1 - j = l.length by omega]
            simp [u8s, u8v]
           have hne2 : bq ≠ br := Ne.symm hnq2
           go_wp2
           go_roundw
           case rel =>
            have e8 : (UInt8.ofNat G').toNat = G' := by rw [UInt8.toNat_ofNat', Nat.mod_eq_of_lt (by omega)]
            have ev : Value.int .u8 (G' : Int) = u8v (UInt8.ofNat G') := by rw [u8v, e8]
            rw [ev]
            refine ⟨j, X - G' * (D * 256 ^ j), l ++ [UInt8.ofNat G'], (j : Int) - 1, by omega, rfl, rfl, by rw [List.length_append, List.length_singleton]; omega, ?_, ?_, (hD.other _ _ hne).other _ _ hnq1, ?_, ?_, (hbel.setCell HBRE.out _).setCell HBQE.out _⟩
            ·rw [val_snoc, e8]
             exact ld_next (val l) A D X G' j HVAL.out HX1.out
            ·have h1 := HG1.out
             have h2 := HX1.out
             rw [Nat.add_mul, Nat.one_mul] at h1
             omega
            ·have h1 := digs_put hR (j + (E b).size) 0 (by decide)
             rw [setd_top Y' _ u HYU.out hu8, HX2.out] at h1
             exact h1.other _ _ hnq2
            ·have h1 := (hq.other ⟨br, j + (E b).size, none⟩ (.int .i64 0) hne2).set (Q - 1 - j) (u8v (UInt8.ofNat G'))
             have e9 : (l ++ List.replicate (j + 1) (0 : UInt8)).set (Q - 1 - j) (UInt8.ofNat G') = (l ++ [UInt8.ofNat G']) ++ List.replicate j 0 := by
              rw [show Q - 1 - j = l.length by omega, List.replicate_succ, List.set_append_right _ _ (Nat.le_refl _)]
              simp
             rw [u8s_set, e9] at h1
             exact h1
           case measure => simp [intOf] <;> omega
      | zero =>
       have hz2 : z < 0 := by omega
       have hzd : decide (0 ≤ z) = false := decide_eq_false (by omega)
       clear hz1
       have hXD : X < D := by simpa using hX
       have HXD := Lib.hid hXD
       have hmk := run_mk (P := Tryz.prog) Tryz.underlying106 info_u8 (E b).size (by omega) (by omega)
       clear hX hXD hi
       go_wp2
       clear hmk
       obtain ⟨bt, hbt⟩ : ∃ bt, bt = wr.heap.size := ⟨_, rfl⟩
       have HBTE : Hid (w.heap.size ≤ bt) := by rw [Hid, hbt]; exact hbel.size
       have hnt1 : br ≠ bt := by have := hR.lt; omega
       have hnt2 : bq ≠ bt := by have := hq.lt; omega
       have ht0 : Blk (wr.alloc (.cells (Array.replicate (E b).size (Value.int .u8 0)) 5)) wr.heap.size 5 (u8s (List.replicate (E b).size 0)) := by
        have := Blk.new wr (Array.replicate (E b).size (Value.int .u8 0)) 5
        simpa [u8s, u8v] using this
       replace hR := hR.alloc (.cells (Array.replicate (E b).size (Value.int .u8 0)) 5)
       replace hq := hq.alloc (.cells (Array.replicate (E b).size (Value.int .u8 0)) 5)
       replace hbel := hbel.alloc hbel.size (.cells (Array.replicate (E b).size (Value.int .u8 0)) 5)
       generalize wr.alloc (.cells (Array.replicate (E b).size (Value.int .u8 0)) 5) = w4 at hR hq hbel ht0 ⊢
       rw [← hbt] at ht0 ⊢
       clear hbt hD
       go_loopw [259] (fun i wr => ∃ (k : Nat) (t : List UInt8), k ≤ (E b).size ∧ i = .int .i64 k ∧ t.length = k ∧ Hid (val t = X / 2 ^ s % 256 ^ k) ∧ Blk wr br 3 (i64s (digs X M)) ∧ Blk wr bq 5 (u8s (l ++ List.replicate 0 0)) ∧ Blk wr bt 5 (u8s (List.replicate ((E b).size - k) 0 ++ t)) ∧ Below w.heap.size w wr) (fun i _ => (E b).size - (intOf i).toNat)
       case atStart => exact ⟨0, [], by omega, rfl, rfl, by unfold Hid; simp [val_nil, Nat.mod_one], hR, hq, by simpa using ht0, hbel⟩
       case round =>
        clear hR hq hbel ht0
        obtain ⟨k, t, hk, rfl, htl, hvt, hR, hq, ht, hbel⟩ := hrel
        have HTL := Lib.hid htl
        clear htl
        by_cases hlk : k < (E b).size
        ·have c1 := digs_cell hR k (by omega)
         have c2 := digs_cell hR (k + 1) (by omega)
         have hcell := front_cell ht hlk rfl
         have hfr := ht.free ((E b).size - 1 - k)
         obtain ⟨y, hy⟩ : ∃ y, y = X / 256 ^ k % 256 := ⟨_, rfl⟩
         obtain ⟨d, hd⟩ : ∃ d, d = X / 256 ^ (k + 1) % 256 := ⟨_, rfl⟩
         have hy8 : y < 256 := by rw [hy]; exact Nat.mod_lt _ (by decide)
         have hd8 : d < 256 := by rw [hd]; exact Nat.mod_lt _ (by decide)
         rw [← hy] at c1
         rw [← hd] at c2
         have HYY := Lib.hid hy
         have HDD2 := Lib.hid hd
         clear hy hd
         have hk1 : (k : Int) + 1 < (M : Int) := by omega
         have hor : bits BinOp.or IntKind.i64 (y : Int) ((d : Int) * 256) = ((y ||| d * 256 : Nat) : Int) := by
          have := i64_or y (d * 256) (by omega) (by omega)
          rw [Int.natCast_mul] at this
          exact this
         go_wp2
         go_roundw
         case rel =>
          rw [byteI ((y ||| d * 256) / 2 ^ s) _ (by rw [Int.natCast_ediv]; simp)]
          refine ⟨k + 1, UInt8.ofNat ((y ||| d * 256) / 2 ^ s % 256) :: t, by omega, by go_num, by rw [List.length_cons, HTL.out], ?_, hR.other _ _ hnt1, hq.other _ _ hnt2, front_set ht hlk rfl _, hbel.setCell HBTE.out _⟩
          rw [Hid, val_byte_cons _ k t HTL.out, hvt.out, HYY.out, HDD2.out, shr_dig X s k (by omega), mod_succ]
         case measure => simp [intOf]; omega
        ·obtain rfl : k = (E b).size := by omega
         have hv2 : val t = X / 2 ^ s := by rw [hvt.out, Nat.mod_eq_of_lt (Nat.lt_of_le_of_lt (Nat.div_le_self _ _) (Nat.lt_trans HXD.out HDlt.out))]
         obtain ⟨r1, r2'⟩ := ld_end (val l) a b s X (by have := HVAL.out; rw [Nat.pow_zero, Nat.one_mul, HAA.out, HDD.out] at this; exact this) (by rw [← HDD.out]; exact HXD.out)
         have HE1 := Lib.hid r1
         have HE2 : Hid (val t = a % b) := by rw [Hid, hv2, r2']
         have hrq : Row wr bq 0 l := by
          have := hq.row
          simpa using this
         have hrt : Row wr bt 0 t := by
          have := ht.row
          simpa using this
         have hlQ : l.length = Q := by have := HL.out; omega
         clear hk hlk hv2 r1 r2' hvt hq ht hR
         have k1 := trimmed_c bq 0 Q l wr (by omega) (by omega) hrq
         rw [hlQ, HE1.out] at k1
         have k2 := trimmed_c bt 0 (E b).size t wr (by rw [HTL.out]; omega) (by omega) hrt
         rw [HTL.out, HE2.out] at k2
         have K1 := Lib.hid k1
         have K2 := Lib.hid k2
         clear k1 k2 hrq hrt hlQ
         go_wp2_with fail
         refine K1.out.mono ?_
         rintro e w' ⟨rfl, rfl⟩
         go_wp2_with fail
         refine K2.out.mono ?_
         rintro e w' ⟨rfl, rfl⟩
         go_wp2
         go_ret2
         exact ⟨rfl, hbel⟩

set_option maxHeartbeats 400000 in
/-- natural.divided, all sizes -/
theorem dividedA_c (a b : Nat) (w : World) (ha : a < 256 ^ 128) (hb : b < 256 ^ 128) (h0 : 0 < b) :
  Calls Tryz.prog 163 #[.string (E a), .string (E b)] w fun e w' => e = .returned (.tuple #[.string (E (a / b)), .string (E (a % b))]) ∧ Below w.heap.size w w' := by
 by_cases h8 : (E a).size ≤ 8
 ·exact divided_c a b w ((E_size_le a 8).1 h8) hb h0
 ·by_cases hlt : a < b
  ·have h1 := sz a ha
   have h2 := sz b hb
   have hc := cmp_neg a b hlt
   have H1 := Lib.hid (Nat.div_eq_of_lt hlt)
   have H2 := Lib.hid (Nat.mod_eq_of_lt hlt)
   clear ha hb h0 hlt
   go_enter Tryz.func163, Tryz.ntmps163
   go_wp2_with fail
   refine (compare_c a b _ (by omega) (by omega)).mono ?_
   rintro e w' ⟨rfl, rfl⟩
   go_wp2
   go_ret2
   exact ⟨r2 (vE H1.out.symm) (vE H2.out.symm), Below.refl _ _⟩
  ·exact ldiv_c a b w ha (by omega) hb h0 (by omega)

set_option maxHeartbeats 400000 in
theorem divmodA_c (a b : Nat) (w : World) (ha : a < 256 ^ 128) (hb : b < 256 ^ 128) (h0 : 0 < b) :
  Calls Tryz.prog 131 #[.string (E a), .string (E b)] w fun e w' => e = .returned (.tuple #[.string (E (a / b)), .string (E (a % b)), .int .i64 0]) ∧ Below w.heap.size w w' := by
 have HA := Lib.hid ha
 have HB := Lib.hid hb
 have H0 := Lib.hid h0
 have hz := nzE h0
 clear ha hb h0
 go_enter Tryz.func131, Tryz.ntmps131
 go_wp2_with fail
 refine (validE_c a _ HA.out).mono ?_
 rintro e w' ⟨rfl, rfl⟩
 go_wp2_with fail
 refine (validE_c b _ HB.out).mono ?_
 rintro e w' ⟨rfl, rfl⟩
 go_wp2_with fail
 refine (dividedA_c a b _ HA.out HB.out H0.out).mono ?_
 rintro e w1 ⟨rfl, hb1⟩
 go_wp2
 go_ret3
 exact ⟨rfl, hb1⟩
end Go.Proofs.YtbcgimgkcdpjcaaGreat
end

section
namespace Go.Proofs.YtbcgimgkcdpjcaaGreat
open Go.RowKit Go.Shelf

/-- a row stays where another row grows -/
theorem own_keep2 {w w' : World} {b : Nat} {e : TypeId} {s n : Nat} {v : Value} {x : List Value} {o : Option Nat} (h : w.ownsRow b e s v n x) (hg : w.grownBy w' o) (hd : ∀ g, v.ownBlock = some g → o ≠ some g) : w'.ownsRow b e s v n x :=
 own_keep h fun g hv => hg.block g (own_lt h hv).1 (fun e' => hd g hv e'.symm)

set_option maxHeartbeats 4000000 in
theorem sBounds_c (N : NSta) (C K : Nat) (v1 v2 v3 : Value) (w : World) (hl6 : N.vars.length ≤ 6)
  (hb : ∀ w', Below w.heap.size w w' → Calls Tryz.prog 53 #[.agg #[.string (E C), .string (E K)], .agg #[v1, v2, v3]] w' (BPost w' (N.lims C K))) :
  Calls Tryz.prog 20 #[.agg #[.string (E C), .string (E K)], .agg #[v1, v2, v3]] w (B2Post w (N.lims C K)) := by
 obtain ⟨i0, hi0, hz00, hz01, hz02⟩ := info_parts info_nat
 have HI0 := Lib.hid hi0
 have HA0 := Lib.hid hz00
 have HB0 := Lib.hid hz01
 have HC0 := Lib.hid hz02
 clear hi0 hz00 hz01 hz02
 have HB := Lib.hid hb
 have hR := blk2a w #[.string (E C), .string (E K)] #[v1, v2, v3] 24 29
 have hP := blk2b w #[.string (E C), .string (E K)] #[v1, v2, v3] 24 29
 have hBW := b2 w (.cells #[.string (E C), .string (E K)] 24) (.cells #[v1, v2, v3] 29)
 clear hb
 have hRc0 := hR.cell 0
 have hRf0 := hR.free 0
 have hRc1 := hR.cell 1
 have hRf1 := hR.free 1
 have hPc0 := hP.cell 0
 have hPf0 := hP.free 0
 have hPc1 := hP.cell 1
 have hPf1 := hP.free 1
 have hPc2 := hP.cell 2
 have hPf2 := hP.free 2
 go_enter Tryz.func20, Tryz.ntmps20
 go_wp2_with fail
 refine (HB.out _ hBW).mono ?_
 rintro e wF ⟨lv, rfl, hLO, hbF⟩
 clear hRc0 hRf0 hRc1 hRf1
 clear hPc0 hPf0 hPc1 hPf1 hPc2 hPf2
 replace hBW := bt hBW hbF
 clear hbF hR hP
 obtain ⟨la, lc, rfl⟩ := hLO.form
 obtain ⟨n, hn⟩ : ∃ n, n = (N.lims C K).length := ⟨_, rfl⟩
 have HN := Lib.hid hn
 have HNV : Hid (n = N.vars.length) := by rw [Hid, hn, NSta.lims, List.length_map]
 have hn6 : n ≤ 6 := by have := HNV.out; omega
 rw [← hn] at hLO ⊢
 clear hn
 go_wp2
 go_loopw [9, 10, 24] (fun v9 v10 i wr => ∃ k : Nat, k ≤ n ∧ i = .int .i64 k ∧ RRel wF ((N.lims C K).take k) v9 v10 wr) (fun _ _ i _ => n - (intOf i).toNat)
 case atStart => exact ⟨0, by omega, rfl, ⟨World.ownsRow_nil _ _ _ _, World.ownsRow_nil _ _ _ _, fun g h => by simp [Value.ownBlock] at h, Below.refl _ _⟩⟩
 case round =>
  obtain ⟨k, hk, rfl, hI⟩ := hrel
  obtain ⟨wq, hwq⟩ : ∃ wq, wq = wr := ⟨_, rfl⟩
  subst hwq
  have hbr := hI.b
  by_cases hlt : k < n
  ·have hkl : k < N.vars.length := by rw [← HNV.out]; exact hlt
   have hkL : k < (N.lims C K).length := by rw [← HN.out]; exact hlt
   have HST := Lib.hid (lims_step N C K k hkl)
   have HLE := Lib.hid (lims_at N C K k hkl hkL)
   obtain ⟨bl, rfl, hbl, x1, x2⟩ := (LmOwn.after hLO hbr).at_ hkL
   rw [HLE.out] at x1 x2
   have h0k : (0 : Int) ≤ (k : Int) := by omega
   have h1k : (k : Int) < (n : Int) := by omega
   obtain ⟨l1', hl1⟩ : ∃ x, x = (lim N.ord C K N.vars[k]).1 := ⟨_, rfl⟩
   obtain ⟨l2', hl2⟩ : ∃ x, x = (lim N.ord C K N.vars[k]).2 := ⟨_, rfl⟩
   have HST1 : Hid (((N.lims C K).take (k + 1)).map (·.1) = ((N.lims C K).take k).map (·.1) ++ [l1']) := by rw [Hid, HST.out, List.map_append, hl1]; rfl
   have HST2 : Hid (((N.lims C K).take (k + 1)).map (·.2) = ((N.lims C K).take k).map (·.2) ++ [l2']) := by rw [Hid, HST.out, List.map_append, hl2]; rfl
   rw [← hl1] at x1
   rw [← hl2] at x2
   clear hl1 hl2 HST HLE
   have hla : (((N.lims C K).take k).map (·.1)).length = k := by rw [List.length_map, List.length_take, NSta.lims, List.length_map]; omega
   have hlb : (((N.lims C K).take k).map (·.2)).length = k := by rw [List.length_map, List.length_take, NSta.lims, List.length_map]; omega
   have hOA0 : wq.ownsRow wF.heap.size 22 1 u9 k (strs (((N.lims C K).take k).map (·.1))) := by have h : wq.ownsRow _ _ _ _ _ _ := hI.a; rw [hla] at h; exact h
   have hOB0 : wq.ownsRow wF.heap.size 22 1 u10 k (strs (((N.lims C K).take k).map (·.2))) := by have h : wq.ownsRow _ _ _ _ _ _ := hI.z; rw [hlb] at h; exact h
   have HDJ := Lib.hid hI.d
   have HLA := Lib.hid hla
   have HLB := Lib.hid hlb
   clear hI hla hlb
   generalize ((N.lims C K).take k).map (·.1) = LA at hOA0 HST1 HLA
   generalize ((N.lims C K).take k).map (·.2) = LB at hOB0 HST2 HLB
   have hT := Blk.new wq #[.string (E l1'), .string (E l2')] 103
   have hbq := b1 wq (.cells #[.string (E l1'), .string (E l2')] 103)
   have hOA := own_after hOA0 hbq
   have hOB := own_after hOB0 hbq
   have hBx := bt hbr hbq
   go_upto_region 8 with fail
   clear x1 x2 hbl hOA0 hOB0 hbr hbq hLO
   generalize wq.alloc (.cells #[.string (E l1'), .string (E l2')] 103) = wv at hT hOA hOB hBx ⊢
   obtain ⟨g12, hg12⟩ : ∃ g, wq.heap.size = g := ⟨_, rfl⟩
   rw [hg12] at hT ⊢
   clear hg12
   replace hT : Blk wv g12 103 [.string (E l1'), .string (E l2')] := hT
   have hC : CA wv [(⟨g12, 0, none⟩, .string (E l1')), (⟨g12, 1, none⟩, .string (E l2'))] := CA.cons hT.lt (hT.cell 0) (CA.cons hT.lt (hT.cell 1) (CA.nil _))
   have hsx := hBx.size
   have HNA : Hid (∀ x ∈ ([(⟨g12, 0, none⟩, .string (E l1')), (⟨g12, 1, none⟩, .string (E l2'))] : List (Addr × Value)), u9.ownBlock ≠ some x.1.block) := by
    have q1 := own_ne hOA hT (by decide)
    intro x hx
    simp only [List.mem_cons, List.not_mem_nil, or_false] at hx
    rcases hx with rfl | rfl
    ·exact q1
    ·exact q1
   have HNB : Hid (∀ x ∈ ([(⟨g12, 0, none⟩, .string (E l1')), (⟨g12, 1, none⟩, .string (E l2'))] : List (Addr × Value)), u10.ownBlock ≠ some x.1.block) := by
    have q1 := own_ne hOB hT (by decide)
    intro x hx
    simp only [List.mem_cons, List.not_mem_nil, or_false] at hx
    rcases hx with rfl | rfl
    ·exact q1
    ·exact q1
   clear hT
   go_region_held3 (fun w' => w'.cell? ⟨g12, 0, none⟩ = some (.string (E l1')) ∧ w'.cell? ⟨g12, 1, none⟩ = some (.string (E l2'))) ((refine CA.k2 ?_; repeat (first | (with_reducible exact hCb) | (with_reducible exact hCa) | (with_reducible exact hC) | (with_reducible refine CA.drew ?_) | (with_reducible refine CA.alloc ?_ _))))
    (first | (refine step_append_lies _ (by rfl) (.tmp 28) (.tmp 31) _ (by rfl) wF.heap.size 22 i0 _ 1 16 Tryz.underlying30 HI0.out HA0.out HB0.out HC0.out rfl (by omega) u9 k (strs LA) (by rfl) (by repeat (first | (with_reducible exact hOA) | (with_reducible refine World.ownsRow.drew ?_) | (with_reducible refine World.ownsRow.alloc ?_ _))) _ 1 1 [.string (E l1')] (by rfl) rfl (Blk.cells (T := 22) (by first | exact blkN (by simp) | exact (blkN (by simp)).alloc _)) (by simp [Value.oneCell']) (by omega) (by simp only [maxLen]; omega) (by omega) (by simp; omega) _ rfl ?_; intro ga ca wa hownA hgrowA hatA hltA; have hOBa : wa.ownsRow wF.heap.size 22 1 u10 k (strs LB) := own_keep2 (by repeat (first | (with_reducible exact hOB) | (with_reducible refine World.ownsRow.drew ?_) | (with_reducible refine World.ownsRow.alloc ?_ _))) hgrowA (fun g hv e => HDJ.out g e hv); have hCa : CA wa [(⟨g12, 0, none⟩, .string (E l1')), (⟨g12, 1, none⟩, .string (E l2'))] := CA.grown (by repeat (first | (with_reducible exact hC) | (with_reducible refine CA.drew ?_) | (with_reducible refine CA.alloc ?_ _))) hgrowA HNA.out; have hBa : Below wF.heap.size wF wa := Below.grown (by repeat (first | (with_reducible exact hBx) | (with_reducible refine Below.drew ?_) | (with_reducible refine Below.alloc ?_ (by first | omega | (simp; omega)) _))) hgrowA (by simp; omega) (fun g hg => (own_lt hOA hg).2); have hsa := hgrowA.size; have hsb := hBa.size; have HDA : Hid (∀ g, u10.ownBlock = some g → g ≠ ga) := (fun g hg e => by subst e; rcases hatA with h | h; exact HDJ.out _ h hg; exact absurd (own_lt hOB hg).1 (by first | omega | (simp at h; omega))); (try (have hLB0 : Blk wa wv.heap.size 22 [.string (E l2')] := Blk.grown (by first | exact (blkN (by simp)).alloc _) hgrowA (fun e => by have := (own_lt hOA e).1; omega))); (try (have hLB1 : Blk wa (wv.heap.size + 1) 22 [.string (E l2')] := Blk.grown (by first | exact blkN (by simp)) hgrowA (fun e => by have := (own_lt hOA e).1; omega)))) | (refine step_append_lies _ (by rfl) (.tmp 33) (.tmp 36) _ (by rfl) wF.heap.size 22 i0 _ 1 16 Tryz.underlying30 HI0.out HA0.out HB0.out HC0.out rfl (by omega) u10 k (strs LB) (by rfl) (by repeat (first | (with_reducible exact hOBa) | (with_reducible refine World.ownsRow.drew ?_) | (with_reducible refine World.ownsRow.alloc ?_ _))) _ 1 1 [.string (E l2')] (by rfl) rfl (Blk.cells (T := 22) (by first | exact blkN (by simp) | exact hLB0 | exact hLB1)) (by simp [Value.oneCell']) (by omega) (by simp only [maxLen]; omega) (by omega) (by have := hBa.size; simp; omega) _ rfl ?_; intro gb cb wb hownB hgrowB hatB hltB; have hAb : wb.ownsRow wF.heap.size 22 1 (.slice (some ⟨ga, 0, none⟩) (k + 1) ca) (k + 1) (strs LA ++ [.string (E l1')]) := own_keep2 (by repeat (first | (with_reducible exact hownA) | (with_reducible refine World.ownsRow.drew ?_) | (with_reducible refine World.ownsRow.alloc ?_ _))) hgrowB (fun g hv e => HDA.out g e (by have e1 : ga = g := (by simpa [Value.ownBlock] using hv); exact e1.symm)); have hCb : CA wb [(⟨g12, 0, none⟩, .string (E l1')), (⟨g12, 1, none⟩, .string (E l2'))] := CA.grown (by repeat (first | (with_reducible exact hCa) | (with_reducible refine CA.drew ?_) | (with_reducible refine CA.alloc ?_ _))) hgrowB HNB.out; have hBb : Below wF.heap.size wF wb := Below.grown (by repeat (first | (with_reducible exact hBa) | (with_reducible refine Below.drew ?_) | (with_reducible refine Below.alloc ?_ (by have := hBa.size; first | omega | (simp; omega)) _))) hgrowB (by have := hBa.size; simp; omega) (fun g hg => (own_lt hOBa hg).2)))
   all_goals
    have HDB : Hid (∀ g, (Value.slice (some ⟨ga, 0, none⟩) (k + 1) ca).ownBlock = some g → (Value.slice (some ⟨gb, 0, none⟩) (k + 1) cb).ownBlock ≠ some g) := by
     intro g h1 h2
     have e1 : ga = g := by simpa [Value.ownBlock] using h1
     have e2 : gb = g := by simpa [Value.ownBlock] using h2
     have hlA := (own_lt hownA h1).1
     rcases hatB with h | h
     ·exact HDA.out gb h (e2.trans e1.symm)
     ·first | omega | (simp at h; omega)
    have hRA : NOwn wb wF.heap.size (.slice (some ⟨ga, 0, none⟩) (k + 1) ca) (LA ++ [l1']) := by rw [NOwn, List.length_append, HLA.out, ← strs_app]; exact hAb
    have hRB : NOwn wb wF.heap.size (.slice (some ⟨gb, 0, none⟩) (k + 1) cb) (LB ++ [l2']) := by rw [NOwn, List.length_append, HLB.out, ← strs_app]; exact hownB
    rw [show LA ++ [l1'] = ((N.lims C K).take (k + 1)).map (·.1) by rw [HST1.out]] at hRA
    rw [show LB ++ [l2'] = ((N.lims C K).take (k + 1)).map (·.2) by rw [HST2.out]] at hRB
    clear hAb hownB hownA hatA hatB hgrowA hgrowB hltA hltB hCa hCb
    go_wp2
    go_roundw
    case rel => exact ⟨k + 1, by omega, by go_num, ⟨hRA, hRB, HDB.out, hBb⟩⟩
    case measure => simp [intOf]; omega
  ·obtain rfl : n = k := by omega
   have HTK : Hid ((N.lims C K).take n = N.lims C K) := List.take_of_length_le (by rw [← HN.out]; omega)
   rw [HTK.out] at hI
   have hszF := hBW.size
   go_wp2
   go_ret3
   exact ⟨_, _, rfl, own_mono hI.a hszF, own_mono hI.z hszF, bt hBW hI.b⟩
end Go.Proofs.YtbcgimgkcdpjcaaGreat
end

section
namespace Go.Proofs.YtbcgimgkcdpjcaaGreat
open Go.RowKit Go.Shelf

theorem two64 {a b : Nat} (ha : a < 256 ^ 64) (hb : b < 256 ^ 64) : a + b < 256 ^ 128 := by
 have : (256 : Nat) ^ 64 + 256 ^ 64 ≤ 256 ^ 128 := by decide
 omega

theorem CA.g5 {w : World} {a0 a1 a2 a3 a4 : Addr} {v0 v1 v2 v3 v4 : Value} (h : CA w [(a0, v0), (a1, v1), (a2, v2), (a3, v3), (a4, v4)]) :
  (∀ x : GW w, (Proofs.YtbcgimgkcdpjcaaGreat.gw x).cell? a0 = some v0) ∧ (∀ x : GW w, (Proofs.YtbcgimgkcdpjcaaGreat.gw x).cell? a1 = some v1) ∧ (∀ x : GW w, (Proofs.YtbcgimgkcdpjcaaGreat.gw x).cell? a2 = some v2) ∧ (∀ x : GW w, (Proofs.YtbcgimgkcdpjcaaGreat.gw x).cell? a3 = some v3) ∧ (∀ x : GW w, (Proofs.YtbcgimgkcdpjcaaGreat.gw x).cell? a4 = some v4) :=
 ⟨fun x => (h.after (gw_below x)).k5.1, fun x => (h.after (gw_below x)).k5.2.1, fun x => (h.after (gw_below x)).k5.2.2.1, fun x => (h.after (gw_below x)).k5.2.2.2.1, fun x => (h.after (gw_below x)).k5.2.2.2.2⟩

set_option maxHeartbeats 4000000 in
theorem sat_big (C K cha chb : ByteArray) (s1 s2 s3 xa ya xb yb : Option Addr) (m1 m2 m3 d1 d2 d3 na pa ma qa nb pb mb qb : Nat) (w : World)
  (HF : ∀ w', Below w.heap.size w w' → Calls Tryz.prog 8 #[.agg #[.string C, .string K, .slice s1 m1 d1, .slice s2 m2 d2, .slice s3 m3 d3, .slice xa na pa, .string cha, .slice ya ma qa, .slice xb nb pb, .string chb, .slice yb mb qb]] w' fun e w'' => e = .returned (.bool false) ∧ Below w'.heap.size w' w'') :
  Calls Tryz.prog 7 #[.agg #[.string C, .string K, .slice s1 m1 d1, .slice s2 m2 d2, .slice s3 m3 d3, .slice xa na pa, .string cha, .slice ya ma qa, .slice xb nb pb, .string chb, .slice yb mb qb]] w fun e w' => e = .returned (.bool true) ∧ Below w.heap.size w w' := by
 have HFF := Lib.hid HF
 have hP := Blk.new w #[.string C, .string K, .slice s1 m1 d1, .slice s2 m2 d2, .slice s3 m3 d3, .slice xa na pa, .string cha, .slice ya ma qa, .slice xb nb pb, .string chb, .slice yb mb qb] 35
 have hBW := b1 w (.cells #[.string C, .string K, .slice s1 m1 d1, .slice s2 m2 d2, .slice s3 m3 d3, .slice xa na pa, .string cha, .slice ya ma qa, .slice xb nb pb, .string chb, .slice yb mb qb] 35)
 clear HF
 have hPc0 := hP.cell 0
 have hPf0 := hP.free 0
 have hPc1 := hP.cell 1
 have hPf1 := hP.free 1
 have hPc2 := hP.cell 2
 have hPf2 := hP.free 2
 have hPc3 := hP.cell 3
 have hPf3 := hP.free 3
 have hPc4 := hP.cell 4
 have hPf4 := hP.free 4
 have hPc5 := hP.cell 5
 have hPf5 := hP.free 5
 have hPc6 := hP.cell 6
 have hPf6 := hP.free 6
 have hPc7 := hP.cell 7
 have hPf7 := hP.free 7
 have hPc8 := hP.cell 8
 have hPf8 := hP.free 8
 have hPc9 := hP.cell 9
 have hPf9 := hP.free 9
 have hPc10 := hP.cell 10
 have hPf10 := hP.free 10
 go_enter Tryz.func7, Tryz.ntmps7
 go_wp2_with fail
 refine (HFF.out _ hBW).mono ?_
 rintro e w2 ⟨rfl, hb2⟩
 clear hPc0 hPf0 hPc1 hPf1 hPc2 hPf2 hPc3 hPf3 hPc4 hPf4 hPc5 hPf5 hPc6 hPf6 hPc7 hPf7 hPc8 hPf8 hPc9 hPf9 hPc10 hPf10
 go_wp2_with fail
 refine (awake_c _).mono ?_
 rintro e w3 ⟨rfl, hb3⟩
 go_wp2
 go_ret
 exact ⟨rfl, bt (bt hBW hb2) hb3⟩

set_option maxHeartbeats 4000000 in
theorem sat_err (C K cha chb : ByteArray) (k : Nat) (s1 s2 s3 xa ya xb yb : Option Addr) (m1 m2 m3 d1 d2 d3 na pa ma qa nb pb mb qb : Nat) (w : World) (hk : k ≠ 0)
  (HF : ∀ w', Below w.heap.size w w' → Calls Tryz.prog 8 #[.agg #[.string C, .string K, .slice s1 m1 d1, .slice s2 m2 d2, .slice s3 m3 d3, .slice xa na pa, .string cha, .slice ya ma qa, .slice xb nb pb, .string chb, .slice yb mb qb]] w' fun e w'' => e = .returned (.bool true) ∧ Below w'.heap.size w' w'')
  (H1 : ∀ w', Below w.heap.size w w' → Calls Tryz.prog 13 #[.agg #[.string C, .string K], .agg #[.slice s1 m1 d1, .slice s2 m2 d2, .slice s3 m3 d3], .agg #[.slice xa na pa, .string cha, .slice ya ma qa], .agg #[.slice xb nb pb, .string chb, .slice yb mb qb]] w' fun e w'' => e = .returned (.tuple #[.slice none 0 0, .int .i64 k]) ∧ Below w'.heap.size w' w'') :
  Calls Tryz.prog 7 #[.agg #[.string C, .string K, .slice s1 m1 d1, .slice s2 m2 d2, .slice s3 m3 d3, .slice xa na pa, .string cha, .slice ya ma qa, .slice xb nb pb, .string chb, .slice yb mb qb]] w fun e w' => e = .returned (.bool true) ∧ Below w.heap.size w w' := by
 have HFF := Lib.hid HF
 have HH1 := Lib.hid H1
 have hkb : ((k : Int) != 0) = true := by rw [bne_iff_ne]; omega
 clear HF H1
 have hP := Blk.new w #[.string C, .string K, .slice s1 m1 d1, .slice s2 m2 d2, .slice s3 m3 d3, .slice xa na pa, .string cha, .slice ya ma qa, .slice xb nb pb, .string chb, .slice yb mb qb] 35
 have hBW := b1 w (.cells #[.string C, .string K, .slice s1 m1 d1, .slice s2 m2 d2, .slice s3 m3 d3, .slice xa na pa, .string cha, .slice ya ma qa, .slice xb nb pb, .string chb, .slice yb mb qb] 35)
 obtain ⟨gp, hgp⟩ : ∃ g, w.heap.size = g := ⟨_, rfl⟩
 have HGP := Lib.hid hgp
 go_enter Tryz.func7, Tryz.ntmps7
 go_wp2_with fail
 refine (HFF.out _ hBW).mono ?_
 rintro e w2 ⟨rfl, hb2⟩
 replace hP := hP.after hb2
 replace hBW := bt hBW hb2
 clear hb2
 replace hP : Blk w2 w.heap.size 35 [.string C, .string K, .slice s1 m1 d1, .slice s2 m2 d2, .slice s3 m3 d3, .slice xa na pa, .string cha, .slice ya ma qa, .slice xb nb pb, .string chb, .slice yb mb qb] := hP
 rw [hgp] at hP
 clear hgp
 have hPc0 := hP.cell 0
 have hPf0 := hP.free 0
 have hPc1 := hP.cell 1
 have hPf1 := hP.free 1
 have hPc2 := hP.cell 2
 have hPf2 := hP.free 2
 have hPc3 := hP.cell 3
 have hPf3 := hP.free 3
 have hPc4 := hP.cell 4
 have hPf4 := hP.free 4
 have hPc5 := hP.cell 5
 have hPf5 := hP.free 5
 have hPc6 := hP.cell 6
 have hPf6 := hP.free 6
 have hPc7 := hP.cell 7
 have hPf7 := hP.free 7
 have hPc8 := hP.cell 8
 have hPf8 := hP.free 8
 have hPc9 := hP.cell 9
 have hPf9 := hP.free 9
 have hPc10 := hP.cell 10
 have hPf10 := hP.free 10
 go_wp2_with fail
 refine (HH1.out _ hBW).mono ?_
 rintro e w3 ⟨rfl, hb3⟩
 go_wp2_with fail
 refine (awake_c _).mono ?_
 rintro e w5 ⟨rfl, hb5⟩
 go_wp2
 go_ret
 exact ⟨rfl, bt (bt hBW hb3) hb5⟩

set_option maxHeartbeats 8000000 in
theorem sat_ok (N : NSta) (cn kn : Nat) (L : List Int) (C K cha chb : ByteArray) (s1 s2 s3 xa ya xb yb : Option Addr) (m1 m2 m3 d1 d2 d3 na pa ma qa nb pb mb qb : Nat) (w : World) (hm : NOk N) (h0 : N.chk = 0) (hcn : cn < 256 ^ 8) (hkn : kn < 256 ^ 8) (hLn : L.length = N.vars.length) (hLs : ∀ z ∈ L, z.natAbs < 256 ^ 64)
  (himg : N.imgs L = N.eqs.map (·.tgt)) (hC : C = E cn) (hK : K = E kn)
  (hlim : ∀ (j : Nat) (h : j < N.vars.length) (h2 : j < L.length), L[j].natAbs < 2 * (lim N.ord cn kn N.vars[j]).1 ∧ (N.vars[j] = 0 → 0 ≤ L[j] ∧ L[j].natAbs < (lim N.ord cn kn N.vars[j]).1))
  (hS : NAt w (.slice s1 m1 d1) (.slice s2 m2 d2) (.slice s3 m3 d3) N)
  (HF : ∀ w', Below w.heap.size w w' → Calls Tryz.prog 8 #[.agg #[.string C, .string K, .slice s1 m1 d1, .slice s2 m2 d2, .slice s3 m3 d3, .slice xa na pa, .string cha, .slice ya ma qa, .slice xb nb pb, .string chb, .slice yb mb qb]] w' fun e w'' => e = .returned (.bool true) ∧ Below w'.heap.size w' w'')
  (HB : ∀ w', Below w.heap.size w w' → Calls Tryz.prog 20 #[.agg #[.string C, .string K], .agg #[.slice s1 m1 d1, .slice s2 m2 d2, .slice s3 m3 d3]] w' (B2Post w' (N.lims cn kn)))
  (H1 : ∀ w', Below w.heap.size w w' → Calls Tryz.prog 13 #[.agg #[.string C, .string K], .agg #[.slice s1 m1 d1, .slice s2 m2 d2, .slice s3 m3 d3], .agg #[.slice xa na pa, .string cha, .slice ya ma qa], .agg #[.slice xb nb pb, .string chb, .slice yb mb qb]] w' (XPost w' (some L))) :
  Calls Tryz.prog 7 #[.agg #[.string C, .string K, .slice s1 m1 d1, .slice s2 m2 d2, .slice s3 m3 d3, .slice xa na pa, .string cha, .slice ya ma qa, .slice xb nb pb, .string chb, .slice yb mb qb]] w fun e w' => e = .returned (.bool true) ∧ Below w.heap.size w w' := by
 have HFF := Lib.hid HF
 have HH1 := Lib.hid H1
 have HBD := Lib.hid HB
 have HM := Lib.hid hm
 have HC0 := Lib.hid h0
 have HCN := Lib.hid hcn
 have HKN := Lib.hid hkn
 have HLN := Lib.hid hLn
 have HLS := Lib.hid hLs
 have HIMG := Lib.hid himg
 have HLIM := Lib.hid hlim
 have HS0 := Lib.hid hS
 have HN2 : Hid (m2 = N.vars.length) := by have h := RAt.len hS.v; rw [Hid, h]; simp [NSta.s]
 have HN3 : Hid (m3 = N.eqs.length) := by have h := RAt.len hS.e; rw [Hid, h]; simp [NSta.s]
 have l2 : m2 ≤ 6 := by rw [HN2.out]; exact hm.nv
 have l3 : m3 ≤ 6 := by rw [HN3.out]; exact hm.ne
 clear HF H1 HB hm h0 hcn hkn himg hLn hLs hS hC hK hlim
 have hP := Blk.new w #[.string C, .string K, .slice s1 m1 d1, .slice s2 m2 d2, .slice s3 m3 d3, .slice xa na pa, .string cha, .slice ya ma qa, .slice xb nb pb, .string chb, .slice yb mb qb] 35
 have hBW := b1 w (.cells #[.string C, .string K, .slice s1 m1 d1, .slice s2 m2 d2, .slice s3 m3 d3, .slice xa na pa, .string cha, .slice ya ma qa, .slice xb nb pb, .string chb, .slice yb mb qb] 35)
 obtain ⟨gp, hgp⟩ : ∃ g, w.heap.size = g := ⟨_, rfl⟩
 have HGP := Lib.hid hgp
 go_enter Tryz.func7, Tryz.ntmps7
 go_wp2_with fail
 refine (HFF.out _ hBW).mono ?_
 rintro e w2 ⟨rfl, hb2⟩
 replace hP := hP.after hb2
 replace hBW := bt hBW hb2
 clear hb2
 replace hP : Blk w2 w.heap.size 35 [.string C, .string K, .slice s1 m1 d1, .slice s2 m2 d2, .slice s3 m3 d3, .slice xa na pa, .string cha, .slice ya ma qa, .slice xb nb pb, .string chb, .slice yb mb qb] := hP
 rw [hgp] at hP
 clear hgp
 have hPc0 := hP.cell 0
 have hPf0 := hP.free 0
 have hPc1 := hP.cell 1
 have hPf1 := hP.free 1
 have hPc2 := hP.cell 2
 have hPf2 := hP.free 2
 have hPc3 := hP.cell 3
 have hPf3 := hP.free 3
 have hPc4 := hP.cell 4
 have hPf4 := hP.free 4
 have hPc5 := hP.cell 5
 have hPf5 := hP.free 5
 have hPc6 := hP.cell 6
 have hPf6 := hP.free 6
 have hPc7 := hP.cell 7
 have hPf7 := hP.free 7
 have hPc8 := hP.cell 8
 have hPf8 := hP.free 8
 have hPc9 := hP.cell 9
 have hPf9 := hP.free 9
 have hPc10 := hP.cell 10
 have hPf10 := hP.free 10
 go_wp2_with fail
 refine (HH1.out _ hBW).mono ?_
 rintro e w3 ⟨lv, rfl, hLO, hb3⟩
 clear hPc0 hPf0 hPc1 hPf1 hPc2 hPf2 hPc3 hPf3 hPc4 hPf4 hPc5 hPf5 hPc6 hPf6 hPc7 hPf7 hPc8 hPf8 hPc9 hPf9 hPc10 hPf10
 have hLz := hLO.zs
 clear hLO
 obtain ⟨a4, c4, rfl⟩ := hLz.form
 have HLL : Hid (L.length = m2) := by rw [Hid, HLN.out, HN2.out]
 rw [HLL.out] at hLz ⊢
 replace hP := hP.after hb3
 replace hBW := bt hBW hb3
 clear hb3
 have HIM := Lib.hid (Images_c N L _ _ _ _ _ HM.out (HS0.out.after hBW) hLz HLS.out HLN.out HC0.out)
 have hPc0 := hP.cell 0
 have hPf0 := hP.free 0
 have hPc1 := hP.cell 1
 have hPf1 := hP.free 1
 have hPc2 := hP.cell 2
 have hPf2 := hP.free 2
 have hPc3 := hP.cell 3
 have hPf3 := hP.free 3
 have hPc4 := hP.cell 4
 have hPf4 := hP.free 4
 have hPc5 := hP.cell 5
 have hPf5 := hP.free 5
 have hPc6 := hP.cell 6
 have hPf6 := hP.free 6
 have hPc7 := hP.cell 7
 have hPf7 := hP.free 7
 have hPc8 := hP.cell 8
 have hPf8 := hP.free 8
 have hPc9 := hP.cell 9
 have hPf9 := hP.free 9
 have hPc10 := hP.cell 10
 have hPf10 := hP.free 10
 go_wp2_with fail
 refine HIM.out.mono ?_
 rintro e w4 ⟨iv, rfl, hIO, hb4⟩
 clear hPc0 hPf0 hPc1 hPf1 hPc2 hPf2 hPc3 hPf3 hPc4 hPf4 hPc5 hPf5 hPc6 hPf6 hPc7 hPf7 hPc8 hPf8 hPc9 hPf9 hPc10 hPf10
 have hIs := hIO.ss
 clear hIO HIM
 rw [HIMG.out] at hIs
 obtain ⟨a7, c7, rfl⟩ := RAt.form hIs
 have HIL : Hid (((N.eqs.map (·.tgt)).map E).length = m3) := by rw [Hid, List.length_map, List.length_map, HN3.out]
 rw [HIL.out] at hIs ⊢
 replace hP := hP.after hb4
 replace hLz := hLz.after hb4
 replace hBW := bt hBW hb4
 clear hb4
 have hPc0 := hP.cell 0
 have hPf0 := hP.free 0
 have hPc1 := hP.cell 1
 have hPf1 := hP.free 1
 have hPc2 := hP.cell 2
 have hPf2 := hP.free 2
 have hPc3 := hP.cell 3
 have hPf3 := hP.free 3
 have hPc4 := hP.cell 4
 have hPf4 := hP.free 4
 have hPc5 := hP.cell 5
 have hPf5 := hP.free 5
 have hPc6 := hP.cell 6
 have hPf6 := hP.free 6
 have hPc7 := hP.cell 7
 have hPf7 := hP.free 7
 have hPc8 := hP.cell 8
 have hPf8 := hP.free 8
 have hPc9 := hP.cell 9
 have hPf9 := hP.free 9
 have hPc10 := hP.cell 10
 have hPf10 := hP.free 10
 go_wp2_with fail
 refine (HBD.out _ hBW).mono ?_
 rintro e w5 ⟨mv, rv, rfl, hMO, hRO, hb5⟩
 clear hPc0 hPf0 hPc1 hPf1 hPc2 hPf2 hPc3 hPf3 hPc4 hPf4 hPc5 hPf5 hPc6 hPf6 hPc7 hPf7 hPc8 hPf8 hPc9 hPf9 hPc10 hPf10
 have hMs := hMO.ss
 clear hMO hRO
 obtain ⟨a8, c8, rfl⟩ := RAt.form hMs
 have HML : Hid ((((N.lims cn kn).map (·.1)).map E).length = m2) := by rw [Hid, List.length_map, List.length_map, NSta.lims, List.length_map, HN2.out]
 rw [HML.out] at hMs ⊢
 replace hP := hP.after hb5
 replace hLz := hLz.after hb5
 replace hIs := SsAt.after hIs hb5
 replace hBW := bt hBW hb5
 clear hb5
 have hPc0 := hP.cell 0
 have hPf0 := hP.free 0
 have hPc1 := hP.cell 1
 have hPf1 := hP.free 1
 have hPc2 := hP.cell 2
 have hPf2 := hP.free 2
 have hPc3 := hP.cell 3
 have hPf3 := hP.free 3
 have hPc4 := hP.cell 4
 have hPf4 := hP.free 4
 have hPc5 := hP.cell 5
 have hPf5 := hP.free 5
 have hPc6 := hP.cell 6
 have hPf6 := hP.free 6
 have hPc7 := hP.cell 7
 have hPf7 := hP.free 7
 have hPc8 := hP.cell 8
 have hPf8 := hP.free 8
 have hPc9 := hP.cell 9
 have hPf9 := hP.free 9
 have hPc10 := hP.cell 10
 have hPf10 := hP.free 10
 go_wp2
 clear hPc0 hPf0 hPc1 hPf1 hPc2 hPf2 hPc3 hPf3 hPc4 hPf4 hPc5 hPf5 hPc6 hPf6 hPc7 hPf7 hPc8 hPf8 hPc9 hPf9 hPc10 hPf10
 go_loopw [10] (fun i wr => ∃ k : Nat, k ≤ m3 ∧ i = .int .i64 k ∧ Below w5.heap.size w5 wr) (fun i _ => m3 - (intOf i).toNat)
 case atStart => exact ⟨0, by omega, rfl, Below.refl _ _⟩
 case round =>
  obtain ⟨k, hk, rfl, hbr⟩ := hrel
  obtain ⟨wq, hwq⟩ : ∃ wq, wq = wr := ⟨_, rfl⟩
  subst hwq
  have hBW1 := bt hBW hbr
  have hP1 := hP.after hbr
  by_cases hlt : k < m3
  ·have hkl : k < N.eqs.length := by rw [← HN3.out]; exact hlt
   have hki : k < ((N.eqs.map (·.tgt)).map E).length := by rw [HIL.out]; exact hlt
   have hS1 := HS0.out.after hBW1
   obtain ⟨b, o, tv, rfl, hbl, x1, x2, x3, hTs⟩ := NAt.eat hS1 hkl
   obtain ⟨b7, o7, rfl, hbl7, i1'⟩ := SsAt.at_ (SsAt.after hIs hbr) hki
   rw [show ((N.eqs.map (·.tgt)).map E)[k] = E (N.eqs[k]'hkl).tgt by simp] at i1'
   generalize (N.eqs[k]'hkl).tgt = qt at x2 i1'
   have h0k : (0 : Int) ≤ (k : Int) := by omega
   have h1k : (k : Int) < (m3 : Int) := by omega
   have h2 := eqE (a := qt) rfl
   have h1 := eqT (a := qt) rfl
   have hP1l := hP1.lt
   have g1 := gcl (a := ⟨b7, o7 + k, none⟩) hbl7 i1'
   have g2 := gcl (a := ⟨b, o + k * 3 + 1, none⟩) hbl x2
   clear hTs hS1 x1 x3
   have hP1c0 := hP1.cell 0
   have hP1f0 := hP1.free 0
   have hP1c1 := hP1.cell 1
   have hP1f1 := hP1.free 1
   have hP1c2 := hP1.cell 2
   have hP1f2 := hP1.free 2
   have hP1c3 := hP1.cell 3
   have hP1f3 := hP1.free 3
   have hP1c4 := hP1.cell 4
   have hP1f4 := hP1.free 4
   have hP1c5 := hP1.cell 5
   have hP1f5 := hP1.free 5
   have hP1c6 := hP1.cell 6
   have hP1f6 := hP1.free 6
   have hP1c7 := hP1.cell 7
   have hP1f7 := hP1.free 7
   have hP1c8 := hP1.cell 8
   have hP1f8 := hP1.free 8
   have hP1c9 := hP1.cell 9
   have hP1f9 := hP1.free 9
   have hP1c10 := hP1.cell 10
   have hP1f10 := hP1.free 10
   have hP1g0 := hP1.gcell 0
   have hP1g1 := hP1.gcell 1
   have hP1g2 := hP1.gcell 2
   have hP1g3 := hP1.gcell 3
   have hP1g4 := hP1.gcell 4
   have hP1g5 := hP1.gcell 5
   have hP1g6 := hP1.gcell 6
   have hP1g7 := hP1.gcell 7
   have hP1g8 := hP1.gcell 8
   have hP1g9 := hP1.gcell 9
   have hP1g10 := hP1.gcell 10
   go_upto_region 13 with fail
   go_wp2_with fail
   refine wp_region_gw (by kernel_rfl) (by kernel_rfl) ?_
   repeat (go_big_quiet_step (first | (fail)))
   refine wpQuiet_nil ?_
   rintro w9 ⟨xw9, rfl⟩
   have hb9 := gw_below xw9
   generalize gw xw9 = w9 at hb9
   go_wp2
   go_roundw
   case rel => exact ⟨k + 1, by omega, by go_num, bt hbr hb9⟩
   case measure => simp [intOf]; omega
  ·have hIs1 := SsAt.after hIs hbr
   have hLz1 := hLz.after hbr
   have hMs1 := SsAt.after hMs hbr
   clear hLz hMs hIs hIs1
   go_wp2
   go_loopw [11] (fun i wr => ∃ k : Nat, k ≤ m2 ∧ i = .int .i64 k ∧ Below wq.heap.size wq wr) (fun i _ => m2 - (intOf i).toNat)
   case atStart => exact ⟨0, by omega, rfl, Below.refl _ _⟩
   case round =>
    clear hk hlt
    obtain ⟨k, hk, rfl, hbs⟩ := hrel
    obtain ⟨wu, hwu⟩ : ∃ wu, wu = wr := ⟨_, rfl⟩
    subst hwu
    have hBW2 := bt hBW1 hbs
    by_cases hlt : k < m2
    ·have hkl : k < N.vars.length := by rw [← HN2.out]; exact hlt
     have hkL : k < L.length := by rw [HLL.out]; exact hlt
     have hkM : k < (((N.lims cn kn).map (·.1)).map E).length := by rw [HML.out]; exact hlt
     have hS1 := HS0.out.after hBW2
     have hP2 := hP1.after hbs
     obtain ⟨bv, ov, rfl, hbv, v1⟩ := NAt.vat hS1 hkl
     obtain ⟨bz, oz, rfl, hbz, z1, z2⟩ := (hLz1.after hbs).at_ hkL
     obtain ⟨bm, om, rfl, hbm, y1⟩ := SsAt.at_ (SsAt.after hMs1 hbs) hkM
     rw [show (((N.lims cn kn).map (·.1)).map E)[k] = E (lim N.ord cn kn (N.vars[k]'hkl)).1 by simp [NSta.lims]] at y1
     obtain ⟨hl1, hl2⟩ := HLIM.out k hkl hkL
     have hls := HLS.out _ (List.getElem_mem hkL)
     have hmk : (lim N.ord cn kn (N.vars[k]'hkl)).1 < 256 ^ 64 := by
      unfold lim
      split
      ·exact Nat.lt_of_lt_of_le (ord_lt HM.out) (by decide)
      ·exact Nat.lt_of_lt_of_le (lt_mul3 HCN.out HKN.out (HM.out.v _ (List.getElem_mem hkl))).2 (by decide)
     generalize (lim N.ord cn kn (N.vars[k]'hkl)).1 = mk at y1 hl1 hl2 hmk
     generalize (N.vars[k]'hkl) = vb at v1 hl2
     generalize (L[k]'hkL) = lz at z1 z2 hl1 hl2 hls
     have h0k : (0 : Int) ≤ (k : Int) := by omega
     have h1k : (k : Int) < (m2 : Int) := by omega
     have HAD : Hid (∀ w, Calls Tryz.prog 21 #[.string (E mk), .string (E mk)] w fun e w' => e = .returned (.tuple #[.string (E (mk + mk)), .int .i64 0]) ∧ Below w.heap.size w w') := fun w => add_c mk mk w (lt64 hmk) (lt64 hmk) (two64 hmk hmk)
     obtain ⟨mm, hmm⟩ : ∃ m, m = mk + mk := ⟨_, rfl⟩
     have hmz : mm < 256 ^ 128 := by rw [hmm]; exact two64 hmk hmk
     rw [← hmm] at HAD
     obtain ⟨q1, hq1⟩ : ∃ q : Int, q = cmpN lz.natAbs mm := ⟨_, rfl⟩
     have HC1 : Hid (∀ w, Calls Tryz.prog 22 #[.string (E lz.natAbs), .string (E mm)] w fun e w' => e = .returned (.int .i64 q1) ∧ w = w') := fun w => by
      rw [hq1]; exact cmp_c _ _ w (lt64 hls) hmz
     have hd1 : decide (0 ≤ q1) = false := decide_eq_false (by rw [hq1]; have := cmp_neg lz.natAbs mm (by omega); omega)
     clear hq1 hmm hmz
     have hC : CA wu [(⟨gp, 3, none⟩, .slice (some ⟨bv, ov, none⟩) m2 d2), (⟨bv, ov + k, none⟩, .string (E vb)), (⟨bz, oz + k * 2, none⟩, .bool (sg lz)), (⟨bz, oz + k * 2 + 1, none⟩, .string (E lz.natAbs)), (⟨bm, om + k, none⟩, .string (E mk))] := CA.cons hP2.lt (hP2.cell 3) (CA.cons hbv v1 (CA.cons hbz z1 (CA.cons hbz z2 (CA.cons hbm y1 (CA.nil _)))))
     have g1 := gcl (a := ⟨bm, om + k, none⟩) hbm y1
     clear hS1 hP2 v1 z1 z2 hbv hbz
     go_upto_region 18 with fail
     go_wp2_with fail
     refine wp_region_gw (by kernel_rfl) (by kernel_rfl) ?_
     repeat (go_big_quiet_step (first | (go_at_call 21; exact gw_of (HAD.out _))))
     refine wpQuiet_nil ?_
     rintro w9 ⟨xw9, rfl⟩
     have hb9 := gw_below xw9
     generalize gw xw9 = w9 at hb9
     replace hC := hC.after hb9
     clear g1 y1 hbm HAD
     have hG := CA.g5 hC
     obtain ⟨g0, g1, g2, g3, g4⟩ := hG
     clear hC
     go_upto_region 19 with fail
     by_cases hv0 : vb = 0
     ·obtain ⟨hl3, hl4⟩ := hl2 hv0
      obtain ⟨q2, hq2⟩ : ∃ q : Int, q = cmpN lz.natAbs mk := ⟨_, rfl⟩
      have HC2 : Hid (∀ w, Calls Tryz.prog 22 #[.string (E lz.natAbs), .string (E mk)] w fun e w' => e = .returned (.int .i64 q2) ∧ w = w') := fun w => by
       rw [hq2]; exact cmp_c _ _ w (lt64 hls) (lt64 hmk)
      have hd2 : decide (0 ≤ q2) = false := decide_eq_false (by rw [hq2]; have := cmp_neg lz.natAbs mk hl4; omega)
      have hsg : sg lz = false := sg_of_nonneg hl3
      have hzv := zE hv0
      clear hq2 hl1 hl2 hl3 hl4 hls hmk hv0
      go_wp2_with fail
      refine wp_region_gw (by kernel_rfl) (by kernel_rfl) ?_
      repeat (go_big_quiet_step (first | (go_at_call 22; with_reducible exact gw_same (HC1.out _)) | (go_at_call 22; with_reducible exact gw_same (HC2.out _))))
      refine wpQuiet_nil ?_
      rintro w10 ⟨xw10, rfl⟩
      have hb10 := gw_below xw10
      generalize gw xw10 = w10 at hb10
      go_wp2
      go_roundw
      case rel => exact ⟨k + 1, by omega, by go_num, bt (bt hbs hb9) hb10⟩
      case measure => simp [intOf]; omega
     ·have hzv := nzE (Nat.pos_of_ne_zero hv0)
      clear hl1 hl2 hls hmk hv0
      go_wp2_with fail
      refine wp_region_gw (by kernel_rfl) (by kernel_rfl) ?_
      repeat (go_big_quiet_step (first | (go_at_call 22; with_reducible exact gw_same (HC1.out _))))
      refine wpQuiet_nil ?_
      rintro w10 ⟨xw10, rfl⟩
      have hb10 := gw_below xw10
      generalize gw xw10 = w10 at hb10
      go_wp2
      go_roundw
      case rel => exact ⟨k + 1, by omega, by go_num, bt (bt hbs hb9) hb10⟩
      case measure => simp [intOf]; omega
    ·go_wp2_with fail
     refine (awake_c _).mono ?_
     rintro e w8 ⟨rfl, hb8⟩
     go_wp2
     go_ret
     exact ⟨rfl, bt hBW2 hb8⟩
end Go.Proofs.YtbcgimgkcdpjcaaGreat
end

section
namespace Go.Proofs.YtbcgimgkcdpjcaaGreat
open Go.RowKit Go.WideShapes Go.ChangeShapes Go.ChangeAt Go.Joins Go.Deep
open Go.ChangeMaps (open_string shut_string)

theorem quo_all {N : NSta} {C K ca cb : Nat} {F : List Nat} {X Y : List Int} (h : Two N C K ca cb F X Y) : QuoOk N (N.difs X Y) (ca - cb) := by
 obtain ⟨h1, h2, h3, h4, h5⟩ := h.dif
 exact ⟨h1, h2, h3, h4, h5, fun k hk hk2 _ w => divmodA_c _ _ w (Nat.lt_of_lt_of_le (h2 _ (List.getElem_mem hk2)) (Nat.pow_le_pow_right (by decide) (by decide))) (lt128 h4) h3⟩

theorem getD_of {α : Type} {L : List α} {j : Nat} (d : α) (h : j < L.length) : L.getD j d = L[j] := by rw [List.getD_eq_getElem?_getD, List.getElem?_eq_getElem h, Option.getD_some]

/-- what an answer of Extract tells: its length, the equations, the limits -/
theorem ext_inv {N : NSta} {C K ca cb : Nat} {F : List Nat} {X Y L : List Int} (h : Two N C K ca cb F X Y) (he : N.ext (N.difs X Y) (ca - cb) = some L) :
  L.length = N.vars.length ∧ (∀ z ∈ L, z.natAbs < 256 ^ 64) ∧ N.imgs L = N.eqs.map (·.tgt) ∧
  ∀ (j : Nat) (h1 : j < N.vars.length) (h2 : j < L.length), L[j].natAbs < 2 * (lim N.ord C K N.vars[j]).1 ∧ (N.vars[j] = 0 → 0 ≤ L[j] ∧ L[j].natAbs < (lim N.ord C K N.vars[j]).1) := by
 have hQ := quo_all h
 obtain ⟨_, l1, _, r1⟩ := ver_inv h.va
 obtain ⟨_, l2, _, r2⟩ := ver_inv h.vb
 unfold NSta.ext at he
 split at he
 ·exact absurd he (by simp)
 ·rename_i hra
  have hra : ra N.vars.length (fun j => (quoJ N (N.difs X Y) (ca - cb) j).isSome) = true := by simpa using hra
  split at he
  ·rename_i him
   obtain rfl : quoL N (N.difs X Y) (ca - cb) = L := by injection he
   refine ⟨by simp [quoL], quo_lt h.m hQ, him, fun j h1 h2 => ?_⟩
   have hjx : j < X.length := by omega
   have hjy : j < Y.length := by omega
   have hjd : j < (N.difs X Y).length := by rw [hQ.len]; exact h1
   have a1 := ra_at r1 h1
   have a2 := ra_at r2 h1
   have a3 := ra_at hra h1
   rw [blJ_at N C K X j h1 hjx] at a1
   rw [blJ_at N C K Y j h1 hjy] at a2
   have hD : (N.difs X Y)[j] = difI N.ord N.vars[j] X[j] Y[j] := by
    simp only [NSta.difs, List.getElem_map, List.getElem_range, getD_of _ h1, getD_of _ hjx, getD_of _ hjy]
   have hq : (quoL N (N.difs X Y) (ca - cb))[j] = (quoJ N (N.difs X Y) (ca - cb) j).getD 0 := by simp [quoL]
   rw [hq]
   rw [quoJ_at N _ _ j h1 hjd] at a3 ⊢
   rw [hD] at a3 ⊢
   generalize N.vars[j] = b at a1 a2 a3 ⊢
   generalize X[j] = x at a1 a2 a3 ⊢
   generalize Y[j] = y at a1 a2 a3 ⊢
   simp only [blw, Bool.and_eq_true, decide_eq_true_eq] at a1 a2
   unfold quoO at a3 ⊢
   by_cases h0 : b = 0
   ·rw [if_pos h0] at a3 ⊢
    by_cases hg : Nat.gcd (ca - cb) N.ord = 1
    ·rw [if_pos hg, Option.getD_some]
     have hlm : (lim N.ord C K b).1 = N.ord := by rw [lim, if_pos h0]
     have hl2 : (lim N.ord C K b).2 = N.ord := by rw [lim, if_pos h0]
     rw [hl2] at a1
     have hm : mquo N.ord (difI N.ord b x y) (ca - cb) < N.ord := Nat.mod_lt _ (by omega)
     rw [hlm, Int.natAbs_natCast]
     exact ⟨by omega, fun _ => ⟨by omega, hm⟩⟩
    ·rw [if_neg hg] at a3
     exact absurd a3 (by simp)
   ·rw [if_neg h0] at a3 ⊢
    by_cases hg : (difI N.ord b x y).natAbs % (ca - cb) = 0
    ·rw [if_pos hg, Option.getD_some]
     have hlm : (lim N.ord C K b).2 ≤ (lim N.ord C K b).1 := by rw [lim, if_neg h0]; exact Nat.sub_le _ _
     have hd : difI N.ord b x y = x - y := by rw [difI, if_neg h0]
     have hn : (difI N.ord b x y / ((ca - cb : Nat) : Int)).natAbs ≤ (difI N.ord b x y).natAbs := Int.natAbs_ediv_le_natAbs _ _
     rw [hd] at hn ⊢
     exact ⟨by omega, fun h => absurd h h0⟩
    ·rw [if_neg hg] at a3
     exact absurd a3 (by simp)
  ·exact absurd he (by simp)

theorem satisfies_c (S : Sta) (C K cha chb : ByteArray) (FA FB : List ByteArray) (RA RB : List (Bool × ByteArray)) (s1 s2 s3 xa ya xb yb : Option Addr) (m1 m2 m3 d1 d2 d3 na pa ma qa nb pb mb qb : Nat) (w : World)
  (hC : C.size ≤ 9223372036854775807) (hK : K.size ≤ 9223372036854775807) (hz : SSz S) (hS : StAt w (.slice s1 m1 d1) (.slice s2 m2 d2) (.slice s3 m3 d3) S)
  (hpa : PSz FA cha RA) (hFa : SsAt w (.slice xa na pa) FA) (hRa : IsAt w (.slice ya ma qa) RA)
  (hpb : PSz FB chb RB) (hFb : SsAt w (.slice xb nb pb) FB) (hRb : IsAt w (.slice yb mb qb) RB) :
  Calls Tryz.prog 7 #[.agg #[.string C, .string K, .slice s1 m1 d1, .slice s2 m2 d2, .slice s3 m3 d3, .slice xa na pa, .string cha, .slice ya ma qa, .slice xb nb pb, .string chb, .slice yb mb qb]] w fun e w' => e = .returned (.bool true) ∧ Below w.heap.size w w' := by
 have HF := fun w' (hb : Below w.heap.size w w') => fewC_c S C K cha chb FA FB RA RB s1 s2 s3 xa ya xb yb m1 m2 m3 d1 d2 d3 na pa ma qa nb pb mb qb w' hC hK hz (hS.after hb) hpa (SsAt.after hFa hb) (IsAt.after hRa hb) hpb (SsAt.after hFb hb) (IsAt.after hRb hb)
 cases hr : (prfB FA cha RA && prfB FB chb RB && fewB S && (decide (C.size ≤ 8) && decide (K.size ≤ 8)))
 ·rw [hr] at HF
  exact sat_big C K cha chb s1 s2 s3 xa ya xb yb m1 m2 m3 d1 d2 d3 na pa ma qa nb pb mb qb w HF
 ·rw [hr] at HF
  simp only [prfB, shB, rszB, Bool.and_eq_true, decide_eq_true_eq, List.all_eq_true] at hr
  obtain ⟨⟨⟨⟨⟨⟨⟨la1, la3⟩, la2⟩, la5⟩, la4⟩, ⟨⟨⟨⟨lb1, lb3⟩, lb2⟩, lb5⟩, lb4⟩⟩, hf⟩, hc8, hk8⟩ := hr
  obtain ⟨k, hk, h1, h2⟩ | ⟨N, c, k, rfl, rfl, hc, hk, rfl, hm, h0, c2, k2, hv⟩ := bnd_two S C K _ _ _ w hc8 hk8 hf hS
  ·exact sat_err C K cha chb k s1 s2 s3 xa ya xb yb m1 m2 m3 d1 d2 d3 na pa ma qa nb pb mb qb w hk HF
    (fun w' hb => extract_err C K cha chb s1 s2 s3 xa ya xb yb m1 m2 m3 d1 d2 d3 na pa ma qa nb pb mb qb k w' hk (fun w2 hb2 => diff_err1 C K cha chb s1 s2 s3 xa ya xb yb m1 m2 m3 d1 d2 d3 na pa ma qa nb pb mb qb k w2 hk (fun w3 hb3 => verify_bnd C K cha _ _ _ _ _ k w3 hk (fun w4 hb4 => h1 w4 (bt hb (bt hb2 (bt hb3 hb4)))))))
  ·have hN : NAt w (.slice s1 m1 d1) (.slice s2 m2 d2) (.slice s3 m3 d3) N := hS
   obtain ⟨e, he, a1, _⟩ | ⟨Fa, ca, Xa, rfl, rfl, rfl, hFA, hca, hX, h1, a1, _⟩ := ver_two N c k cha FA RA _ _ _ _ _ w hc hk hm hN h0 c2 k2 hv la1 la2 la3 la4 la5 hFa hRa
   ·exact sat_err (E c) (E k) cha chb e s1 s2 s3 xa ya xb yb m1 m2 m3 d1 d2 d3 na pa ma qa nb pb mb qb w he HF
     (fun w' hb => extract_err (E c) (E k) cha chb s1 s2 s3 xa ya xb yb m1 m2 m3 d1 d2 d3 na pa ma qa nb pb mb qb e w' he (fun w2 hb2 => diff_err1 (E c) (E k) cha chb s1 s2 s3 xa ya xb yb m1 m2 m3 d1 d2 d3 na pa ma qa nb pb mb qb e w2 he (fun w3 hb3 => a1 w3 (bt hb (bt hb2 hb3)))))
   ·obtain ⟨e, he, b1', _⟩ | ⟨Fb, cb, Xb, rfl, rfl, rfl, hFB, hcb, hY, h2, b1', _⟩ := ver_two N c k chb FB RB _ _ _ _ _ w hc hk hm hN h0 c2 k2 hv lb1 lb2 lb3 lb4 lb5 hFb hRb
    ·exact sat_err (E c) (E k) (E ca) chb e s1 s2 s3 xa ya xb yb m1 m2 m3 d1 d2 d3 na pa ma qa nb pb mb qb w he HF
      (fun w' hb => extract_err (E c) (E k) (E ca) chb s1 s2 s3 xa ya xb yb m1 m2 m3 d1 d2 d3 na pa ma qa nb pb mb qb e w' he (fun w2 hb2 => diff_err2 (E c) (E k) (E ca) chb s1 s2 s3 xa ya xb yb m1 m2 m3 d1 d2 d3 na pa ma qa nb pb mb qb e w2 he (fun w3 hb3 => a1 w3 (bt hb (bt hb2 hb3))) (fun w3 hb3 => b1' w3 (bt hb (bt hb2 hb3)))))
    ·by_cases hne : Fa ≠ Fb ∨ ca = cb
     ·exact sat_err (E c) (E k) (E ca) (E cb) 1 s1 s2 s3 xa ya xb yb m1 m2 m3 d1 d2 d3 na pa ma qa nb pb mb qb w (by decide) HF
       (fun w' hb => extract_err (E c) (E k) (E ca) (E cb) s1 s2 s3 xa ya xb yb m1 m2 m3 d1 d2 d3 na pa ma qa nb pb mb qb 1 w' (by decide) (fun w2 hb2 => diff_arg N c k ca cb Fa Fb Xa Xb s1 s2 s3 xa ya xb yb m1 m2 m3 d1 d2 d3 na pa ma qa nb pb mb qb w2 hm (hN.after (bt hb hb2)) (SsAt.after hFa (bt hb hb2)) (SsAt.after hFb (bt hb hb2)) (by simp at la1; omega) (by simp at lb1; omega) (up16 hca) (up16 hcb) (fun w3 hb3 => a1 w3 (bt hb (bt hb2 hb3))) (fun w3 hb3 => b1' w3 (bt hb (bt hb2 hb3))) hne))
     ·have hfe : Fa = Fb := Classical.byContradiction fun h => hne (.inl h)
      have hcn : ca ≠ cb := fun h => hne (.inr h)
      have HB := fun w' (hb : Below w.heap.size w w') => sBounds_c N c k _ _ _ w' hm.nv (fun w2 hb2 => bounds_ok N c k _ _ _ w2 hc hk c2 k2 hv hm (hN.after (bt hb hb2)) h0)
      have fin : ∀ r : Option (List Int), (∀ w', Below w.heap.size w w' → Calls Tryz.prog 13 #[.agg #[.string (E c), .string (E k)], .agg #[.slice s1 m1 d1, .slice s2 m2 d2, .slice s3 m3 d3], .agg #[.slice xa na pa, .string (E ca), .slice ya ma qa], .agg #[.slice xb nb pb, .string (E cb), .slice yb mb qb]] w' (XPost w' r)) → (∀ L, r = some L → L.length = N.vars.length ∧ (∀ z ∈ L, z.natAbs < 256 ^ 64) ∧ N.imgs L = N.eqs.map (·.tgt) ∧ ∀ (j : Nat) (h1 : j < N.vars.length) (h2 : j < L.length), L[j].natAbs < 2 * (lim N.ord c k N.vars[j]).1 ∧ (N.vars[j] = 0 → 0 ≤ L[j] ∧ L[j].natAbs < (lim N.ord c k N.vars[j]).1)) → Calls Tryz.prog 7 #[.agg #[.string (E c), .string (E k), .slice s1 m1 d1, .slice s2 m2 d2, .slice s3 m3 d3, .slice xa na pa, .string (E ca), .slice ya ma qa, .slice xb nb pb, .string (E cb), .slice yb mb qb]] w fun e w' => e = .returned (.bool true) ∧ Below w.heap.size w w' := by
       intro r hx hi
       cases r with
       | none => exact sat_err (E c) (E k) (E ca) (E cb) 17 s1 s2 s3 xa ya xb yb m1 m2 m3 d1 d2 d3 na pa ma qa nb pb mb qb w (by decide) HF hx
       | some L =>
        obtain ⟨i1, i2, i3, i4⟩ := hi L rfl
        exact sat_ok N c k L (E c) (E k) (E ca) (E cb) s1 s2 s3 xa ya xb yb m1 m2 m3 d1 d2 d3 na pa ma qa nb pb mb qb w hm h0 hc hk i1 i2 i3 rfl rfl i4 hN HF HB hx
      by_cases hlt : cb < ca
      ·have hT : Two N c k ca cb Fa Xa Xb := ⟨hm, h0, hc, hk, hlt, h1, by rw [hfe]; exact h2, hX, hY, hFA⟩
       exact fin _ (fun w' hb => extract_c N (N.difs Xa Xb) (ca - cb) _ _ _ _ s1 s2 s3 xa ya xb yb m1 m2 m3 d1 d2 d3 na pa ma qa nb pb mb qb w' hm (hN.after hb) h0 (quo_all hT) fun w2 hb2 =>
        diff_ok1 N c k ca cb Fa Fb Xa Xb s1 s2 s3 xa ya xb yb m1 m2 m3 d1 d2 d3 na pa ma qa nb pb mb qb w2 hm (hN.after (bt hb hb2)) (SsAt.after hFa (bt hb hb2)) (SsAt.after hFb (bt hb hb2)) (by simp at la1; omega) (by simp at lb1; omega) (up16 hca) (up16 hcb) (fun w3 hb3 => a1 w3 (bt hb (bt hb2 hb3))) (fun w3 hb3 => b1' w3 (bt hb (bt hb2 hb3))) (ZsAt.after hRa (bt hb hb2)) (ZsAt.after hRb (bt hb hb2)) (ver_inv h1).2.1 (ver_inv h2).2.1 (fun z hz => up40 (hX z hz)) (fun z hz => up40 (hY z hz)) (mod_of_ver hm h1 h2).ok hfe hlt) (fun L hL => ext_inv hT hL)
      ·have hgt : ca < cb := by omega
       have hT : Two N c k cb ca Fb Xb Xa := ⟨hm, h0, hc, hk, hgt, h2, by rw [← hfe]; exact h1, hY, hX, hFB⟩
       exact fin _ (fun w' hb => extract_c N (N.difs Xb Xa) (cb - ca) _ _ _ _ s1 s2 s3 xa ya xb yb m1 m2 m3 d1 d2 d3 na pa ma qa nb pb mb qb w' hm (hN.after hb) h0 (quo_all hT) fun w2 hb2 =>
        diff_ok2 N c k ca cb Fa Fb Xa Xb s1 s2 s3 xa ya xb yb m1 m2 m3 d1 d2 d3 na pa ma qa nb pb mb qb w2 hm (hN.after (bt hb hb2)) (SsAt.after hFa (bt hb hb2)) (SsAt.after hFb (bt hb hb2)) (by simp at la1; omega) (by simp at lb1; omega) (up16 hca) (up16 hcb) (fun w3 hb3 => a1 w3 (bt hb (bt hb2 hb3))) (fun w3 hb3 => b1' w3 (bt hb (bt hb2 hb3))) (ZsAt.after hRa (bt hb hb2)) (ZsAt.after hRb (bt hb hb2)) (ver_inv h1).2.1 (ver_inv h2).2.1 (fun z hz => up40 (hX z hz)) (fun z hz => up40 (hY z hz)) (mod_of_ver hm h2 h1).ok hfe hgt) (fun L hL => ext_inv hT hL)

theorem satisfies_lifted (os : Os) (started : os.Started) (H : Type) (enc : TypeId × Value → H) :
  ReturnsInHanded {} Tryz.checked os 7 .any (Rows.extractorSatisfiesSpec.pre6 enc Tryz.prog Tryz.f7 Rows.extractorSatisfiesRow.domain false) (Rows.extractorSatisfiesSpec.post enc Tryz.prog Tryz.f7 false true false false) := by
 refine returnsInHanded_of_change (C := Tryz.checked) own_knob started (by kernel_rfl) Tryz.func7
  (ChangeSpec.witness6 (enc := enc) (C := Tryz.checked) false ⟨#[], #[.agg #[.string ⟨#[]⟩, .string ⟨#[]⟩, .slice none 0 0, .slice none 0 0, .slice none 0 0, .slice none 0 0, .string ⟨#[]⟩, .slice none 0 0, .slice none 0 0, .string ⟨#[]⟩, .slice none 0 0]], []⟩ 8 (by kernel_rfl) (by kernel_rfl) (by kernel_rfl) (by kernel_rfl)) ?_
 intro W base args ds gs before hval0 hW _ _
 have hval : ∀ (j : Nat) t v, Tryz.f7.params[j]? = some t → args[j]? = some v → Value.okWide Tryz.prog W .any base t v := hval0
 have hW' := hW
 obtain ⟨p, q, hA0, hV, rfl, _, _⟩ := hW
 have hA : DataW.TrodAll enc Tryz.prog W 0 (fun _ => true) true Tryz.f7.params.toList args.toList ds p := hA0
 rw [Tryz.params7] at hA hval
 obtain ⟨v0, vs0, d0, ds0, p0, q0, hargs, rfl, rfl, h0, r0⟩ := trodAll_cons hA
 obtain ⟨rfl, rfl, rfl⟩ := trodAll_nil r0
 obtain rfl : args = #[v0] := by cases args; simp_all
 obtain ⟨rfl, rfl⟩ := trodVars_none hV
 simp only [List.append_nil] at hW'
 have hlt : ∀ x ∈ p0, x.block < W.heap.size := fun x hx => hW'.lt x (by simpa using hx)
 have k0 := h0
 obtain ⟨C, K, cha, chb, S, FA, FB, RA, RB, s1, s2, s3, xa, ya, xb, yb, m1, m2, m3, d1, d2, d3, na, pa, ma, qa, nb, pb, mb, qb, rfl, hC, hK, hz, hS, hpa, hFa, hRa, hpb, hFb, hRb⟩ := open_case (hval 0 35 v0 rfl rfl) h0
 clear hA0 hval0 hA r0 h0
 refine (satisfies_c S C K cha chb FA FB RA RB s1 s2 s3 xa ya xb yb m1 m2 m3 d1 d2 d3 na pa ma qa nb pb mb qb W hC hK hz hS hpa hFa hRa hpb hFb hRb).mono fun en W' hh => ?_
 obtain ⟨rfl, hb⟩ := hh
 have stay : ∀ {t : TypeId} (hr : Tryz.prog.readableRec t = true) (hrow : t < Tryz.prog.types.size) {v : Value} {d : DataW H} {ps : List MemPlace} (h : DataW.Trod enc Tryz.prog W 0 (fun _ => true) true t v d ps) (hl : ∀ z ∈ ps, z.block < W.heap.size) (sp : Nat → Bool) (hs : ∀ z ∈ ps, sp z.block = true), DataW.Trod enc Tryz.prog W' 0 sp true t v d ps :=
  fun hr hrow _ _ _ h hl sp hs => WideElems.Trod_stays laid_out hr hrow h (fun z hz => hb.same (hl z hz)) hs
 exact ⟨_, rfl, post_of_below (pa := p0 ++ []) (pv := []) hW' (fun _ _ _ => trodAll_cons_mk (shut_bool Tryz.underlying4 _) trodAll_mk0)
  (fun sp hs => trodAll_cons_mk (stay (by kernel_rfl) (of_decide_eq_true (by kernel_rfl)) k0 (fun z hz => hlt z (by simp [hz])) sp (fun z hz => hs z (by simp [hz]))) trodAll_mk0) (fun _ _ => rfl) (by simp) hb
  (ok_one (by kernel_rfl) rfl (okWide_bool_mk Tryz.underlying4 _))⟩

theorem satisfies_holds : Rows.ExtractorSatisfiesSaid :=
 OpenClaim.holds_of_wide 7 Tryz.f7 rfl rfl rfl rfl rfl rfl rfl ⟨rfl, rfl, rfl, rfl, rfl⟩ rfl rfl rfl rfl rfl (by kernel_rfl) Tryz.func7 (by kernel_rfl)
  (of_decide_eq_true (by kernel_rfl)) (by unfold Func.isWrapper; first | (rw [if_pos (by decide +kernel)]; kernel_rfl) | (rw [if_neg (by decide +kernel)]; exact ⟨rfl, rfl⟩))
  (fun os started H enc _ => satisfies_lifted os started H enc)

#print axioms satisfies_holds
end Go.Proofs.YtbcgimgkcdpjcaaGreat
end
