import Derived.Test.YtehoiholhkfcpaaGreatRInt3
import Derived.Deep.DeepCutAuto
set_option linter.unusedVariables false
set_option linter.unusedSimpArgs false
set_option maxRecDepth 100000
namespace Go.Proofs.YtehoiholhkfcpaaGreat
open Go.RowKit

/-- the coefficients that the reference computes -/
def bz : Nat → Nat → Nat → Int × Int
 | 0, _, _ => (1, 0)
 | f + 1, a, b => if b = 0 then (1, 0) else ((bz f b (a % b)).2, (bz f b (a % b)).1 - ((a / b : Nat) : Int) * (bz f b (a % b)).2)

theorem bz_zero (f a : Nat) : bz f a 0 = (1, 0) := by cases f <;> simp [bz]

theorem bz_spec (f : Nat) : ∀ a b : Nat, b ≤ f → (a : Int) * (bz f a b).1 + (b : Int) * (bz f a b).2 = (Nat.gcd a b : Int) ∧ (bz f a b).1.natAbs ≤ max 1 b ∧ (bz f a b).2.natAbs ≤ max 1 a := by
 induction f with
 | zero =>
  intro a b hb
  obtain rfl : b = 0 := by omega
  simp [bz]
 | succ f ih =>
  intro a b hb
  by_cases h0 : b = 0
  ·subst h0; simp [bz]
  ·have hr := Nat.mod_lt a (show 0 < b by omega)
   obtain ⟨h1, h2, h3⟩ := ih b (a % b) (by omega)
   have hdm := Nat.div_add_mod a b
   simp only [bz, if_neg h0]
   have hg : Nat.gcd a b = Nat.gcd b (a % b) := by rw [Nat.gcd_comm a b, Nat.gcd_rec b a, Nat.gcd_comm]
   have hz : a % b = 0 → bz f b (a % b) = (1, 0) := fun h => by rw [h]; exact bz_zero f b
   generalize bz f b (a % b) = p at *
   obtain ⟨x, y⟩ := p
   simp only at *
   refine ⟨?_, by omega, ?_⟩
   ·rw [hg, ← h1]
    have e : (a : Int) = (b : Int) * ((a / b : Nat) : Int) + ((a % b : Nat) : Int) := by
     rw [← Int.natCast_mul]; omega
    rw [Int.mul_sub, Int.sub_eq_add_neg]
    have e2 : (a : Int) * y = (b : Int) * (((a / b : Nat) : Int) * y) + ((a % b : Nat) : Int) * y := by
     conv => lhs; rw [e]
     rw [Int.add_mul, Int.mul_assoc]
    omega
   ·rcases Nat.eq_zero_or_pos (a % b) with hz0 | hz0
    ·have := hz hz0
     simp only [Prod.mk.injEq] at this
     rw [this.1, this.2]; simp; omega
    ·have hb1 : y.natAbs ≤ b := by omega
     have hx1 : x.natAbs ≤ a % b := by omega
     have hq : (((a / b : Nat) : Int) * y).natAbs ≤ a / b * b := by
      rw [Int.natAbs_mul, Int.natAbs_natCast]; exact Nat.mul_le_mul_left _ hb1
     have : a / b * b + a % b = a := by rw [Nat.mul_comm]; exact hdm
     omega

theorem bz_prod (f a b : Nat) (hb : b ≤ f + 1) (h0 : b ≠ 0) : a / b * (bz f b (a % b)).2.natAbs ≤ a := by
 have hr := Nat.mod_lt a (show 0 < b by omega)
 have h3 := (bz_spec f b (a % b) (by omega)).2.2
 have hb1 : (bz f b (a % b)).2.natAbs ≤ b := by omega
 exact Nat.le_trans (Nat.mul_le_mul_left _ hb1) (Nat.div_mul_le_self a b)

/-- the four boxes of the reference's bezout -/
structure Boxes (w : World) (bx by' : Nat) (x y : Int) (wx : World) : Prop where
 r1 : Blk wx w.heap.size 53 [Value.bool false, Value.string { data := #[] }]
 r2 : Blk wx (w.heap.size + 1) 53 [Value.bool false, Value.string { data := #[] }]
 x : Blk wx bx 53 [Value.bool (sg x), Value.string (E x.natAbs)]
 y : Blk wx by' 53 [Value.bool (sg y), Value.string (E y.natAbs)]
 below : Below w.heap.size w wx

theorem Boxes.after {w wx wy : World} {bx b2 : Nat} {x y : Int} (h : Boxes w bx b2 x y wx) (hb : Below wx.heap.size wx wy) : Boxes w bx b2 x y wy :=
 ⟨h.r1.after hb, h.r2.after hb, h.x.after hb, h.y.after hb, bt h.below hb⟩

theorem Boxes.drew {w wx : World} {bx b2 : Nat} {x y : Int} (h : Boxes w bx b2 x y wx) : Boxes w bx b2 x y wx.drew :=
 ⟨h.r1.drew, h.r2.drew, h.x.drew, h.y.drew, h.below.drew⟩

theorem Boxes.alloc {w wx : World} {bx b2 : Nat} {x y : Int} (h : Boxes w bx b2 x y wx) (o : Obj) : Boxes w bx b2 x y (wx.alloc o) :=
 h.after (b1 _ _)

theorem Boxes.set {w wx : World} {bx b2 : Nat} {x y : Int} (h : Boxes w bx b2 x y wx) (g j : Nat) (v : Value) (h1 : w.heap.size + 1 < g) (h2 : bx ≠ g) (h3 : b2 ≠ g) : Boxes w bx b2 x y (wx.setCell ⟨g, j, none⟩ v) :=
 ⟨h.r1.other _ _ (by simp; omega), h.r2.other _ _ (by simp; omega), h.x.other _ _ h2, h.y.other _ _ h3, h.below.setCell (by simp; omega) _⟩

end Go.Proofs.YtehoiholhkfcpaaGreat
