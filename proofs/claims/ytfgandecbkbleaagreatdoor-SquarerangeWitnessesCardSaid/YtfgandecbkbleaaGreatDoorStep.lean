import Derived.Test.YtfgandecbkbleaaGreatDoorRSet2
import Derived.Deep.RegionHeld3
import Derived.Deep.RegionLaw
import Derived.Deep.AppendLies
import Derived.RangeFuncLeaves
import Derived.Shelf.Abstract
section
set_option linter.unusedVariables false
set_option linter.unusedSimpArgs false
set_option maxRecDepth 100000
namespace Go.Proofs.YtfgandecbkbleaaGreatDoor
open Go.RowKit

/-- a statement with one group and one equation, as it lies in memory -/
structure Stm (w : World) (g1 g2 g3 g4 c4 : Nat) (p q t : Nat) (B : List Nat) : Prop where
 l1 : g1 < w.heap.size
 l2 : g2 < w.heap.size
 l3 : g3 < w.heap.size
 l4 : g4 < w.heap.size
 m0 : w.cell? ⟨g1, 0, none⟩ = some (.string (E p))
 m1 : w.cell? ⟨g1, 1, none⟩ = some (.string (E q))
 vs : ∀ j, j < B.length → w.cell? ⟨g2, j, none⟩ = some (.string { data := #[] })
 e0 : w.cell? ⟨g3, 0, none⟩ = some (.int .i64 0)
 e1 : w.cell? ⟨g3, 1, none⟩ = some (.string (E t))
 e2 : w.cell? ⟨g3, 2, none⟩ = some (.slice (some ⟨g4, 0, none⟩) B.length c4)
 t0 : ∀ j (h : j < B.length), w.cell? ⟨g4, j * 4, none⟩ = some (.string (E B[j]))
 t1 : ∀ j, j < B.length → w.cell? ⟨g4, j * 4 + 1, none⟩ = some (.int .i64 (j : Int))
 t2 : ∀ j, j < B.length → w.cell? ⟨g4, j * 4 + 2, none⟩ = some (.bool false)
 t3 : ∀ j, j < B.length → w.cell? ⟨g4, j * 4 + 3, none⟩ = some (.string (E 1))
 cap : B.length ≤ c4

theorem Stm.after {w w' : World} {g1 g2 g3 g4 c4 p q t : Nat} {B : List Nat} (h : Stm w g1 g2 g3 g4 c4 p q t B) (hb : Below w.heap.size w w') : Stm w' g1 g2 g3 g4 c4 p q t B :=
 ⟨Nat.lt_of_lt_of_le h.l1 hb.size, Nat.lt_of_lt_of_le h.l2 hb.size, Nat.lt_of_lt_of_le h.l3 hb.size, Nat.lt_of_lt_of_le h.l4 hb.size,
  (hb.cell (p := ⟨g1, 0, none⟩) h.l1).trans h.m0, (hb.cell (p := ⟨g1, 1, none⟩) h.l1).trans h.m1, fun j hj => (hb.cell (p := ⟨g2, j, none⟩) h.l2).trans (h.vs j hj),
  (hb.cell (p := ⟨g3, 0, none⟩) h.l3).trans h.e0, (hb.cell (p := ⟨g3, 1, none⟩) h.l3).trans h.e1, (hb.cell (p := ⟨g3, 2, none⟩) h.l3).trans h.e2,
  fun j hj => (hb.cell (p := ⟨g4, j * 4, none⟩) h.l4).trans (h.t0 j hj), fun j hj => (hb.cell (p := ⟨g4, j * 4 + 1, none⟩) h.l4).trans (h.t1 j hj),
  fun j hj => (hb.cell (p := ⟨g4, j * 4 + 2, none⟩) h.l4).trans (h.t2 j hj), fun j hj => (hb.cell (p := ⟨g4, j * 4 + 3, none⟩) h.l4).trans (h.t3 j hj), h.cap⟩

/-- a cell of an elder block, in every grown world -/
theorem gcellOf {w : World} {a : Addr} {v : Value} (hb : a.block < w.heap.size) (h : w.cell? a = some v) : ∀ x : GW w, (Proofs.YtfgandecbkbleaaGreatDoor.gw x).cell? a = some v := fun x => ((gw_below x).cell hb).trans h

set_option maxHeartbeats 800000 in
theorem same_nil (w : World) :
  Calls Tryz.prog 22 #[.agg #[.slice none 0 0, .slice none 0 0, .slice none 0 0], .agg #[.slice none 0 0, .slice none 0 0, .slice none 0 0]] w fun e w' => e = .returned (.bool true) ∧ Below w.heap.size w w' := by
 have hA := blk2a w #[Value.slice none 0 0, Value.slice none 0 0, Value.slice none 0 0] #[Value.slice none 0 0, Value.slice none 0 0, Value.slice none 0 0] 61 61
 have hB := blk2b w #[Value.slice none 0 0, Value.slice none 0 0, Value.slice none 0 0] #[Value.slice none 0 0, Value.slice none 0 0, Value.slice none 0 0] 61 61
 obtain ⟨hAc0, hAf0, hAc1, hAf1, hAc2, hAf2⟩ := hA.x3
 obtain ⟨hBc0, hBf0, hBc1, hBf1, hBc2, hBf2⟩ := hB.x3
 go_enter Tryz.func22, Tryz.ntmps22
 go_wp2
 go_loop [5] (fun i => i = .int .i64 0) (fun _ => 0)
 case atStart => rfl
 case round =>
  obtain rfl := hrel
  go_wp2
  go_loop [6] (fun i => i = .int .i64 0) (fun _ => 0)
  case atStart => rfl
  case round =>
   obtain rfl := hrel
   go_wp2
   go_loop [7] (fun i => i = .int .i64 0) (fun _ => 0)
   case atStart => rfl
   case round =>
    obtain rfl := hrel
    go_wp2
    go_ret
    exact ⟨rfl, b2 _ _ _⟩

/-- the two equations of a round -/
def EqBox (w : World) (t n a4 c4 b4 d4 : Nat) (s8 s9 : Value) (wx : World) : Prop :=
 ∃ h8 h9 : Nat, s8 = .pointer (some ⟨h8, 0, none⟩) ∧ s9 = .pointer (some ⟨h9, 0, none⟩) ∧
  Blk wx h8 115 [.int .i64 0, .string (E t), .slice (some ⟨a4, 0, none⟩) n c4] ∧ Blk wx h9 115 [.int .i64 0, .string (E t), .slice (some ⟨b4, 0, none⟩) n d4] ∧ Below w.heap.size w wx

set_option maxHeartbeats 4000000 in
theorem same_c (w : World) (a1 a2 a3 a4 c1 c2 c3 c4 b1 b2 b3 b4 d1 d2 d3 d4 : Nat) (p q t n : Nat) (B : List Nat) (hn : B.length = n) (hn1 : n ≤ 1000)
  (hA : Stm w a1 a2 a3 a4 c4 p q t B) (hB : Stm w b1 b2 b3 b4 d4 p q t B) :
  Calls Tryz.prog 22 #[.agg #[.slice (some ⟨a1, 0, none⟩) 1 c1, .slice (some ⟨a2, 0, none⟩) n c2, .slice (some ⟨a3, 0, none⟩) 1 c3], .agg #[.slice (some ⟨b1, 0, none⟩) 1 d1, .slice (some ⟨b2, 0, none⟩) n d2, .slice (some ⟨b3, 0, none⟩) 1 d3]] w fun e w' => e = .returned (.bool true) ∧ Below w.heap.size w w' := by
 have HN := Lib.hid hn
 have hP := blk2a w #[Value.slice (some ⟨a1, 0, none⟩) 1 c1, Value.slice (some ⟨a2, 0, none⟩) n c2, Value.slice (some ⟨a3, 0, none⟩) 1 c3] #[Value.slice (some ⟨b1, 0, none⟩) 1 d1, Value.slice (some ⟨b2, 0, none⟩) n d2, Value.slice (some ⟨b3, 0, none⟩) 1 d3] 61 61
 have hQ := blk2b w #[Value.slice (some ⟨a1, 0, none⟩) 1 c1, Value.slice (some ⟨a2, 0, none⟩) n c2, Value.slice (some ⟨a3, 0, none⟩) 1 c3] #[Value.slice (some ⟨b1, 0, none⟩) 1 d1, Value.slice (some ⟨b2, 0, none⟩) n d2, Value.slice (some ⟨b3, 0, none⟩) 1 d3] 61 61
 have hBW := Proofs.YtfgandecbkbleaaGreatDoor.b2 w (.cells #[Value.slice (some ⟨a1, 0, none⟩) 1 c1, Value.slice (some ⟨a2, 0, none⟩) n c2, Value.slice (some ⟨a3, 0, none⟩) 1 c3] 61) (.cells #[Value.slice (some ⟨b1, 0, none⟩) 1 d1, Value.slice (some ⟨b2, 0, none⟩) n d2, Value.slice (some ⟨b3, 0, none⟩) 1 d3] 61)
 replace hA := hA.after hBW
 replace hB := hB.after hBW
 clear hn
 obtain ⟨hPc0, hPf0, hPc1, hPf1, hPc2, hPf2⟩ := hP.x3
 obtain ⟨hQc0, hQf0, hQc1, hQf1, hQc2, hQf2⟩ := hQ.x3
 go_enter Tryz.func22, Tryz.ntmps22
 go_wp2
 clear hPc0 hPf0 hPc1 hPf1 hPc2 hPf2
 clear hQc0 hQf0 hQc1 hQf1 hQc2 hQf2
 generalize ((w.alloc (.cells #[Value.slice (some ⟨a1, 0, none⟩) 1 c1, Value.slice (some ⟨a2, 0, none⟩) n c2, Value.slice (some ⟨a3, 0, none⟩) 1 c3] 61)).alloc (.cells #[Value.slice (some ⟨b1, 0, none⟩) 1 d1, Value.slice (some ⟨b2, 0, none⟩) n d2, Value.slice (some ⟨b3, 0, none⟩) 1 d3] 61)) = w1 at hP hQ hBW hA hB
 go_loopw [5] (fun i wr => (i = .int .i64 0 ∨ i = .int .i64 1) ∧ Below w1.heap.size w1 wr) (fun i _ => 1 - (intOf i).toNat)
 case atStart => exact ⟨.inl rfl, Below.refl _ _⟩
 case round =>
  obtain ⟨hi, hbr⟩ := hrel
  obtain ⟨wp, hwp⟩ : ∃ wp, wp = wr := ⟨_, rfl⟩
  subst hwp
  replace hA := hA.after hbr
  replace hB := hB.after hbr
  replace hP := hP.after hbr
  replace hQ := hQ.after hbr
  rcases hi with rfl | rfl
  ·have k0 := gcellOf (a := ⟨a1, 0, none⟩) hA.l1 hA.m0
   have k1 := gcellOf (a := ⟨a1, 1, none⟩) hA.l1 hA.m1
   have k2 := gcellOf (a := ⟨b1, 0, none⟩) hB.l1 hB.m0
   have k3 := gcellOf (a := ⟨b1, 1, none⟩) hB.l1 hB.m1
   have hPg0 := hP.gcell 0
   have hPg1 := hP.gcell 1
   have hPg2 := hP.gcell 2
   have hQg0 := hQ.gcell 0
   have hQg1 := hQ.gcell 1
   have hQg2 := hQ.gcell 2
   obtain ⟨hPc0, hPf0, hPc1, hPf1, hPc2, hPf2⟩ := hP.x3
   obtain ⟨hQc0, hQf0, hQc1, hQf1, hQc2, hQf2⟩ := hQ.x3
   go_wp2_with fail
   go_wp2_with fail
   refine wp_region_gw (by kernel_rfl) (by kernel_rfl) ?_
   repeat (go_big_quiet_step (first | (fail)))
   refine wpQuiet_nil ?_
   rintro w2 ⟨xw2, rfl⟩
   have hb2 := gw_below xw2
   generalize gw xw2 = w2 at hb2
   go_wp2
   go_roundw
   case rel => exact ⟨.inr rfl, bt hbr hb2⟩
   case measure => simp [intOf]
  ·replace hBW := bt hBW hbr
   clear hbr
   obtain ⟨hPc0, hPf0, hPc1, hPf1, hPc2, hPf2⟩ := hP.x3
   obtain ⟨hQc0, hQf0, hQc1, hQf1, hQc2, hQf2⟩ := hQ.x3
   go_wp2
   clear hPc0 hPf0 hPc1 hPf1 hPc2 hPf2
   clear hQc0 hQf0 hQc1 hQf1 hQc2 hQf2
   go_loopw [6] (fun i wr => ∃ k : Nat, k ≤ n ∧ i = .int .i64 k ∧ Below wp.heap.size wp wr) (fun i _ => n - (intOf i).toNat)
   case atStart => exact ⟨0, by omega, rfl, Below.refl _ _⟩
   case round =>
    obtain ⟨k, hk, rfl, hbr⟩ := hrel
    obtain ⟨wq, hwq⟩ : ∃ wq, wq = wr := ⟨_, rfl⟩
    subst hwq
    replace hA := hA.after hbr
    replace hB := hB.after hbr
    replace hP := hP.after hbr
    replace hQ := hQ.after hbr
    by_cases hlt : k < n
    ·have hkl : k < B.length := by rw [HN.out]; exact hlt
     have k0 := gcellOf (a := ⟨a2, k, none⟩) hA.l2 (hA.vs k hkl)
     have k1 := gcellOf (a := ⟨b2, k, none⟩) hB.l2 (hB.vs k hkl)
     have h0k : (0 : Int) ≤ (k : Int) := by omega
     have h1k : (k : Int) < (n : Int) := by omega
     clear hkl
     have hPg0 := hP.gcell 0
     have hPg1 := hP.gcell 1
     have hPg2 := hP.gcell 2
     have hQg0 := hQ.gcell 0
     have hQg1 := hQ.gcell 1
     have hQg2 := hQ.gcell 2
     obtain ⟨hPc0, hPf0, hPc1, hPf1, hPc2, hPf2⟩ := hP.x3
     obtain ⟨hQc0, hQf0, hQc1, hQf1, hQc2, hQf2⟩ := hQ.x3
     go_wp2_with fail
     go_wp2_with fail
     refine wp_region_gw (by kernel_rfl) (by kernel_rfl) ?_
     repeat (go_big_quiet_step (first | (fail)))
     refine wpQuiet_nil ?_
     rintro w2 ⟨xw2, rfl⟩
     have hb2 := gw_below xw2
     generalize gw xw2 = w2 at hb2
     go_wp2
     go_roundw
     case rel => exact ⟨k + 1, by omega, by go_num, bt hbr hb2⟩
     case measure => simp [intOf]; omega
    ·obtain rfl : k = n := by omega
     replace hBW := bt hBW hbr
     clear hbr hk hlt
     obtain ⟨hPc0, hPf0, hPc1, hPf1, hPc2, hPf2⟩ := hP.x3
     obtain ⟨hQc0, hQf0, hQc1, hQf1, hQc2, hQf2⟩ := hQ.x3
     go_wp2
     clear hPc0 hPf0 hPc1 hPf1 hPc2 hPf2
     clear hQc0 hQf0 hQc1 hQf1 hQc2 hQf2
     go_loopw [7] (fun i wr => (i = .int .i64 0 ∨ i = .int .i64 1) ∧ Below wq.heap.size wq wr) (fun i _ => 1 - (intOf i).toNat)
     case atStart => exact ⟨.inl rfl, Below.refl _ _⟩
     case round =>
      obtain ⟨hi, hbr⟩ := hrel
      obtain ⟨wu, hwu⟩ : ∃ wu, wu = wr := ⟨_, rfl⟩
      subst hwu
      replace hA := hA.after hbr
      replace hB := hB.after hbr
      replace hP := hP.after hbr
      replace hQ := hQ.after hbr
      rcases hi with rfl | rfl
      ·have f0 := hA.e0
       have f1 := hA.e1
       have f2 := hA.e2
       have g0 := hB.e0
       have g1 := hB.e1
       have g2 := hB.e2
       rw [HN.out] at f2 g2
       have y1 := hA.l3
       have y2 := hB.l3
       have y3 := hP.lt
       have y4 := hQ.lt
       obtain ⟨hPc0, hPf0, hPc1, hPf1, hPc2, hPf2⟩ := hP.x3
       obtain ⟨hQc0, hQf0, hQc1, hQf1, hQc2, hQf2⟩ := hQ.x3
       go_upto_region 16 with fail
       go_cut [8, 9] (fun s8 s9 wx => EqBox wu t k a4 c4 b4 d4 s8 s9 wx)
       case first =>
        go_region_held3 (fun w' => w'.cell? ⟨w.heap.size, 2, none⟩ = some (.slice (some ⟨a3, 0, none⟩) 1 c3) ∧ w'.cell? ⟨w.heap.size + 1, 2, none⟩ = some (.slice (some ⟨b3, 0, none⟩) 1 d3) ∧ w'.cell? ⟨a3, 0, none⟩ = some (.int .i64 0) ∧ w'.cell? ⟨a3, 1, none⟩ = some (.string (E t)) ∧ w'.cell? ⟨a3, 2, none⟩ = some (.slice (some ⟨a4, 0, none⟩) k c4) ∧ w'.cell? ⟨b3, 0, none⟩ = some (.int .i64 0) ∧ w'.cell? ⟨b3, 1, none⟩ = some (.string (E t)) ∧ w'.cell? ⟨b3, 2, none⟩ = some (.slice (some ⟨b4, 0, none⟩) k d4)) (go_keep) (fail)
        all_goals
         go_wp2_with fail
         go_meet
         first
         | exact ⟨_, _, rfl, rfl, (blk2a _ _ _ _ _).drew, (blk2b _ _ _ _ _).drew, (Proofs.YtfgandecbkbleaaGreatDoor.b2 _ _ _).drew⟩
         | exact ⟨_, _, rfl, rfl, (blk2b _ _ _ _ _).drew, (blk2a _ _ _ _ _).drew, (Proofs.YtfgandecbkbleaaGreatDoor.b2 _ _ _).drew⟩
       case rest =>
        obtain ⟨h8, h9, rfl, rfl, h8b, h9b, hbx⟩ := hcut
        clear hPc0 hPf0 hPc1 hPf1 hPc2 hPf2
        clear hQc0 hQf0 hQc1 hQf1 hQc2 hQf2
        clear f0 f1 f2 g0 g1 g2 y1 y2 y3 y4
        obtain ⟨wx, hwx⟩ : ∃ wx, wx = wc := ⟨_, rfl⟩
        subst hwx
        replace hA := hA.after hbx
        replace hB := hB.after hbx
        replace hP := hP.after hbx
        replace hQ := hQ.after hbx
        obtain ⟨h8bc0, h8bf0, h8bc1, h8bf1, h8bc2, h8bf2⟩ := h8b.x3
        obtain ⟨h9bc0, h9bf0, h9bc1, h9bf1, h9bc2, h9bf2⟩ := h9b.x3
        go_wp2
        clear h8bc0 h8bf0 h8bc1 h8bf1 h8bc2 h8bf2
        clear h9bc0 h9bf0 h9bc1 h9bf1 h9bc2 h9bf2
        go_loopw [10] (fun i wr => ∃ k' : Nat, k' ≤ k ∧ i = .int .i64 k' ∧ Below wx.heap.size wx wr) (fun i _ => k - (intOf i).toNat)
        case atStart => exact ⟨0, by omega, rfl, Below.refl _ _⟩
        case round =>
         obtain ⟨k', hk, rfl, hbs⟩ := hrel
         obtain ⟨wy, hwy⟩ : ∃ wy, wy = wr := ⟨_, rfl⟩
         subst hwy
         replace hA := hA.after hbs
         replace hB := hB.after hbs
         replace h8b := h8b.after hbs
         replace h9b := h9b.after hbs
         by_cases hlt : k' < k
         ·have hkl : k' < B.length := by rw [HN.out]; exact hlt
          have k0 := gcellOf (a := ⟨a4, k' * 4, none⟩) hA.l4 (hA.t0 k' hkl)
          have k1 := gcellOf (a := ⟨a4, k' * 4 + 1, none⟩) hA.l4 (hA.t1 k' hkl)
          have k2 := gcellOf (a := ⟨a4, k' * 4 + 2, none⟩) hA.l4 (hA.t2 k' hkl)
          have k3 := gcellOf (a := ⟨a4, k' * 4 + 3, none⟩) hA.l4 (hA.t3 k' hkl)
          have j0 := gcellOf (a := ⟨b4, k' * 4, none⟩) hB.l4 (hB.t0 k' hkl)
          have j1 := gcellOf (a := ⟨b4, k' * 4 + 1, none⟩) hB.l4 (hB.t1 k' hkl)
          have j2 := gcellOf (a := ⟨b4, k' * 4 + 2, none⟩) hB.l4 (hB.t2 k' hkl)
          have j3 := gcellOf (a := ⟨b4, k' * 4 + 3, none⟩) hB.l4 (hB.t3 k' hkl)
          generalize B[k'] = bv at k0 j0
          have h0k : (0 : Int) ≤ (k' : Int) := by omega
          have h1k : (k' : Int) < (k : Int) := by omega
          clear hkl
          have h8bg0 := h8b.gcell 0
          have h8bg1 := h8b.gcell 1
          have h8bg2 := h8b.gcell 2
          have h9bg0 := h9b.gcell 0
          have h9bg1 := h9b.gcell 1
          have h9bg2 := h9b.gcell 2
          obtain ⟨h8bc0, h8bf0, h8bc1, h8bf1, h8bc2, h8bf2⟩ := h8b.x3
          obtain ⟨h9bc0, h9bf0, h9bc1, h9bf1, h9bc2, h9bf2⟩ := h9b.x3
          go_wp2_with fail
          go_wp2_with fail
          refine wp_region_gw (by kernel_rfl) (by kernel_rfl) ?_
          repeat (go_big_quiet_step (first | (fail)))
          refine wpQuiet_nil ?_
          rintro w2 ⟨xw2, rfl⟩
          have hb2 := gw_below xw2
          generalize gw xw2 = w2 at hb2
          go_wp2
          go_roundw
          case rel => exact ⟨k' + 1, by omega, by go_num, bt hbs hb2⟩
          case measure => simp [intOf]; omega
         ·obtain rfl : k' = k := by omega
          obtain ⟨h8bc0, h8bf0, h8bc1, h8bf1, h8bc2, h8bf2⟩ := h8b.x3
          obtain ⟨h9bc0, h9bf0, h9bc1, h9bf1, h9bc2, h9bf2⟩ := h9b.x3
          go_wp2
          go_roundw
          case rel => exact ⟨.inr rfl, bt (bt hbr hbx) hbs⟩
          case measure => simp [intOf]
      ·replace hBW := bt hBW hbr
       obtain ⟨hPc0, hPf0, hPc1, hPf1, hPc2, hPf2⟩ := hP.x3
       obtain ⟨hQc0, hQf0, hQc1, hQf1, hQc2, hQf2⟩ := hQ.x3
       go_wp2
       go_ret
       exact ⟨rfl, hBW⟩

end Go.Proofs.YtfgandecbkbleaaGreatDoor
end

section
set_option linter.unusedVariables false
set_option linter.unusedSimpArgs false
set_option maxRecDepth 100000
namespace Go.Proofs.YtfgandecbkbleaaGreatDoor
open Go.RowKit

/-- what a function that states returns -/
def StmPost (w : World) (p q t : Nat) (B : List Nat) (e : Ending) (w' : World) : Prop :=
 ∃ g1 g2 g3 g4 c1 c2 c3 c4 : Nat, e = .returned (.agg #[.slice (some ⟨g1, 0, none⟩) 1 c1, .slice (some ⟨g2, 0, none⟩) B.length c2, .slice (some ⟨g3, 0, none⟩) 1 c3]) ∧ Stm w' g1 g2 g3 g4 c4 p q t B ∧ (w.heap.size ≤ g1 ∧ w.heap.size ≤ g2 ∧ w.heap.size ≤ g3 ∧ w.heap.size ≤ g4) ∧ Below w.heap.size w w'

theorem Stm.one {w : World} {g1 g2 g3 g4 c4 p q t b : Nat} (h1 : Blk w g1 24 [.string (E p), .string (E q)]) (h2 : Blk w g2 113 [.string { data := #[] }])
  (h3 : Blk w g3 115 [.int .i64 0, .string (E t), .slice (some ⟨g4, 0, none⟩) 1 c4]) (h4 : Blk w g4 118 [.string (E b), .int .i64 0, .bool false, .string (E 1)]) (hc : 1 ≤ c4) : Stm w g1 g2 g3 g4 c4 p q t [b] where
 l1 := h1.lt
 l2 := h2.lt
 l3 := h3.lt
 l4 := h4.lt
 m0 := h1.cell 0
 m1 := h1.cell 1
 vs := fun j hj => by
            obtain rfl : j = 0 := by simp at hj; exact hj
            exact h2.cell 0
 e0 := h3.cell 0
 e1 := h3.cell 1
 e2 := h3.cell 2
 t0 := fun j hj => by
            obtain rfl : j = 0 := by simp at hj; exact hj
            exact h4.cell 0
 t1 := fun j hj => by
            obtain rfl : j = 0 := by simp at hj; exact hj
            exact h4.cell 1
 t2 := fun j hj => by
            obtain rfl : j = 0 := by simp at hj; exact hj
            exact h4.cell 2
 t3 := fun j hj => by
            obtain rfl : j = 0 := by simp at hj; exact hj
            exact h4.cell 3
 cap := hc

theorem two_cases {j : Nat} {l : List Nat} {b c : Nat} (h : l = [b, c]) (hj : j < l.length) : j = 0 ∨ j = 1 := by subst h; simp at hj; omega

theorem Stm.two {w : World} {g1 g2 g3 g4 c4 p q t b c : Nat} (h1 : Blk w g1 24 [.string (E p), .string (E q)]) (h2 : Blk w g2 113 [.string { data := #[] }, .string { data := #[] }])
  (h3 : Blk w g3 115 [.int .i64 0, .string (E t), .slice (some ⟨g4, 0, none⟩) 2 c4]) (h4 : Blk w g4 118 [.string (E b), .int .i64 0, .bool false, .string (E 1), .string (E c), .int .i64 1, .bool false, .string (E 1)]) (hc : 2 ≤ c4) : Stm w g1 g2 g3 g4 c4 p q t [b, c] where
 l1 := h1.lt
 l2 := h2.lt
 l3 := h3.lt
 l4 := h4.lt
 m0 := h1.cell 0
 m1 := h1.cell 1
 vs := fun j hj => by
            rcases two_cases rfl hj with rfl | rfl
            ·exact h2.cell 0
            ·exact h2.cell 1
 e0 := h3.cell 0
 e1 := h3.cell 1
 e2 := h3.cell 2
 t0 := fun j hj => by
            rcases two_cases rfl hj with rfl | rfl
            ·exact h4.cell 0
            ·exact h4.cell 4
 t1 := fun j hj => by
            rcases two_cases rfl hj with rfl | rfl
            ·exact h4.cell 1
            ·exact h4.cell 5
 t2 := fun j hj => by
            rcases two_cases rfl hj with rfl | rfl
            ·exact h4.cell 2
            ·exact h4.cell 6
 t3 := fun j hj => by
            rcases two_cases rfl hj with rfl | rfl
            ·exact h4.cell 3
            ·exact h4.cell 7
 cap := hc

theorem Blk.newAt {w : World} {g : Nat} {cs : Array Value} {T : TypeId} (h : g = w.heap.size) : Blk (w.alloc (.cells cs T)) g T cs.toList := by rw [h]; exact Blk.new w cs T

theorem Stm.set {w : World} {g1 g2 g3 g4 c4 p q t r i : Nat} {B : List Nat} {v : Value} (h : Stm w g1 g2 g3 g4 c4 p q t B) (h1 : g1 ≠ r) (h2 : g2 ≠ r) (h3 : g3 ≠ r) (h4 : g4 ≠ r) : Stm (w.setCell ⟨r, i, none⟩ v) g1 g2 g3 g4 c4 p q t B := by
 have k : ∀ (g j : Nat), g ≠ r → (w.setCell ⟨r, i, none⟩ v).cell? ⟨g, j, none⟩ = w.cell? ⟨g, j, none⟩ := fun g j hg => World.cell?_setCell_other _ _ _ _ (fun e => hg (congrArg Addr.block e).symm)
 exact ⟨by rw [World.size_setCell]; exact h.l1, by rw [World.size_setCell]; exact h.l2, by rw [World.size_setCell]; exact h.l3, by rw [World.size_setCell]; exact h.l4,
  (k _ _ h1).trans h.m0, (k _ _ h1).trans h.m1, fun j hj => (k _ _ h2).trans (h.vs j hj), (k _ _ h3).trans h.e0, (k _ _ h3).trans h.e1, (k _ _ h3).trans h.e2,
  fun j hj => (k _ _ h4).trans (h.t0 j hj), fun j hj => (k _ _ h4).trans (h.t1 j hj), fun j hj => (k _ _ h4).trans (h.t2 j hj), fun j hj => (k _ _ h4).trans (h.t3 j hj), h.cap⟩

theorem Stm.drew {w : World} {g1 g2 g3 g4 c4 p q t : Nat} {B : List Nat} (h : Stm w g1 g2 g3 g4 c4 p q t B) : Stm w.drew g1 g2 g3 g4 c4 p q t B := h.after (Below.refl _ _).drew

/-- what a function that states or errs returns -/
def ResPost (w : World) (p q t : Nat) (B : List Nat) (e : Ending) (w' : World) : Prop :=
 ∃ g1 g2 g3 g4 c1 c2 c3 c4 : Nat, e = .returned (.tuple #[.agg #[.slice (some ⟨g1, 0, none⟩) 1 c1, .slice (some ⟨g2, 0, none⟩) B.length c2, .slice (some ⟨g3, 0, none⟩) 1 c3], .int .i64 0]) ∧ Stm w' g1 g2 g3 g4 c4 p q t B ∧ Below w.heap.size w w'

end Go.Proofs.YtfgandecbkbleaaGreatDoor
end

section
set_option linter.unusedVariables false
set_option linter.unusedSimpArgs false
/- A call of a Go function at a step of a region that draws its order, by the callee's contract. -/
namespace Go.Proofs.YtfgandecbkbleaaGreatDoor
open Go.RowKit Go.Shelf

theorem wp_call_law {P : Program} {o : Oper} {a : Act} {w : World} {K : Act → World → Prop} {Q : Exit → Act → World → Prop} (f : FuncId) (xs : Array Operand) (ts : Array TypeId)
  (ho : o.op = .call { callee := .value (.func f), args := xs, argTypes := ts }) (hE : ∀ args w, (callFunc f args).run P w = .ok (.enter f args) w) {v : Value} {R : World → Prop}
  (hc : Calls P f (xs.map a.eval) w fun e w' => e = .returned v ∧ R w') (h : ∀ w', R w' → K (a.put o.dst v) w') : o.wp P a w K Q := by
 have hrun : (execOp a.eval o).run P w = .ok (.enter f (xs.map a.eval)) w := by
  simp [execOp, ho, resolve, invoke, go_sem, hE]
 unfold Oper.wp
 rw [hrun, Oper.upon_enter]
 refine hc.mono fun e w' he => ?_
 obtain ⟨rfl, hR⟩ := he
 exact h w' hR

/-- one argument -/
theorem step_call1 {P : Program} {ops : Array Oper} {o : Oper} {a : Act} {w : World} {K : Act → World → Prop} {Q : Exit → Act → World → Prop} {E : Prop} (hgd : o.guard = none) (f : FuncId) (x : Operand) (t : TypeId)
  (ho : o.op = .call { callee := .value (.func f), args := #[x], argTypes := #[t] }) (hE : ∀ args w, (callFunc f args).run P w = .ok (.enter f args) w) (u : Value) (hx : a.eval x = u) {v : Value} {R : World → Prop}
  (hc : Calls P f #[u] w fun e w' => e = .returned v ∧ R w') (h : ∀ w', R w' → K (a.put o.dst v) w') :
  if Region.wanted o (yielded ops a.tmps) = true then Oper.wp P o a w K Q else E := by
 have hw : Region.wanted o (yielded ops a.tmps) = true := by simp [Region.wanted, hgd]
 rw [if_pos hw]
 refine wp_call_law f #[x] #[t] ho hE ?_ h
 have e : (#[x].map a.eval) = #[u] := by simp [hx]
 rw [e]; exact hc

theorem step_call {P : Program} {ops : Array Oper} {o : Oper} {a : Act} {w : World} {K : Act → World → Prop} {Q : Exit → Act → World → Prop} {E : Prop} (hgd : o.guard = none) (f : FuncId) (xs : Array Operand) (ts : Array TypeId)
  (ho : o.op = .call { callee := .value (.func f), args := xs, argTypes := ts }) (hE : ∀ args w, (callFunc f args).run P w = .ok (.enter f args) w) {v : Value} {R : World → Prop}
  (hc : Calls P f (xs.map a.eval) w fun e w' => e = .returned v ∧ R w') (h : ∀ w', R w' → K (a.put o.dst v) w') :
  if Region.wanted o (yielded ops a.tmps) = true then Oper.wp P o a w K Q else E := by
 have hw : Region.wanted o (yielded ops a.tmps) = true := by simp [Region.wanted, hgd]
 rw [if_pos hw]
 exact wp_call_law f xs ts ho hE hc h

end Go.Proofs.YtfgandecbkbleaaGreatDoor
end
