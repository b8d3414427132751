import Derived.Test.YtehoiholhkfcpaaGreatOwn
import Derived.Test.YtehoiholhkfcpaaGreatPwr
import Derived.Test.YtehoiholhkfcpaaGreatLck6
import Derived.Deep.RegionHeld3
section
set_option linter.unusedVariables false
set_option linter.unusedSimpArgs false
set_option maxRecDepth 100000
namespace Go.Proofs.YtehoiholhkfcpaaGreat
open Go.RowKit

set_option maxHeartbeats 1600000 in
theorem imul_c (x y : Int) (w : World) (hx : x.natAbs < 256 ^ 128) (hy : y.natAbs < 256 ^ 128) (hxy : x.natAbs * y.natAbs < 256 ^ 128) :
  Calls Tryz.prog 35 #[.agg #[.bool (sg (x)), .string (E (x).natAbs)], .agg #[.bool (sg (y)), .string (E (y).natAbs)]] w fun e w' => e = .returned (.tuple #[.agg #[.bool (sg (x * y)), .string (E (x * y).natAbs)], .int .i64 0]) ∧ Below w.heap.size w w' := by
 have HX := Lib.hid hx
 have HY := Lib.hid hy
 have HXY := Lib.hid hxy
 have hs := (E_size_le _ 128).2 hxy
 clear hx hy hxy
 have HM := Lib.hid (mul_made x y)
 have hA := blk3a w #[Value.bool (sg x), Value.string (E x.natAbs)] #[Value.bool (sg y), Value.string (E y.natAbs)] #[Value.bool false, Value.string { data := #[] }] 53 53 53
 have hB := blk3b w #[Value.bool (sg x), Value.string (E x.natAbs)] #[Value.bool (sg y), Value.string (E y.natAbs)] #[Value.bool false, Value.string { data := #[] }] 53 53 53
 have hC := blk3c w #[Value.bool (sg x), Value.string (E x.natAbs)] #[Value.bool (sg y), Value.string (E y.natAbs)] #[Value.bool false, Value.string { data := #[] }] 53 53 53
 go_enter Tryz.func35, Tryz.ntmps35
 go_wp2_with fail
 refine (iboth_c x y _ HX.out HY.out).mono ?_
 rintro e w1 ⟨rfl, hb1⟩
 replace hA := hA.after hb1
 replace hB := hB.after hb1
 replace hC := hC.after hb1
 obtain ⟨hAc0, hAf0, hAc1, hAf1⟩ := hA.x2
 obtain ⟨hBc0, hBf0, hBc1, hBf1⟩ := hB.x2
 go_wp2_with fail
 refine (mul_c x.natAbs y.natAbs _ HX.out HY.out HXY.out).mono ?_
 rintro e w2 ⟨rfl, hb2⟩
 clear hAc0 hAf0 hAc1 hAf1
 clear hBc0 hBf0 hBc1 hBf1
 replace hA := hA.after hb2
 replace hB := hB.after hb2
 replace hC := hC.after hb2
 obtain ⟨hAc0, hAf0, hAc1, hAf1⟩ := hA.x2
 obtain ⟨hBc0, hBf0, hBc1, hBf1⟩ := hB.x2
 go_wp2_with fail
 refine (made_c (sg x != sg y) (x.natAbs * y.natAbs) (x * y) _ (by omega) HM.out).mono ?_
 rintro e w3 ⟨rfl, hb3⟩
 clear hAc0 hAf0 hAc1 hAf1
 clear hBc0 hBf0 hBc1 hBf1
 replace hC := hC.after hb3
 obtain ⟨hCc0, hCf0, hCc1, hCf1⟩ := hC.x2
 go_wp2
 refine bodyPost_ret (v := .tuple #[.agg #[.bool (sg (x * y)), .string (E (x * y).natAbs)], .int .i64 0]) ?_ rfl ⟨rfl, ?_⟩
 ·simp [results, Tryz.results35, go_sem, hCc0, hCc1]
 ·exact ((bt (bt (bt (b3 _ _ _ _) hb1) hb2) hb3).setCell (by simp; omega) _).setCell (by simp; omega) _

set_option maxHeartbeats 1600000 in
theorem checked_nil (p q : Nat) (w : World) (hp : p < 256 ^ 8) (hq : q < 256 ^ 128) (hg : grpE p q = 0) :
  Calls Tryz.prog 107 #[.agg #[.string (E p), .string (E q)], .slice none 0 0, .slice none 0 0, .bool true] w fun e w' => e = .returned (.int .i64 0) ∧ Below w.heap.size w w' := by
 have HC := Lib.hid (fun w => pcheckV_c p q 0 w hp hq hg)
 have hB := Blk.new w #[Value.string (E p), Value.string (E q)] 90
 have hBW := b1 w (.cells #[Value.string (E p), Value.string (E q)] 90)
 clear hp hq hg
 go_enter Tryz.func107, Tryz.ntmps107
 go_wp2
 go_loop [18] (fun i => i = .int .i64 0) (fun i => 0)
 case atStart => rfl
 case round =>
  subst hrel
  go_wp2
  go_loop [28] (fun i => i = .int .i64 0) (fun i => 0)
  case atStart => rfl
  case round =>
   subst hrel
   obtain ⟨hBc0, hBf0, hBc1, hBf1⟩ := hB.x2
   go_wp2_with fail
   refine (HC.out _).mono ?_
   rintro e w3 ⟨rfl, hb3⟩
   go_wp2
   go_loop [45] (fun i => i = .int .i64 0) (fun i => 0)
   case atStart => rfl
   case round =>
    subst hrel
    go_wp2
    go_ret
    exact ⟨rfl, bt hBW hb3⟩

set_option maxHeartbeats 1600000 in
theorem product_nil (p q : Nat) (w : World) (hp : p < 256 ^ 8) (hq : q < 256 ^ 128) (hg : grpE p q = 0) :
  Calls Tryz.prog 106 #[.agg #[.string (E p), .string (E q)], .slice none 0 0, .slice none 0 0] w fun e w' => e = .returned (.tuple #[.string (E 1), .int .i64 0]) ∧ Below w.heap.size w w' := by
 have HCK := Lib.hid (fun w => checked_nil p q w hp hq hg)
 have hmk : ∀ w : World, (Instr.makeSlice 31 (.int .i64 0) (.int .i64 0)).run Tryz.prog w = .ok (.slice (some ⟨w.heap.size, 0, none⟩) 0 0) (w.alloc (.cells #[] 22)) := fun w => by
  have h := run_mks (P := Tryz.prog) Tryz.underlying31 info_nat 0 (by omega) (by omega) w
  simpa using h
 have hG := Blk.new w #[Value.string (E p), Value.string (E q)] 90
 have hBW := b1 w (.cells #[Value.string (E p), Value.string (E q)] 90)
 have HO := Lib.hid (fun w => ofK_c 1 1 w rfl (by decide))
 clear hp hq hg
 obtain ⟨hGc0, hGf0, hGc1, hGf1⟩ := hG.x2
 go_enter Tryz.func106, Tryz.ntmps106
 go_wp2_with fail
 refine (HCK.out _).mono ?_
 rintro e w1 ⟨rfl, hb1⟩
 clear hGc0 hGf0 hGc1 hGf1
 replace hBW := bt hBW hb1
 go_wp2
 go_loopw [10, 37] (fun v i wr => v = .int .i64 0 ∧ i = .int .i64 0 ∧ Below w1.heap.size w1 wr) (fun _ _ _ => 0)
 case atStart => exact ⟨rfl, rfl, b1 _ _⟩
 case round =>
  obtain ⟨rfl, rfl, hbr⟩ := hrel
  obtain ⟨wp, hwp⟩ : ∃ wp, wp = wr := ⟨_, rfl⟩
  subst hwp
  replace hBW := bt hBW hbr
  go_wp2_with fail
  refine (HO.out _).mono ?_
  rintro e w3 ⟨rfl, hb3⟩
  replace hBW := ba (bt hBW hb3) (.cells #[.string (E 1)] 22)
  have hO := Blk.new w3 #[.string (E 1)] 22
  go_wp2
  generalize hw4 : w3.alloc (.cells #[.string (E 1)] 22) = w4 at hO hBW
  go_loopw [17] (fun i wr => i = .int .i64 (-1) ∧ Below w4.heap.size w4 wr) (fun _ _ => 0)
  case atStart => exact ⟨rfl, Below.refl _ _⟩
  case round =>
   obtain ⟨rfl, hbs⟩ := hrel
   replace hO := hO.after hbs
   obtain ⟨hOc0, hOf0⟩ := hO.x1
   go_wp2
   go_ret2
   exact ⟨rfl, bt hBW hbs⟩

/-- rows of numbers and of integers that a call owns -/
def NOwn (w : World) (base : Nat) (v : Value) (L : List Nat) : Prop := w.ownsRow base 22 1 v L.length (strs L)
def ZOwn (w : World) (base : Nat) (v : Value) (Z : List Int) : Prop := w.ownsRow base 53 2 v Z.length (ics (Z.map zI))

theorem NOwn.ss {w : World} {base : Nat} {v : Value} {L : List Nat} (h : NOwn w base v L) : SsAt w v (L.map E) := by
 have h0 : w.ownsRow base 22 1 v L.length (strs L) := h
 rcases h0.2 with ⟨rfl, h2⟩ | ⟨g, cap, cur, rfl, h3, h4, _⟩
 ·exact ⟨none, 0, by simp [h2], .inl (by simp [h2])⟩
 ·refine ⟨_, _, by simp; rfl, .inr ⟨g, 0, rfl, (Array.getElem?_eq_some_iff.1 h4).1, fun j hj => ⟨_, rfl, fun i hi => ?_⟩⟩⟩
  obtain rfl : i = 0 := by omega
  have hj' : j < L.length := by simpa using hj
  rw [show (0 + j * 1 + 0 : Nat) = j by omega]
  rw [own_cellS h0 j _ (by rw [strs, List.getElem?_map, List.getElem?_eq_getElem hj']; rfl)]
  simp

theorem ZOwn.zs {w : World} {base : Nat} {v : Value} {Z : List Int} (h : ZOwn w base v Z) : ZsAt w v Z := by
 have h0 : w.ownsRow base 53 2 v Z.length (ics (Z.map zI)) := h
 rcases h0.2 with ⟨rfl, h2⟩ | ⟨g, cap, cur, rfl, h3, h4, _⟩
 ·exact ⟨none, 0, by simp [h2], .inl (by simp [h2])⟩
 ·refine ⟨_, _, by simp; rfl, .inr ⟨g, 0, rfl, (Array.getElem?_eq_some_iff.1 h4).1, fun j hj => ⟨_, rfl, fun i hi => ?_⟩⟩⟩
  obtain ⟨q1, q2⟩ := ics_get (Z.map zI) j hj
  obtain rfl | rfl : i = 0 ∨ i = 1 := by omega
  ·rw [show (0 + j * 2 + 0 : Nat) = j * 2 by omega, own_cellS h0 _ _ q1]; rfl
  ·rw [show (0 + j * 2 + 1 : Nat) = j * 2 + 1 by omega, own_cellS h0 _ _ q2]; rfl

theorem NOwn.form {w : World} {base : Nat} {v : Value} {L : List Nat} (h : NOwn w base v L) (h0 : 0 < L.length) : ∃ g c, v = .slice (some ⟨g, 0, none⟩) L.length c ∧ base ≤ g ∧ L.length ≤ c ∧ NatsAt w g L := by
 have k : w.ownsRow base 22 1 v L.length (strs L) := h
 rcases k.2 with ⟨rfl, h2⟩ | ⟨g, cap, cur, rfl, h3, h4, h5, _⟩
 ·omega
 ·exact ⟨g, cap, rfl, h3, h5, (Array.getElem?_eq_some_iff.1 h4).1, fun j hj => own_cellS k j _ (by rw [strs, List.getElem?_map, List.getElem?_eq_getElem hj]; rfl)⟩

theorem ZOwn.form {w : World} {base : Nat} {v : Value} {Z : List Int} (h : ZOwn w base v Z) (h0 : 0 < Z.length) : ∃ g c, v = .slice (some ⟨g, 0, none⟩) Z.length c ∧ base ≤ g ∧ Z.length ≤ c ∧ IntsAt w g Z := by
 have k : w.ownsRow base 53 2 v Z.length (ics (Z.map zI)) := h
 rcases k.2 with ⟨rfl, h2⟩ | ⟨g, cap, cur, rfl, h3, h4, h5, _⟩
 ·omega
 ·refine ⟨g, cap, rfl, h3, h5, (Array.getElem?_eq_some_iff.1 h4).1, fun j hj => ?_⟩
  obtain ⟨q1, q2⟩ := ics_get (Z.map zI) j (by simpa using hj)
  refine ⟨?_, ?_⟩
  ·rw [own_cellS k _ _ q1]; simp [zI]
  ·rw [own_cellS k _ _ q2]; simp [zI]

theorem product_own (p q : Nat) (b1' b2' : Nat) (L : List Nat) (Z : List Int) (v1 v2 : Value) (w : World) (hp : p < 256 ^ 8) (hq : q < 256 ^ 128) (hg : grpE p q = 0)
  (hn : L.length = Z.length) (hn1 : L.length ≤ 1000) (hx : ∀ x ∈ L, hasB p q x = true) (hzz : ∀ z ∈ Z, z.natAbs < 256 ^ 128) (hL : NOwn w b1' v1 L) (hZ : ZOwn w b2' v2 Z)
  (h1 : L = [] → v1 = .slice none 0 0) (h2 : Z = [] → v2 = .slice none 0 0) :
  Calls Tryz.prog 106 #[.agg #[.string (E p), .string (E q)], v1, v2] w fun e w' => e = .returned (.tuple #[.string (E (pw (prs p L Z) 0 % p)), .int .i64 0]) ∧ Below w.heap.size w w' := by
 rcases Nat.eq_zero_or_pos L.length with h0 | h0
 ·have e1 := List.length_eq_zero_iff.1 h0
  have e2 := List.length_eq_zero_iff.1 (hn ▸ h0 : Z.length = 0)
  rw [h1 e1, h2 e2, e1, e2]
  have := product_nil p q w hp hq hg
  rw [show pw (prs p [] []) 0 % p = 1 by show 1 % p = 1; exact Nat.mod_eq_of_lt (by have := grp_gt hg; omega)]
  exact this
 ·obtain ⟨g1, c1, rfl, _, k1, k2⟩ := hL.form h0
  obtain ⟨g2, c2, rfl, _, k3, k4⟩ := hZ.form (by omega)
  rw [← hn] at k3 ⊢
  exact product_g p q g1 g2 c1 c2 L.length L Z w hp hq hg rfl hn.symm hn1 k1 k3 hx hzz k2 k4

theorem prs_snoc (p : Nat) (L : List Nat) (Z : List Int) (k : Nat) (h1 : k < L.length) (h2 : k < Z.length) : prs p (L.take (k + 1)) (Z.take (k + 1)) = prs p (L.take k) (Z.take k) ++ [(bse p L[k] Z[k], Z[k].natAbs)] := by
 rw [List.take_succ_eq_append_getElem h1, List.take_succ_eq_append_getElem h2]
 unfold prs
 rw [List.zipWith_append (by simp; omega)]
 rfl

theorem pw_snoc (l : List (Nat × Nat)) (x e : Nat) : pw (l ++ [(x, e)]) 0 = pw l 0 * x ^ e := by
 induction l with
 | nil => simp [pw]
 | cons y t ih => simp only [List.cons_append, pw, ih, Nat.mul_assoc]

theorem powI_bse {p x : Nat} (z : Int) (hx : x < p) : powI x z p = bse p x z ^ z.natAbs % p := by
 unfold powI bse
 rw [Nat.mod_eq_of_lt hx]
 split <;> rfl

theorem prodI_step (p : Nat) (L : List Nat) (Z : List Int) (k : Nat) (h1 : k < L.length) (h2 : k < Z.length) (hx : L[k] < p) : pw (prs p (L.take k) (Z.take k)) 0 % p * powI L[k] Z[k] p % p = pw (prs p (L.take (k + 1)) (Z.take (k + 1))) 0 % p := by
 rw [prs_snoc p L Z k h1 h2, pw_snoc, powI_bse _ hx, ← Nat.mul_mod]

set_option maxHeartbeats 4000000 in
theorem rproduct_c (p q : Nat) (L : List Nat) (Z : List Int) (v1 v2 : Value) (w : World) (hp : p < 256 ^ 8) (hq : q < 256 ^ 128) (hg : grpE p q = 0)
  (hn : L.length = Z.length) (hn1 : L.length ≤ 1000) (hx : ∀ x ∈ L, hasB p q x = true) (hzz : ∀ z ∈ Z, z.natAbs < 256 ^ 128) (hL : SsAt w v1 (L.map E)) (hZ : ZsAt w v2 Z) :
  Calls Tryz.prog 62 #[.agg #[.string (E p), .string (E q)], v1, v2] w fun e w' => e = .returned (.tuple #[.string (E (pw (prs p L Z) 0 % p)), .int .i64 0]) ∧ Below w.heap.size w w' := by
 obtain ⟨a1, c1, e1⟩ := RAt.form hL
 obtain ⟨a2, c2, e2⟩ := hZ.form
 rw [List.length_map] at e1
 rw [← hn] at e2
 obtain ⟨n, hn'⟩ : ∃ n, n = L.length := ⟨_, rfl⟩
 have HNL := Lib.hid hn'
 have HNZ : Hid (n = Z.length) := by rw [Hid, hn', hn]
 rw [← hn'] at e1 e2 hn1
 subst e1 e2
 have HP2 := Lib.hid (grp_gt hg)
 have HP := Lib.hid hp
 have HX := Lib.hid hx
 have HZZ := Lib.hid hzz
 have HG := Lib.hid hg
 have HQ := Lib.hid hq
 obtain ⟨r, hr⟩ : ∃ r, r = pw (prs p L Z) 0 % p := ⟨_, rfl⟩
 have HRES := Lib.hid hr
 rw [← hr]
 have HC := Lib.hid (fun w => rpcheckV_c p q 0 w hp hq hg)
 have hB := Blk.new w #[Value.string (E p), Value.string (E q)] 90
 have hBW := b1 w (.cells #[Value.string (E p), Value.string (E q)] 90)
 replace hL := SsAt.after hL hBW
 replace hZ := hZ.after hBW
 clear hp hq hg hx hzz hn hr hn'
 obtain ⟨hBc0, hBf0, hBc1, hBf1⟩ := hB.x2
 go_enter Tryz.func62, Tryz.ntmps62
 go_wp2
 clear hBc0 hBf0 hBc1 hBf1
 generalize w.alloc (.cells #[Value.string (E p), Value.string (E q)] 90) = w1 at hB hBW hL hZ
 replace hB : Blk w1 w.heap.size 90 [.string (E p), .string (E q)] := hB
 go_loopw [8] (fun i wr => ∃ k : Nat, k ≤ n ∧ i = .int .i64 k ∧ Below w1.heap.size w1 wr) (fun i _ => n - (intOf i).toNat)
 case atStart => exact ⟨0, by omega, rfl, Below.refl _ _⟩
 case round =>
  obtain ⟨k, hk, rfl, hbr⟩ := hrel
  obtain ⟨wp, hwp⟩ : ∃ wp, wp = wr := ⟨_, rfl⟩
  subst hwp
  replace hB := hB.after hbr
  replace hL := SsAt.after hL hbr
  replace hZ := hZ.after hbr
  replace hBW := bt hBW hbr
  by_cases hlt : k < n
  ·have hkl : k < L.length := by rw [← HNL.out]; exact hlt
   have hkl' : k < (L.map E).length := by simpa using hkl
   obtain ⟨b, o, rfl, hbl, x1⟩ := SsAt.at_ hL hkl'
   have HHX := Lib.hid (HX.out _ (List.getElem_mem hkl))
   simp only [List.getElem_map] at x1
   generalize (L[k]'hkl) = x at x1 HHX
   have HN := Lib.hid (lt128 (Nat.lt_trans (has_lt HHX.out) HP.out))
   have h0k : (0 : Int) ≤ (k : Int) := by omega
   have h1k : (k : Int) < (n : Int) := by omega
   go_wp2_with fail
   refine (rvalidV_c (E x) true _ (by have := szM HN.out; omega) (vldB_E x HN.out)).mono ?_
   rintro e w' ⟨rfl, rfl⟩
   go_wp2
   go_roundw
   case rel => exact ⟨k + 1, by omega, by go_num, hbr⟩
   case measure => simp [intOf]; omega
  ·clear hbr
   go_wp2
   go_loopw [9] (fun i wr => ∃ k : Nat, k ≤ n ∧ i = .int .i64 k ∧ Below wp.heap.size wp wr) (fun i _ => n - (intOf i).toNat)
   case atStart => exact ⟨0, by omega, rfl, Below.refl _ _⟩
   case round =>
    obtain ⟨k, hk, rfl, hbr⟩ := hrel
    obtain ⟨wq, hwq⟩ : ∃ wq, wq = wr := ⟨_, rfl⟩
    subst hwq
    replace hB := hB.after hbr
    replace hL := SsAt.after hL hbr
    replace hZ := hZ.after hbr
    replace hBW := bt hBW hbr
    by_cases hlt : k < n
    ·have hkl : k < Z.length := by rw [← HNZ.out]; exact hlt
     obtain ⟨b, o, rfl, hbl, x1, x2⟩ := hZ.at_ hkl
     have HZB := Lib.hid (HZZ.out _ (List.getElem_mem hkl))
     generalize (Z[k]'hkl) = z at x1 x2 HZB
     have h0k : (0 : Int) ≤ (k : Int) := by omega
     have h1k : (k : Int) < (n : Int) := by omega
     go_wp2_with fail
     refine (rivalidI_c z _ HZB.out).mono ?_
     rintro e w3 ⟨rfl, hb3⟩
     go_wp2
     go_roundw
     case rel => exact ⟨k + 1, by omega, by go_num, bt hbr hb3⟩
     case measure => simp [intOf]; omega
    ·clear hbr
     have hBl := hB.lt
     obtain ⟨hBc0, hBf0, hBc1, hBf1⟩ := hB.x2
     go_wp2_with fail
     refine (HC.out _).mono ?_
     rintro e w3 ⟨rfl, hb3⟩
     clear hBc0 hBf0 hBc1 hBf1
     replace hB := hB.after hb3
     replace hL := SsAt.after hL hb3
     replace hZ := hZ.after hb3
     replace hBW := bt hBW hb3
     clear hb3 hBl
     go_wp2
     go_loopw [11] (fun i wr => ∃ k : Nat, k ≤ n ∧ i = .int .i64 k ∧ Below w3.heap.size w3 wr) (fun i _ => n - (intOf i).toNat)
     case atStart => exact ⟨0, by omega, rfl, Below.refl _ _⟩
     case round =>
      obtain ⟨k, hk, rfl, hbr⟩ := hrel
      obtain ⟨wt, hwt⟩ : ∃ wt, wt = wr := ⟨_, rfl⟩
      subst hwt
      replace hB := hB.after hbr
      replace hL := SsAt.after hL hbr
      replace hZ := hZ.after hbr
      replace hBW := bt hBW hbr
      have hBl := hB.lt
      by_cases hlt : k < n
      ·have hkl : k < L.length := by rw [← HNL.out]; exact hlt
       have hkl' : k < (L.map E).length := by simpa using hkl
       obtain ⟨b, o, rfl, hbl, x1⟩ := SsAt.at_ hL hkl'
       have HHX := Lib.hid (HX.out _ (List.getElem_mem hkl))
       simp only [List.getElem_map] at x1
       generalize (L[k]'hkl) = x at x1 HHX
       have HN := Lib.hid (lt128 (Nat.lt_trans (has_lt HHX.out) HP.out))
       have h0k : (0 : Int) ≤ (k : Int) := by omega
       have h1k : (k : Int) < (n : Int) := by omega
       have g1 := gcl (a := ⟨b, o + k, none⟩) hbl x1
       obtain ⟨hBc0, hBf0, hBc1, hBf1⟩ := hB.x2
       have hBg0 := hB.gcell 0
       have hBg1 := hB.gcell 1
       go_wp2_with fail
       refine wp_region_gw (by kernel_rfl) (by kernel_rfl) ?_
       repeat (go_big_quiet_step (first | (go_at_call 113; exact gw_of (rhasV_c p q x true _ HP.out HQ.out HG.out HN.out HHX.out))))
       refine wpQuiet_nil ?_
       rintro w5 ⟨xw5, rfl⟩
       have hb5 := gw_below xw5
       generalize gw xw5 = w5 at hb5
       go_wp2
       go_roundw
       case rel => exact ⟨k + 1, by omega, by go_num, bt hbr hb5⟩
       case measure => simp [intOf]; omega
      ·clear hbr
       go_wp2
       go_loopw [12, 13] (fun v i wr => ∃ k : Nat, ∃ y : Nat, k ≤ n ∧ i = .int .i64 k ∧ v = .string (E y) ∧ Hid (y = pw (prs p (L.take k) (Z.take k)) 0 % p) ∧ Below wt.heap.size wt wr) (fun _ i _ => n - (intOf i).toNat)
       case atStart => exact ⟨0, 1, by omega, rfl, rfl, (Nat.mod_eq_of_lt (by have := HP2.out; omega)).symm, Below.refl _ _⟩
       case round =>
        obtain ⟨k, y, hk, rfl, rfl, HY, hbr⟩ := hrel
        obtain ⟨wu, hwu⟩ : ∃ wu, wu = wr := ⟨_, rfl⟩
        subst hwu
        replace hB := hB.after hbr
        replace hL := SsAt.after hL hbr
        replace hZ := hZ.after hbr
        replace hBW := bt hBW hbr
        clear hBl
        have hBl := hB.lt
        by_cases hlt : k < n
        ·have hkl : k < L.length := by rw [← HNL.out]; exact hlt
         have hkl' : k < (L.map E).length := by simpa using hkl
         have hkz : k < Z.length := by rw [← HNZ.out]; exact hlt
         obtain ⟨b, o, rfl, hbl, x1⟩ := SsAt.at_ hL hkl'
         obtain ⟨b', o', rfl, hbl', y1, y2⟩ := hZ.at_ hkz
         have HHX := Lib.hid (HX.out _ (List.getElem_mem hkl))
         have HZB := Lib.hid (HZZ.out _ (List.getElem_mem hkz))
         have HST := Lib.hid (prodI_step p L Z k hkl hkz (has_lt HHX.out))
         simp only [List.getElem_map] at x1
         generalize (L[k]'hkl) = x at x1 HHX HST
         generalize (Z[k]'hkz) = z at y1 y2 HZB HST
         have HPW := Lib.hid (fun w => rraw_c p q x z w HP.out HG.out HHX.out HZB.out)
         have HY8 : Hid (y < 256 ^ 8) := by rw [Hid, HY.out]; exact Nat.lt_trans (Nat.mod_lt _ (by have := HP2.out; omega)) HP.out
         have HV8 : Hid (powI x z p < 256 ^ 8) := by rw [Hid, powI_bse z (has_lt HHX.out)]; exact Nat.lt_trans (Nat.mod_lt _ (by have := HP2.out; omega)) HP.out
         have HX2 : Hid (y * powI x z p % p = pw (prs p (L.take (k + 1)) (Z.take (k + 1))) 0 % p) := by rw [Hid, HY.out]; exact HST.out
         generalize powI x z p = v at HPW HV8 HX2
         have HMM := Lib.hid (fun w => rmul3_c y v p w (lt128 HY8.out) (lt128 HV8.out) (Nat.lt_of_lt_of_le HP.out (Nat.pow_le_pow_right (show 0 < 256 by decide) (show 8 ≤ 64 by decide))) (by have := HP2.out; omega))
         have h0k : (0 : Int) ≤ (k : Int) := by omega
         have h1k : (k : Int) < (n : Int) := by omega
         have g1 := gcl (a := ⟨b, o + k, none⟩) hbl x1
         have g2 := gcl (a := ⟨b', o' + k * 2, none⟩) hbl' y1
         have g3 := gcl (a := ⟨b', o' + k * 2 + 1, none⟩) hbl' y2
         clear HST
         obtain ⟨hBc0, hBf0, hBc1, hBf1⟩ := hB.x2
         have hBg0 := hB.gcell 0
         have hBg1 := hB.gcell 1
         go_wp2_with fail
         refine wp_region_gw (by kernel_rfl) (by kernel_rfl) ?_
         repeat (go_big_quiet_step (first | (go_at_call 115; exact gw_of (HPW.out _)) | (go_at_call 114; exact gw_of (HMM.out _))))
         refine wpQuiet_nil ?_
         rintro w5 ⟨xw5, rfl⟩
         have hb5 := gw_below xw5
         generalize gw xw5 = w5 at hb5
         go_wp2
         go_roundw
         case rel => exact ⟨k + 1, y * v % p, by omega, by go_num, rfl, HX2, bt hbr hb5⟩
         case measure => simp [intOf]; omega
        ·have HF : Hid (y = r) := by rw [Hid, HY.out, HRES.out, List.take_of_length_le (by rw [← HNL.out]; omega), List.take_of_length_le (by rw [← HNZ.out]; omega)]
         go_wp2
         go_ret2
         exact ⟨by rw [HF.out]; rfl, bt hBW (Below.refl _ _)⟩

end Go.Proofs.YtehoiholhkfcpaaGreat
end

section
set_option linter.unusedVariables false
set_option linter.unusedSimpArgs false
set_option maxRecDepth 100000
namespace Go.Proofs.YtehoiholhkfcpaaGreat
open Go.RowKit Go.Shelf

/-- some cells, named -/
def CA (w : World) (l : List (Addr × Value)) : Prop := ∀ x ∈ l, x.1.block < w.heap.size ∧ w.cell? x.1 = some x.2
theorem CA.nil (w : World) : CA w [] := fun x h => by cases h
theorem CA.cons {w : World} {a : Addr} {v : Value} {l : List (Addr × Value)} (h1 : a.block < w.heap.size) (h2 : w.cell? a = some v) (h : CA w l) : CA w ((a, v) :: l) := by
 intro x hx
 rcases List.mem_cons.1 hx with rfl | hx
 ·exact ⟨h1, h2⟩
 ·exact h x hx
theorem CA.drew {w : World} {l : List (Addr × Value)} (h : CA w l) : CA w.drew l := h
theorem CA.after {w w' : World} {l : List (Addr × Value)} (h : CA w l) (hb : Below w.heap.size w w') : CA w' l := fun x hx => ⟨Nat.lt_of_lt_of_le (h x hx).1 hb.size, (hb.cell (h x hx).1).trans (h x hx).2⟩
theorem CA.alloc {w : World} {l : List (Addr × Value)} (h : CA w l) (o : Obj) : CA (w.alloc o) l := h.after (b1 _ _)
theorem CA.grown {w w' : World} {row : Option Nat} {l : List (Addr × Value)} (h : CA w l) (hg : w.grownBy w' row) (hr : ∀ x ∈ l, row ≠ some x.1.block) : CA w' l :=
 fun x hx => ⟨Nat.lt_of_lt_of_le (h x hx).1 hg.size, hg.cell (h x hx).2 (fun e => hr x hx e.symm)⟩
theorem CA.set {w : World} {l : List (Addr × Value)} (h : CA w l) (g i : Nat) (v : Value) (hne : ∀ x ∈ l, x.1.block ≠ g) : CA (w.setCell ⟨g, i, none⟩ v) l :=
 fun x hx => ⟨by rw [World.size_setCell]; exact (h x hx).1, by rw [World.cell?_setCell_other _ _ _ _ (fun e => hne x hx (congrArg Addr.block e).symm)]; exact (h x hx).2⟩
theorem CA.k1 {w : World} {a0 : Addr} {v0 : Value} (h : CA w [(a0, v0)]) : w.cell? a0 = some v0 := (h (a0, v0) (by simp)).2
theorem CA.k2 {w : World} {a0 a1 : Addr} {v0 v1 : Value} (h : CA w [(a0, v0), (a1, v1)]) : w.cell? a0 = some v0 ∧ w.cell? a1 = some v1 := ⟨(h (a0, v0) (by simp)).2, (h (a1, v1) (by simp)).2⟩
theorem CA.k3 {w : World} {a0 a1 a2 : Addr} {v0 v1 v2 : Value} (h : CA w [(a0, v0), (a1, v1), (a2, v2)]) : w.cell? a0 = some v0 ∧ w.cell? a1 = some v1 ∧ w.cell? a2 = some v2 := ⟨(h (a0, v0) (by simp)).2, (h (a1, v1) (by simp)).2, (h (a2, v2) (by simp)).2⟩
theorem CA.k4 {w : World} {a0 a1 a2 a3 : Addr} {v0 v1 v2 v3 : Value} (h : CA w [(a0, v0), (a1, v1), (a2, v2), (a3, v3)]) : w.cell? a0 = some v0 ∧ w.cell? a1 = some v1 ∧ w.cell? a2 = some v2 ∧ w.cell? a3 = some v3 := ⟨(h (a0, v0) (by simp)).2, (h (a1, v1) (by simp)).2, (h (a2, v2) (by simp)).2, (h (a3, v3) (by simp)).2⟩
theorem CA.k5 {w : World} {a0 a1 a2 a3 a4 : Addr} {v0 v1 v2 v3 v4 : Value} (h : CA w [(a0, v0), (a1, v1), (a2, v2), (a3, v3), (a4, v4)]) : w.cell? a0 = some v0 ∧ w.cell? a1 = some v1 ∧ w.cell? a2 = some v2 ∧ w.cell? a3 = some v3 ∧ w.cell? a4 = some v4 := ⟨(h (a0, v0) (by simp)).2, (h (a1, v1) (by simp)).2, (h (a2, v2) (by simp)).2, (h (a3, v3) (by simp)).2, (h (a4, v4) (by simp)).2⟩
theorem CA.k6 {w : World} {a0 a1 a2 a3 a4 a5 : Addr} {v0 v1 v2 v3 v4 v5 : Value} (h : CA w [(a0, v0), (a1, v1), (a2, v2), (a3, v3), (a4, v4), (a5, v5)]) : w.cell? a0 = some v0 ∧ w.cell? a1 = some v1 ∧ w.cell? a2 = some v2 ∧ w.cell? a3 = some v3 ∧ w.cell? a4 = some v4 ∧ w.cell? a5 = some v5 := ⟨(h (a0, v0) (by simp)).2, (h (a1, v1) (by simp)).2, (h (a2, v2) (by simp)).2, (h (a3, v3) (by simp)).2, (h (a4, v4) (by simp)).2, (h (a5, v5) (by simp)).2⟩
theorem CA.k8 {w : World} {a0 a1 a2 a3 a4 a5 a6 a7 : Addr} {v0 v1 v2 v3 v4 v5 v6 v7 : Value} (h : CA w [(a0, v0), (a1, v1), (a2, v2), (a3, v3), (a4, v4), (a5, v5), (a6, v6), (a7, v7)]) : w.cell? a0 = some v0 ∧ w.cell? a1 = some v1 ∧ w.cell? a2 = some v2 ∧ w.cell? a3 = some v3 ∧ w.cell? a4 = some v4 ∧ w.cell? a5 = some v5 ∧ w.cell? a6 = some v6 ∧ w.cell? a7 = some v7 := ⟨(h (a0, v0) (by simp)).2, (h (a1, v1) (by simp)).2, (h (a2, v2) (by simp)).2, (h (a3, v3) (by simp)).2, (h (a4, v4) (by simp)).2, (h (a5, v5) (by simp)).2, (h (a6, v6) (by simp)).2, (h (a7, v7) (by simp)).2⟩
theorem blkN {w : World} {cs : Array Value} {T : TypeId} {g : Nat} (h : g = w.heap.size) : Blk (w.alloc (.cells cs T)) g T cs.toList := by subst h; exact Blk.new _ _ _

/-- an integer in a box that a region has made -/
def ZBox (w : World) (z : Int) (s10 s11 : Value) (wx : World) : Prop := ∃ g, s10 = .pointer (some ⟨g, 0, none⟩) ∧ s11 = .int .i64 0 ∧ Blk wx g 53 [.bool (sg z), .string (E z.natAbs)] ∧ w.heap.size ≤ g ∧ Below w.heap.size w wx

def imgB (q : NEqn) : List Nat := q.trms.map (·.base)
def imgX (Z : List Int) (q : NEqn) : List Int := q.trms.map fun t => t.coef * Z.getD t.var 0
def imgV (N : NSta) (Z : List Int) (q : NEqn) : Nat := pw (prs (N.gp q).1 (imgB q) (imgX Z q)) 0 % (N.gp q).1
def NSta.imgs (N : NSta) (Z : List Int) : List Nat := N.eqs.map (imgV N Z)

theorem info_Int : (Tryz.prog.info? 53).map (fun i => (i.zero, i.size, i.bytes)) = some (some (.agg #[.bool false, .string { data := #[] }]), 2, 24) := by kernel_rfl

theorem imgB_step (q : NEqn) (k : Nat) (h : k < q.trms.length) : (imgB q).take (k + 1) = (imgB q).take k ++ [(q.trms[k]).base] := by
 unfold imgB
 rw [← List.map_take, List.take_succ_eq_append_getElem h, List.map_append, List.map_take]; rfl
theorem imgX_step (Z : List Int) (q : NEqn) (k : Nat) (h : k < q.trms.length) : (imgX Z q).take (k + 1) = (imgX Z q).take k ++ [(q.trms[k]).coef * Z.getD (q.trms[k]).var 0] := by
 unfold imgX
 rw [← List.map_take, List.take_succ_eq_append_getElem h, List.map_append, List.map_take]; rfl

theorem ics_app (a b : List Int) : ics (a.map zI) ++ ics (b.map zI) = ics ((a ++ b).map zI) := by simp [ics]
/-- between two rounds of 'images$1' -/
structure IRel (w1 : World) (k : Nat) (L : List Nat) (Z : List Int) (v6 v7 : Value) (wr : World) : Prop where
 a : NOwn wr w1.heap.size v6 L
 z : ZOwn wr w1.heap.size v7 Z
 la : L.length = k
 lz : Z.length = k
 na : k = 0 → v6 = .slice none 0 0
 nz : k = 0 → v7 = .slice none 0 0
 b : Below w1.heap.size w1 wr

theorem IRel.after {w1 : World} {k : Nat} {L : List Nat} {Z : List Int} {v6 v7 : Value} {wr wx : World} (h : IRel w1 k L Z v6 v7 wr) (hb : Below wr.heap.size wr wx) : IRel w1 k L Z v6 v7 wx :=
 ⟨own_after h.a hb, own_after h.z hb, h.la, h.lz, h.na, h.nz, bt h.b hb⟩

set_option maxHeartbeats 8000000 in
theorem imc_c (Q : NEqn) (Z : List Int) (w : World) (qg : Int) (qt : ByteArray) (tv v4 : Value) (bw : Nat) (nv : Nat) (hnv : Z.length = nv) (hn6 : nv ≤ 12) (hl8 : Q.trms.length ≤ 12)
  (ht : ∀ t ∈ Q.trms, t.base < 256 ^ 12 ∧ t.var < nv ∧ t.coef.natAbs < 256 ^ 8) (hz : ∀ z ∈ Z, z.natAbs < 256 ^ 64) (hT : TNAt w tv Q.trms) (hW : Blk w bw 30 [v4]) (hZ : ZsAt w v4 Z) :
  Calls Tryz.prog 126 #[.agg #[.int .i64 qg, .string qt, tv], .pointer (some ⟨bw, 0, none⟩)] w fun e w' => ∃ v1 v2, e = .returned (.tuple #[v1, v2, .int .i64 0]) ∧ NOwn w' w.heap.size v1 (imgB Q) ∧ ZOwn w' w.heap.size v2 (imgX Z Q) ∧ (Q.trms.length = 0 → v1 = .slice none 0 0 ∧ v2 = .slice none 0 0) ∧ Below w.heap.size w w' := by
 obtain ⟨i0, hi0, hz00, hz01, hz02⟩ := info_parts info_nat
 obtain ⟨i1, hi1, hz10, hz11, hz12⟩ := info_parts info_Int
 have HI0 := Lib.hid hi0
 have HA0 := Lib.hid hz00
 have HB0 := Lib.hid hz01
 have HC0 := Lib.hid hz02
 have HI1 := Lib.hid hi1
 have HA1 := Lib.hid hz10
 have HB1 := Lib.hid hz11
 have HC1 := Lib.hid hz12
 clear hi0 hz00 hz01 hz02 hi1 hz10 hz11 hz12
 obtain ⟨to_, tc, rfl⟩ := hT.form
 obtain ⟨a4, c4, rfl⟩ := hZ.form
 obtain ⟨n, hn'⟩ : ∃ n, n = Q.trms.length := ⟨_, rfl⟩
 have HN := Lib.hid hn'
 have HNV := Lib.hid hnv
 have HTS := Lib.hid ht
 have HZZ := Lib.hid hz
 rw [← hn'] at hT hl8
 rw [hnv] at hZ hW
 rw [show Q.trms.length = n from hn'.symm]
 have hq := Blk.new w #[.int .i64 qg, .string qt, .slice to_ n tc] 95
 have hBW := b1 w (.cells #[.int .i64 qg, .string qt, .slice to_ n tc] 95)
 replace hT := hT.after hBW
 replace hW := hW.after hBW
 replace hZ := hZ.after hBW
 clear hn' hnv ht hz
 obtain ⟨hqc0, hqf0, hqc1, hqf1, hqc2, hqf2⟩ := hq.x3
 go_enter Tryz.func126, Tryz.ntmps126
 go_wp2
 clear hqc0 hqf0 hqc1 hqf1 hqc2 hqf2
 generalize hw1 : w.alloc (.cells #[.int .i64 qg, .string qt, .slice to_ n tc] 95) = w1 at hq hBW hT hW hZ
 have hsz1 : w.heap.size < w1.heap.size := hq.lt
 clear hw1
 have hIR : IRel w1 0 ((imgB Q).take 0) ((imgX Z Q).take 0) (.slice none 0 0) (.slice none 0 0) w1 := ⟨World.ownsRow_nil _ _ _ _, World.ownsRow_nil _ _ _ _, rfl, rfl, fun _ => rfl, fun _ => rfl, Below.refl _ _⟩
 go_loopw [6, 7, 15] (fun v6 v7 i wr => ∃ k : Nat, k ≤ n ∧ i = .int .i64 k ∧ IRel w1 k ((imgB Q).take k) ((imgX Z Q).take k) v6 v7 wr) (fun _ _ i _ => n - (intOf i).toNat)
 case atStart => exact ⟨0, by omega, rfl, hIR⟩
 case round =>
  clear hIR
  obtain ⟨k, hk, rfl, hI⟩ := hrel
  obtain ⟨wp, hwp⟩ : ∃ wp, wp = wr := ⟨_, rfl⟩
  subst hwp
  have hT1 := hT.after hI.b
  have hZ1 := hZ.after hI.b
  have hW1 := hW.after hI.b
  by_cases hlt : k < n
  ·have hkl : k < Q.trms.length := by rw [← HN.out]; exact hlt
   have HTK := Lib.hid (HTS.out _ (List.getElem_mem hkl))
   have HSB := Lib.hid (imgB_step Q k hkl)
   have HSX := Lib.hid (imgX_step Z Q k hkl)
   obtain ⟨b, o, rfl, hbl, x1, x2, x3, x4⟩ := hT1.at_ hkl
   generalize (Q.trms[k]'hkl) = t at x1 x2 x3 x4 HTK HSB HSX
   obtain ⟨tb, tvv, tz⟩ := t
   simp only [] at x1 x2 x3 x4
   have hvl : tvv < Z.length := by rw [HNV.out]; exact HTK.out.2.1
   have hvn : tvv < nv := HTK.out.2.1
   obtain ⟨b', o', rfl, hbl', y1, y2⟩ := hZ1.at_ hvl
   have HZB := Lib.hid (HZZ.out _ (List.getElem_mem hvl))
   have HGD : Hid (Z.getD tvv 0 = Z[tvv]'hvl) := by rw [Hid, List.getD_eq_getElem?_getD, List.getElem?_eq_getElem hvl]; rfl
   generalize (Z[tvv]'hvl) = zz at y1 y2 HZB HGD
   clear hvl
   have HCO := Lib.hid HTK.out.2.2
   have HTB := Lib.hid HTK.out.1
   simp only [] at HCO HTB
   have HMUL : Hid (∀ w : World, Calls Tryz.prog 35 #[.agg #[.bool (sg (tz)), .string (E (tz).natAbs)], .agg #[.bool (sg (zz)), .string (E (zz).natAbs)]] w fun e w' => e = .returned (.tuple #[.agg #[.bool (sg (tz * zz)), .string (E (tz * zz).natAbs)], .int .i64 0]) ∧ Below w.heap.size w w') := fun w =>
    imul_c tz zz w (Nat.lt_of_lt_of_le HCO.out (Nat.pow_le_pow_right (show 0 < 256 by decide) (show 8 ≤ 128 by decide))) (lt64 HZB.out) (Nat.lt_of_lt_of_le (Nat.mul_lt_mul'' HCO.out HZB.out) (by rw [← Nat.pow_add]; exact Nat.pow_le_pow_right (show 0 < 256 by decide) (by decide)))
   obtain ⟨pz, hpz⟩ : ∃ p, p = tz * zz := ⟨_, rfl⟩
   have HPZ := Lib.hid hpz
   rw [← hpz] at HMUL
   clear hpz
   have h0k : (0 : Int) ≤ (k : Int) := by omega
   have h1k : (k : Int) < (n : Int) := by omega
   have h0v : (0 : Int) ≤ (tvv : Int) := by omega
   have h1v : (tvv : Int) < (nv : Int) := by omega
   have hC : CA (wp.alloc (.cells #[.string (E tb), .int .i64 (tvv : Int), .bool (sg tz), .string (E tz.natAbs)] 92)) [(⟨wp.heap.size, 1, none⟩, .int .i64 (tvv : Int)), (⟨wp.heap.size, 2, none⟩, .bool (sg tz)), (⟨wp.heap.size, 3, none⟩, .string (E tz.natAbs)), (⟨bw, 0, none⟩, .slice (some ⟨b', o', none⟩) nv c4), (⟨b', o' + tvv * 2, none⟩, .bool (sg zz)), (⟨b', o' + tvv * 2 + 1, none⟩, .string (E zz.natAbs))] := by
    have hB := Blk.new wp #[.string (E tb), .int .i64 (tvv : Int), .bool (sg tz), .string (E tz.natAbs)] 92
    exact CA.cons hB.lt (hB.cell 1) (CA.cons hB.lt (hB.cell 2) (CA.cons hB.lt (hB.cell 3) (CA.alloc (CA.cons hW1.lt (hW1.cell 0) (CA.cons hbl' y1 (CA.cons hbl' y2 (CA.nil _)))) _)))
   have hT9 := Blk.new wp #[.string (E tb), .int .i64 (tvv : Int), .bool (sg tz), .string (E tz.natAbs)] 92
   have hI9 := hI.after (b1 wp (.cells #[.string (E tb), .int .i64 (tvv : Int), .bool (sg tz), .string (E tz.natAbs)] 92))
   have hrow : ∀ g, u7.ownBlock = some g → g < wp.heap.size := fun g hg => (own_lt hI.z hg).1
   go_wp2_with fail
   generalize wp.alloc (.cells #[.string (E tb), .int .i64 (tvv : Int), .bool (sg tz), .string (E tz.natAbs)] 92) = wA at hC hT9 hI9
   generalize wp.heap.size = g9 at hC hT9 hrow ⊢
   clear hT1 hZ1 hW1 hI x1 x2 x3 x4 y1 y2 hbl hbl'
   have hg9 : g9 < wA.heap.size := hT9.lt
   have hneA := fun x hx => Nat.ne_of_lt (hC x hx).1
   go_upto_region 6 with fail
   go_cut [10, 11] (fun s10 s11 wx => ZBox wA pz s10 s11 wx)
   case first =>
    go_region_held3 (fun w' => w'.cell? ⟨g9, 1, none⟩ = some (.int .i64 (tvv : Int)) ∧ w'.cell? ⟨g9, 2, none⟩ = some (.bool (sg tz)) ∧ w'.cell? ⟨g9, 3, none⟩ = some (.string (E tz.natAbs)) ∧ w'.cell? ⟨bw, 0, none⟩ = some (.slice (some ⟨b', o', none⟩) nv c4) ∧ w'.cell? ⟨b', o' + tvv * 2, none⟩ = some (.bool (sg zz)) ∧ w'.cell? ⟨b', o' + tvv * 2 + 1, none⟩ = some (.string (E zz.natAbs))) ((refine CA.k6 ?_; repeat (first | (with_reducible exact hCf) | (with_reducible exact hC) | (with_reducible refine CA.drew ?_) | (with_reducible refine CA.alloc ?_ _) | (refine CA.set ?_ _ _ _ hneA))))
     ((go_at_call 35; refine (HMUL.out _).mono ?_; rintro e wf ⟨rfl, hbf⟩; have hCf : CA wf [(⟨g9, 1, none⟩, .int .i64 (tvv : Int)), (⟨g9, 2, none⟩, .bool (sg tz)), (⟨g9, 3, none⟩, .string (E tz.natAbs)), (⟨bw, 0, none⟩, .slice (some ⟨b', o', none⟩) nv c4), (⟨b', o' + tvv * 2, none⟩, .bool (sg zz)), (⟨b', o' + tvv * 2 + 1, none⟩, .string (E zz.natAbs))] := (by first | exact hC.drew.after hbf | exact (hC.alloc _).drew.after hbf | exact (hC.drew.alloc _).after hbf); (try (have kA := (Blk.new wA #[.bool false, .string { data := #[] }] 53).drew.after hbf; have kA0 := kA.cell 0; have kA1 := kA.cell 1; have kA2 := kA.free 0; have kA3 := kA.free 1))))
    all_goals
     go_wp2_with fail
     go_meet
     first
      | exact ⟨_, rfl, rfl, Blk.new _ _ _, hbf.size, ba ((Below.drew (Below.refl _ _)).trans hbf) _⟩
      | exact ⟨_, rfl, rfl, (kA.set 0 _).set 1 _, Nat.le_refl _, ((bt ((b1 wA _).drew) hbf).setCell (by simp) _).setCell (by simp) _⟩
   case rest =>
    obtain ⟨gx, rfl, rfl, hX, hgx, hbx⟩ := hcut
    obtain ⟨wx, hwx⟩ : ∃ wx, wx = wc := ⟨_, rfl⟩
    subst hwx
    replace hT9 := hT9.after hbx
    replace hI9 := hI9.after hbx
    clear hC hneA
    have hRA : wx.ownsRow w1.heap.size 22 1 u6 k (strs ((imgB Q).take k)) := by have h : wx.ownsRow _ _ _ _ _ _ := hI9.a; rw [hI9.la] at h; exact h
    have hRZ : wx.ownsRow w1.heap.size 53 2 u7 k (ics (((imgX Z Q).take k).map zI)) := by have h : wx.ownsRow _ _ _ _ _ _ := hI9.z; rw [hI9.lz] at h; exact h
    have hBx := hI9.b
    have hsx := hBx.size
    have HLA := Lib.hid hI9.la
    have HLZ := Lib.hid hI9.lz
    clear hI9
    generalize (imgB Q).take k = LB at hRA HSB HLA
    generalize (imgX Z Q).take k = LX at hRZ HSX HLZ
    have hC : CA wx [(⟨g9, 0, none⟩, .string (E tb)), (⟨gx, 0, none⟩, .bool (sg pz)), (⟨gx, 1, none⟩, .string (E pz.natAbs))] := CA.cons hT9.lt (hT9.cell 0) (CA.cons hX.lt (hX.cell 0) (CA.cons hX.lt (hX.cell 1) (CA.nil _)))
    have hneA : ∀ x ∈ [((⟨g9, 0, none⟩ : Addr), Value.string (E tb)), (⟨gx, 0, none⟩, .bool (sg pz)), (⟨gx, 1, none⟩, .string (E pz.natAbs))], u6.ownBlock ≠ some x.1.block := by
     have q1 := own_ne hRA hT9 (by decide)
     have q2 := own_ne hRA hX (by decide)
     intro x hx
     simp only [List.mem_cons, List.not_mem_nil, or_false] at hx
     rcases hx with rfl | rfl | rfl
     ·exact q1
     ·exact q2
     ·exact q2
    have hneB : ∀ x ∈ [((⟨g9, 0, none⟩ : Addr), Value.string (E tb)), (⟨gx, 0, none⟩, .bool (sg pz)), (⟨gx, 1, none⟩, .string (E pz.natAbs))], u7.ownBlock ≠ some x.1.block := by
     have q1 := own_ne hRZ hT9 (by decide)
     have q2 : u7.ownBlock ≠ some gx := fun e => by have := hrow gx e; omega
     intro x hx
     simp only [List.mem_cons, List.not_mem_nil, or_false] at hx
     rcases hx with rfl | rfl | rfl
     ·exact q1
     ·exact q2
     ·exact q2
    have HNA := Lib.hid hneA
    have HNB := Lib.hid hneB
    clear hneA hneB hrow
    go_upto_region 9 with fail
    go_region_held3 (fun w' => w'.cell? ⟨g9, 0, none⟩ = some (.string (E tb)) ∧ w'.cell? ⟨gx, 0, none⟩ = some (.bool (sg pz)) ∧ w'.cell? ⟨gx, 1, none⟩ = some (.string (E pz.natAbs))) ((refine CA.k3 ?_; repeat (first | (with_reducible exact hCb) | (with_reducible exact hCa) | (with_reducible exact hC) | (with_reducible refine CA.drew ?_) | (with_reducible refine CA.alloc ?_ _))))
     (first | (refine step_append_lies _ (by rfl) (.tmp 33) (.tmp 36) _ (by rfl) w1.heap.size 22 i0 _ 1 16 Tryz.underlying31 HI0.out HA0.out HB0.out HC0.out rfl (by omega) u6 k (strs LB) (by rfl) (by repeat (first | (with_reducible exact hRA) | (with_reducible refine World.ownsRow.drew ?_) | (with_reducible refine World.ownsRow.alloc ?_ _))) _ 1 1 [.string (E tb)] (by rfl) rfl (Blk.cells (T := 22) (by first | exact blkN (by simp) | exact (blkN (by simp)).alloc _)) (by simp [Value.oneCell']) (by omega) (by simp only [maxLen]; omega) (by omega) (by simp; omega) _ rfl ?_; intro ga ca wa hownA hgrowA hatA hltA; clear hatA; have hZa : wa.ownsRow w1.heap.size 53 2 u7 k (ics (LX.map zI)) := own_grown (b1 := w1.heap.size) (b2 := w1.heap.size) (e1 := 53) (e2 := 22) (s1 := 2) (s2 := 1) (n1 := k) (n2 := k) (v1 := u7) (v2 := u6) (x1 := ics (LX.map zI)) (x2 := strs LB) (by repeat (first | (with_reducible exact hRZ) | (with_reducible refine World.ownsRow.drew ?_) | (with_reducible refine World.ownsRow.alloc ?_ _))) (by repeat (first | (with_reducible exact hRA) | (with_reducible refine World.ownsRow.drew ?_) | (with_reducible refine World.ownsRow.alloc ?_ _))) (by decide) hgrowA; have hCa : CA wa [(⟨g9, 0, none⟩, .string (E tb)), (⟨gx, 0, none⟩, .bool (sg pz)), (⟨gx, 1, none⟩, .string (E pz.natAbs))] := CA.grown (by repeat (first | (with_reducible exact hC) | (with_reducible refine CA.drew ?_) | (with_reducible refine CA.alloc ?_ _))) hgrowA HNA.out; have hBa : Below w1.heap.size w1 wa := Below.grown (by repeat (first | (with_reducible exact hBx) | (with_reducible refine Below.drew ?_) | (with_reducible refine Below.alloc ?_ (by first | omega | (simp; omega)) _))) hgrowA (by simp; omega) (fun g hg => (own_lt hRA hg).2); have hsa := hgrowA.size; (try (have hLB0 : Blk wa wx.heap.size 53 [.bool (sg pz), .string (E pz.natAbs)] := Blk.grown (by first | exact (blkN (by simp)).alloc _) hgrowA (fun e => by have := (own_lt hRA e).1; omega))); (try (have hLB1 : Blk wa (wx.heap.size + 1) 53 [.bool (sg pz), .string (E pz.natAbs)] := Blk.grown (by first | exact blkN (by simp)) hgrowA (fun e => by have := (own_lt hRA e).1; omega)))) | (refine step_append_lies _ (by rfl) (.tmp 38) (.tmp 40) _ (by rfl) w1.heap.size 53 i1 _ 2 24 Tryz.underlying30 HI1.out HA1.out HB1.out HC1.out rfl (by omega) u7 k (ics (LX.map zI)) (by rfl) (by repeat (first | (with_reducible exact hZa) | (with_reducible refine World.ownsRow.drew ?_) | (with_reducible refine World.ownsRow.alloc ?_ _))) _ 1 1 [.bool (sg pz), .string (E pz.natAbs)] (by rfl) rfl (Blk.cells (T := 53) (by first | exact blkN (by simp) | exact hLB0 | exact hLB1)) (by simp [Value.oneCell']) (by omega) (by simp only [maxLen]; omega) (by omega) (by have := hBa.size; simp; omega) _ rfl ?_; intro gb cb wb hownB hgrowB hatB hltB; clear hatB; have hAb : wb.ownsRow w1.heap.size 22 1 (.slice (some ⟨ga, 0, none⟩) (k + 1) ca) (k + 1) (strs LB ++ [.string (E tb)]) := own_grown (b1 := w1.heap.size) (b2 := w1.heap.size) (e1 := 22) (e2 := 53) (s1 := 1) (s2 := 2) (n1 := k + 1) (n2 := k) (v1 := .slice (some ⟨ga, 0, none⟩) (k + 1) ca) (v2 := u7) (x1 := strs LB ++ [.string (E tb)]) (x2 := ics (LX.map zI)) (by repeat (first | (with_reducible exact hownA) | (with_reducible refine World.ownsRow.drew ?_) | (with_reducible refine World.ownsRow.alloc ?_ _))) (by repeat (first | (with_reducible exact hZa) | (with_reducible refine World.ownsRow.drew ?_) | (with_reducible refine World.ownsRow.alloc ?_ _))) (by decide) hgrowB; have hCb : CA wb [(⟨g9, 0, none⟩, .string (E tb)), (⟨gx, 0, none⟩, .bool (sg pz)), (⟨gx, 1, none⟩, .string (E pz.natAbs))] := CA.grown (by repeat (first | (with_reducible exact hCa) | (with_reducible refine CA.drew ?_) | (with_reducible refine CA.alloc ?_ _))) hgrowB HNB.out; have hBb : Below w1.heap.size w1 wb := Below.grown (by repeat (first | (with_reducible exact hBa) | (with_reducible refine Below.drew ?_) | (with_reducible refine Below.alloc ?_ (by have := hBa.size; first | omega | (simp; omega)) _))) hgrowB (by have := hBa.size; simp; omega) (fun g hg => (own_lt hRZ hg).2)))
    all_goals
     have hIR : IRel w1 (k + 1) (LB ++ [tb]) (LX ++ [pz]) (.slice (some ⟨ga, 0, none⟩) (k + 1) ca) (.slice (some ⟨gb, 0, none⟩) (k + 1) cb) wb := by
      refine ⟨?_, ?_, by simp [HLA.out], by simp [HLZ.out], fun h => by omega, fun h => by omega, hBb⟩
      ·rw [NOwn, List.length_append, HLA.out, ← strs_app]; exact hAb
      ·rw [ZOwn, List.length_append, HLZ.out, ← ics_app]; exact hownB
     rw [← HSB.out, HPZ.out, ← HGD.out, ← HSX.out] at hIR
     clear hAb hownB hownA hCa hCb hBa hBb hgrowA hgrowB hZa
     go_wp2
     go_roundw
     case rel => exact ⟨k + 1, by omega, by go_num, hIR⟩
     case measure => simp [intOf]; omega
  ·obtain rfl : k = n := by omega
   have HTB : Hid ((imgB Q).take k = imgB Q) := List.take_of_length_le (by rw [HN.out]; simp [imgB])
   have HTX : Hid ((imgX Z Q).take k = imgX Z Q) := List.take_of_length_le (by rw [HN.out]; simp [imgX])
   rw [HTB.out, HTX.out] at hI
   go_wp2
   go_ret3
   refine ⟨_, _, rfl, own_mono hI.a (by omega), own_mono hI.z (by omega), fun h => ⟨hI.na h, hI.nz h⟩, hBW.trans (hI.b.mono (by omega))⟩

end Go.Proofs.YtehoiholhkfcpaaGreat
end

section
set_option linter.unusedVariables false
set_option linter.unusedSimpArgs false
set_option maxRecDepth 100000
namespace Go.Proofs.YtehoiholhkfcpaaGreat
open Go.RowKit Go.Shelf

/-- what a function that returns a list of numbers returns -/
def LPost (w : World) (L : List Nat) (e : Ending) (w' : World) : Prop := ∃ v, e = .returned (.tuple #[v, .int .i64 0]) ∧ NOwn w' w.heap.size v L ∧ Below w.heap.size w w'

theorem imgs_step (N : NSta) (Z : List Int) (k : Nat) (h : k < N.eqs.length) : (N.imgs Z).take (k + 1) = (N.imgs Z).take k ++ [imgV N Z N.eqs[k]] := by
 unfold NSta.imgs
 rw [← List.map_take, List.take_succ_eq_append_getElem h, List.map_append, List.map_take]; rfl

theorem chk_elem {N : NSta} (h : N.chk = 0) (k : Nat) (hk : k < N.eqs.length) (hg : N.eqs[k].grp < N.grps.length) : grpE N.grps[N.eqs[k].grp].1 N.grps[N.eqs[k].grp].2 = 0 ∧ hasB N.grps[N.eqs[k].grp].1 N.grps[N.eqs[k].grp].2 N.eqs[k].tgt = true ∧ ∀ x ∈ imgB N.eqs[k], hasB N.grps[N.eqs[k].grp].1 N.grps[N.eqs[k].grp].2 x = true := by
 obtain ⟨_, he, _⟩ := chk_inv h
 unfold NSta.elem at he
 rw [Bool.and_eq_true, List.all_eq_true, List.all_eq_true] at he
 have h1 := he.1 _ (List.getElem_mem hg)
 have h2 := he.2 _ (List.getElem_mem hk)
 unfold elemQ at h2
 rw [gp_at N _ hg, Bool.and_eq_true, List.all_eq_true] at h2
 refine ⟨by simpa [gr0] using h1, h2.1, fun x hx => ?_⟩
 obtain ⟨t, ht, rfl⟩ := List.mem_map.1 hx
 exact h2.2 t ht

theorem imgX_lt {N : NSta} (hm : NOk N) (Z : List Int) (hz : ∀ z ∈ Z, z.natAbs < 256 ^ 64) (q : NEqn) (hq : q ∈ N.eqs) : ∀ z ∈ imgX Z q, z.natAbs < 256 ^ 128 := by
 intro z hzz
 obtain ⟨t, ht, rfl⟩ := List.mem_map.1 hzz
 obtain ⟨_, _, _, h4⟩ := hm.e q hq
 have h5 := (h4 t ht).2.2
 have h6 : (Z.getD t.var 0).natAbs < 256 ^ 64 := by
  rw [List.getD_eq_getElem?_getD]
  by_cases hv : t.var < Z.length
  ·rw [List.getElem?_eq_getElem hv]; exact hz _ (List.getElem_mem hv)
  ·rw [List.getElem?_eq_none (by omega)]; exact Nat.pow_pos (by decide)
 rw [Int.natAbs_mul]
 exact Nat.lt_of_lt_of_le (Nat.mul_lt_mul'' h5 h6) (by rw [← Nat.pow_add]; exact Nat.pow_le_pow_right (show 0 < 256 by decide) (by decide))

set_option maxHeartbeats 8000000 in
theorem images_c (N : NSta) (Z : List Int) (v1 v2 v3 v4 : Value) (w : World) (hm : NOk N) (hS : NAt w v1 v2 v3 N) (hZ : ZsAt w v4 Z) (hz : ∀ z ∈ Z, z.natAbs < 256 ^ 64) (hl : Z.length = N.vars.length) (hc : N.chk = 0) :
  Calls Tryz.prog 72 #[.agg #[v1, v2, v3], v4] w (LPost w (N.imgs Z)) := by
 obtain ⟨i0, hi0, hz00, hz01, hz02⟩ := info_parts info_nat
 have HI0 := Lib.hid hi0
 have HA0 := Lib.hid hz00
 have HB0 := Lib.hid hz01
 have HC0 := Lib.hid hz02
 clear hi0 hz00 hz01 hz02
 obtain ⟨a4, c4, rfl⟩ := hZ.form
 have HZZ := Lib.hid hz
 have HL := Lib.hid hl
 have HCK := Lib.hid hc
 have HMM := Lib.hid hm
 rw [hl] at hZ ⊢
 clear hz hl hc
 obtain ⟨a1, c1, a2, c2, a3, c3, rfl, rfl, rfl⟩ := hS.forms
 obtain ⟨n1, hn1⟩ : ∃ n, n = N.grps.length := ⟨_, rfl⟩
 obtain ⟨n2, hn2⟩ : ∃ n, n = N.vars.length := ⟨_, rfl⟩
 obtain ⟨n3, hn3⟩ : ∃ n, n = N.eqs.length := ⟨_, rfl⟩
 have HN1 := Lib.hid hn1
 have HN2 := Lib.hid hn2
 have HN3 := Lib.hid hn3
 have l1 : n1 ≤ 10 := by rw [hn1]; exact hm.ng
 have l2 : n2 ≤ 12 := by rw [hn2]; exact hm.nv
 have l3 : n3 ≤ 12 := by rw [hn3]; exact hm.ne
 have HM := Lib.hid hm
 rw [← hn1, ← hn2, ← hn3] at hS ⊢
 clear hm hn1 hn2 hn3
 rw [← HN2.out] at hZ
 have hP := blk2a w #[.slice a1 n1 c1, .slice a2 n2 c2, .slice a3 n3 c3] #[.slice a4 n2 c4] 29 30
 have hW := blk2b w #[.slice a1 n1 c1, .slice a2 n2 c2, .slice a3 n3 c3] #[.slice a4 n2 c4] 29 30
 have hBW := b2 w (.cells #[.slice a1 n1 c1, .slice a2 n2 c2, .slice a3 n3 c3] 29) (.cells #[.slice a4 n2 c4] 30)
 replace hS := hS.after hBW
 replace hZ := hZ.after hBW
 obtain ⟨hPc0, hPf0, hPc1, hPf1, hPc2, hPf2⟩ := hP.x3
 go_enter Tryz.func72, Tryz.ntmps72
 go_wp2
 clear hPc0 hPf0 hPc1 hPf1 hPc2 hPf2
 generalize hw1 : (w.alloc (.cells #[.slice a1 n1 c1, .slice a2 n2 c2, .slice a3 n3 c3] 29)).alloc (.cells #[.slice a4 n2 c4] 30) = w1 at hP hW hBW hS hZ
 replace hP : Blk w1 w.heap.size 29 [.slice a1 n1 c1, .slice a2 n2 c2, .slice a3 n3 c3] := hP
 replace hW : Blk w1 (w.heap.size + 1) 30 [.slice a4 n2 c4] := hW
 clear hw1
 go_loopw [7, 18] (fun v7 i wr => ∃ k : Nat, k ≤ n3 ∧ i = .int .i64 k ∧ NOwn wr w1.heap.size v7 ((N.imgs Z).take k) ∧ Below w1.heap.size w1 wr) (fun _ i _ => n3 - (intOf i).toNat)
 case atStart => exact ⟨0, by omega, rfl, World.ownsRow_nil _ _ _ _, Below.refl _ _⟩
 case round =>
  obtain ⟨k, hk, rfl, hO, hbr⟩ := hrel
  obtain ⟨wp, hwp⟩ : ∃ wp, wp = wr := ⟨_, rfl⟩
  subst hwp
  have hS1 := hS.after hbr
  have hP1 := hP.after hbr
  have hW1 := hW.after hbr
  have hZ1 := hZ.after hbr
  have hBW1 := bt hBW hbr
  by_cases hlt : k < n3
  ·have hkl : k < N.eqs.length := by rw [← HN3.out]; exact hlt
   have HSZ := Lib.hid (HM.out.e _ (List.getElem_mem hkl))
   have HCE := Lib.hid (chk_elem HCK.out k hkl HSZ.out.1)
   have HXL := Lib.hid (imgX_lt HM.out Z HZZ.out _ (List.getElem_mem hkl))
   have HST := Lib.hid (imgs_step N Z k hkl)
   obtain ⟨b, o, tv, rfl, hbl, x1, x2, x3, hTs⟩ := hS1.eat hkl
   generalize (N.eqs[k]'hkl) = q at x1 x2 x3 hTs HSZ HCE HXL HST
   have hgl := HSZ.out.1
   have hgn : q.grp < n1 := by rw [HN1.out]; exact hgl
   have HGP := Lib.hid (gp_at N q hgl)
   have HGZ := Lib.hid (HM.out.g _ (List.getElem_mem hgl))
   have HIV : Hid (imgV N Z q = pw (prs (N.grps[q.grp]'hgl).1 (imgB q) (imgX Z q)) 0 % (N.grps[q.grp]'hgl).1) := by rw [Hid, imgV, HGP.out]
   obtain ⟨b', o', rfl, hbl', y1, y2⟩ := hS1.gat hgl
   generalize (N.grps[q.grp]'hgl) = gg at y1 y2 HGZ HCE HIV
   clear hgl HGP
   obtain ⟨p, qq⟩ := gg
   simp only [] at y1 y2
   have hIM : Hid (∀ w', Below wp.heap.size wp w' → Calls Tryz.prog 126 #[.agg #[.int .i64 (q.grp : Int), .string (E q.tgt), tv], .pointer (some ⟨w.heap.size + 1, 0, none⟩)] w' fun e w'' => ∃ v1 v2, e = .returned (.tuple #[v1, v2, .int .i64 0]) ∧ NOwn w'' w'.heap.size v1 (imgB q) ∧ ZOwn w'' w'.heap.size v2 (imgX Z q) ∧ (q.trms.length = 0 → v1 = .slice none 0 0 ∧ v2 = .slice none 0 0) ∧ Below w'.heap.size w' w'') := fun w' hb' =>
    imc_c q Z w' _ _ _ _ _ n2 (by rw [HL.out, HN2.out]) l2 HSZ.out.2.2.1 (fun t ht => by rw [HN2.out]; exact HSZ.out.2.2.2 t ht) HZZ.out (hTs.after hb') (hW1.after hb') (hZ1.after hb')
   obtain ⟨to_, tc, rfl⟩ := hTs.form
   obtain ⟨n4, hn4⟩ : ∃ n, n = q.trms.length := ⟨_, rfl⟩
   have HN4 := Lib.hid hn4
   rw [← hn4] at x3 hTs hIM
   clear hn4
   obtain ⟨qg, hqg⟩ : ∃ g, g = q.grp := ⟨_, rfl⟩
   obtain ⟨qt, hqt⟩ : ∃ g, g = q.tgt := ⟨_, rfl⟩
   rw [← hqg] at x1 y1 y2 hgn hIM
   rw [← hqt] at x2 hIM
   clear hqg hqt
   have h0k : (0 : Int) ≤ (k : Int) := by omega
   have h1k : (k : Int) < (n3 : Int) := by omega
   have h0g : (0 : Int) ≤ (qg : Int) := by omega
   have h1g : (qg : Int) < (n1 : Int) := by omega
   have hPl := hP1.lt
   have hB := Blk.new wp #[.int .i64 (qg : Int), .string (E qt), .slice to_ n4 tc] 95
   have hb9 := b1 wp (.cells #[.int .i64 (qg : Int), .string (E qt), .slice to_ n4 tc] 95)
   obtain ⟨hBc0, hBf0, hBc1, hBf1, hBc2, hBf2⟩ := hB.x3
   go_wp2_with fail
   refine (hIM.out _ hb9).mono ?_
   rintro e w2 ⟨u1, u2, rfl, hN, hX, hnil, hb2⟩
   clear hBc0 hBf0 hBc1 hBf1 hBc2 hBf2
   have hb92 := bt hb9 hb2
   have hB2 := hB.after hb2
   have hP2 := hP1.after hb92
   have hO2 := own_after hO hb92
   have hbr2 := bt hbr hb92
   have z1 := (hb92.cell (p := ⟨b', o' + qg * 2, none⟩) hbl').trans y1
   have z2 := (hb92.cell (p := ⟨b', o' + qg * 2 + 1, none⟩) hbl').trans y2
   have hbl2 := Nat.lt_of_lt_of_le hbl' hb92.size
   have hPl2 := hP2.lt
   have hBl2 := hB2.lt
   have HNIL := Lib.hid hnil
   have HPR : Hid (Calls Tryz.prog 106 #[.agg #[.string (E p), .string (E qq)], u1, u2] w2 fun e w' => e = .returned (.tuple #[.string (E (imgV N Z q)), .int .i64 0]) ∧ Below w2.heap.size w2 w') := by
    rw [HIV.out]
    exact product_own p qq _ _ (imgB q) (imgX Z q) u1 u2 w2 HGZ.out.1 (lt128 HGZ.out.2) HCE.out.1 (by simp [imgB, imgX]) (by have := HSZ.out.2.2.1; simp [imgB]; omega) HCE.out.2.2 HXL.out hN hX
     (fun h => (HNIL.out (by rw [HN4.out]; simpa [imgB] using h)).1) (fun h => (HNIL.out (by rw [HN4.out]; simpa [imgX] using h)).2)
   clear hnil hb2 hb92 hB hP1 hO hbr hN hX hS1 hW1 hZ1 hTs hIM hbl' y1 y2 x1 x2 x3 hPl
   obtain ⟨hP2c0, hP2f0, hP2c1, hP2f1, hP2c2, hP2f2⟩ := hP2.x3
   obtain ⟨hB2c0, hB2f0, hB2c1, hB2f1, hB2c2, hB2f2⟩ := hB2.x3
   go_wp2_with fail
   refine HPR.out.mono ?_
   rintro e w3 ⟨rfl, hb3⟩
   clear hP2c0 hP2f0 hP2c1 hP2f1 hP2c2 hP2f2
   clear hB2c0 hB2f0 hB2c1 hB2f1 hB2c2 hB2f2
   have hO3 := own_after hO2 hb3
   have hbr3 := bt hbr2 hb3
   have hLE : Hid (((N.imgs Z).take k).length = k) := by rw [Hid, List.length_take, NSta.imgs, List.length_map]; omega
   rw [hLE.out] at hO3
   clear HPR hb3 hO2 hbr2 hP2 hB2
   have hsz3 := hbr3.size
   have HIM := Lib.hid HST.out
   generalize imgV N Z q = iv at HIM ⊢
   generalize (N.imgs Z).take k = LI at hO3 HIM hLE
   go_wp2_with (at_builtin; refine wpList_append_lies _ rfl (.tmp 47) (.tmp 49) _ rfl w1.heap.size 22 i0 _ 1 16 Tryz.underlying31 HI0.out HA0.out HB0.out HC0.out rfl (by omega) u7 k (strs LI) rfl (own_after hO3 (b1 _ (.cells #[.string (E iv)] 22))) ⟨w3.heap.size, 0, none⟩ 1 1 [.string (E iv)] rfl rfl (Blk.new w3 #[.string (E iv)] 22).cells (by simp [Value.oneCell']) (by omega) (by simp only [maxLen]; omega) (by omega) (by rw [World.size_alloc]; omega) (w3.heap.size + 1) (by simp) ?_; intro ga ca wa hown hgrow hat hlt2)
   have hOA : NOwn wa w1.heap.size (.slice (some ⟨ga, 0, none⟩) (k + 1) ca) (LI ++ [iv]) := by rw [NOwn, List.length_append, hLE.out, ← strs_app]; exact hown
   rw [← HIM.out] at hOA
   have hbA := (ba hbr3 (.cells #[.string (E iv)] 22)).grown hgrow (by rw [World.size_alloc]; omega) (fun x hx => (own_lt hO3 hx).2)
   clear hown hgrow hat hlt2 hO3 hbr3
   go_wp2
   go_roundw
   case rel => exact ⟨k + 1, by omega, by go_num, hOA, hbA⟩
   case measure => simp [intOf]; omega
  ·have HTK : Hid ((N.imgs Z).take k = N.imgs Z) := List.take_of_length_le (by rw [NSta.imgs, List.length_map, ← HN3.out]; omega)
   rw [HTK.out] at hO
   have hs1 := hBW.size
   obtain ⟨hP1c0, hP1f0, hP1c1, hP1f1, hP1c2, hP1f2⟩ := hP1.x3
   go_wp2
   go_ret2
   exact ⟨_, rfl, own_mono hO hs1, hBW1⟩

set_option maxHeartbeats 1600000 in
theorem Images_c (N : NSta) (Z : List Int) (v1 v2 v3 v4 : Value) (w : World) (hm : NOk N) (hS : NAt w v1 v2 v3 N) (hZ : ZsAt w v4 Z) (hz : ∀ z ∈ Z, z.natAbs < 256 ^ 64) (hl : Z.length = N.vars.length) (hc : N.chk = 0) :
  Calls Tryz.prog 69 #[.agg #[v1, v2, v3], v4] w (LPost w (N.imgs Z)) := by
 obtain ⟨a4, c4, rfl⟩ := hZ.form
 have hbox := b1 w (.cells #[v1, v2, v3] 29)
 have HRD := Lib.hid (ready_c N Z v1 v2 v3 _ _ hm (hS.after hbox) (hZ.after hbox) (fun z h => lt64 (hz z h)) hl hc)
 have HIM : Hid (∀ w', Below w.heap.size w w' → Calls Tryz.prog 72 #[.agg #[v1, v2, v3], .slice a4 Z.length c4] w' (LPost w' (N.imgs Z))) := fun w' hb' => images_c N Z v1 v2 v3 _ w' hm (hS.after hb') (hZ.after hb') hz hl hc
 have hP := Blk.new w #[v1, v2, v3] 29
 obtain ⟨a1, c1, a2, c2, a3, c3, rfl, rfl, rfl⟩ := hS.forms
 generalize Z.length = n at HRD HIM
 generalize N.imgs Z = L at HIM
 generalize N.grps.length = n1 at hP hbox HRD HIM
 generalize N.vars.length = n2 at hP hbox HRD HIM
 generalize N.eqs.length = n3 at hP hbox HRD HIM
 clear hm hS hZ hz hl hc
 obtain ⟨hPc0, hPf0, hPc1, hPf1, hPc2, hPf2⟩ := hP.x3
 go_enter Tryz.func69, Tryz.ntmps69
 go_wp2_with fail
 refine HRD.out.mono ?_
 rintro e w2 ⟨rfl, hb2⟩
 clear hPc0 hPf0 hPc1 hPf1 hPc2 hPf2
 replace hP := hP.after hb2
 have hBW := bt hbox hb2
 have hPl := hP.lt
 clear hb2
 obtain ⟨hPc0, hPf0, hPc1, hPf1, hPc2, hPf2⟩ := hP.x3
 go_wp2_with fail
 refine (HIM.out _ hBW).mono ?_
 rintro e w3 ⟨v, rfl, hO, hb3⟩
 go_wp2
 go_ret2
 exact ⟨v, rfl, own_mono hO hBW.size, bt hBW hb3⟩

end Go.Proofs.YtehoiholhkfcpaaGreat
end

section
set_option linter.unusedVariables false
set_option linter.unusedSimpArgs false
set_option maxRecDepth 100000
namespace Go.Proofs.YtehoiholhkfcpaaGreat
open Go.RowKit Go.Shelf

set_option maxHeartbeats 16000000 in
theorem rimages_c (N : NSta) (Z : List Int) (v1 v2 v3 v4 : Value) (w : World) (hm : NOk N) (hS : NAt w v1 v2 v3 N) (hZ : ZsAt w v4 Z) (hz : ∀ z ∈ Z, z.natAbs < 256 ^ 64) (hl : Z.length = N.vars.length) (hc : N.chk = 0) :
  Calls Tryz.prog 90 #[.agg #[v1, v2, v3], v4] w (LPost w (N.imgs Z)) := by
 obtain ⟨i0, hi0, hz00, hz01, hz02⟩ := info_parts info_nat
 obtain ⟨i1, hi1, hz10, hz11, hz12⟩ := info_parts info_Int
 have HI0 := Lib.hid hi0
 have HA0 := Lib.hid hz00
 have HB0 := Lib.hid hz01
 have HC0 := Lib.hid hz02
 have HI1 := Lib.hid hi1
 have HA1 := Lib.hid hz10
 have HB1 := Lib.hid hz11
 have HC1 := Lib.hid hz12
 clear hi0 hz00 hz01 hz02 hi1 hz10 hz11 hz12
 obtain ⟨a4, c4, rfl⟩ := hZ.form
 have HZZ := Lib.hid hz
 have HL := Lib.hid hl
 have HCK := Lib.hid hc
 rw [hl] at hZ ⊢
 clear hz hl hc
 obtain ⟨a1, c1, a2, c2, a3, c3, rfl, rfl, rfl⟩ := hS.forms
 obtain ⟨n1, hn1⟩ : ∃ n, n = N.grps.length := ⟨_, rfl⟩
 obtain ⟨n2, hn2⟩ : ∃ n, n = N.vars.length := ⟨_, rfl⟩
 obtain ⟨n3, hn3⟩ : ∃ n, n = N.eqs.length := ⟨_, rfl⟩
 have HN1 := Lib.hid hn1
 have HN2 := Lib.hid hn2
 have HN3 := Lib.hid hn3
 have l1 : n1 ≤ 10 := by rw [hn1]; exact hm.ng
 have l2 : n2 ≤ 12 := by rw [hn2]; exact hm.nv
 have l3 : n3 ≤ 12 := by rw [hn3]; exact hm.ne
 have HM := Lib.hid hm
 rw [← hn1, ← hn2, ← hn3] at hS ⊢
 clear hm hn1 hn2 hn3
 rw [← HN2.out] at hZ
 have hP := Blk.new w #[.slice a1 n1 c1, .slice a2 n2 c2, .slice a3 n3 c3] 29
 have hBW := b1 w (.cells #[.slice a1 n1 c1, .slice a2 n2 c2, .slice a3 n3 c3] 29)
 replace hS := hS.after hBW
 replace hZ := hZ.after (b1 w (.cells #[.slice a1 n1 c1, .slice a2 n2 c2, .slice a3 n3 c3] 29))
 obtain ⟨hPc0, hPf0, hPc1, hPf1, hPc2, hPf2⟩ := hP.x3
 go_enter Tryz.func90, Tryz.ntmps90
 go_wp2
 clear hPc0 hPf0 hPc1 hPf1 hPc2 hPf2
 generalize w.alloc (.cells #[.slice a1 n1 c1, .slice a2 n2 c2, .slice a3 n3 c3] 29) = w1 at hP hBW hS hZ
 replace hP : Blk w1 w.heap.size 29 [.slice a1 n1 c1, .slice a2 n2 c2, .slice a3 n3 c3] := hP
 go_loopw [6, 7] (fun v6 i wr => ∃ k : Nat, k ≤ n3 ∧ i = .int .i64 k ∧ NOwn wr w1.heap.size v6 ((N.imgs Z).take k) ∧ Below w1.heap.size w1 wr) (fun _ i _ => n3 - (intOf i).toNat)
 case atStart => exact ⟨0, by omega, rfl, World.ownsRow_nil _ _ _ _, Below.refl _ _⟩
 case round =>
  obtain ⟨k, hk, rfl, hO, hbr⟩ := hrel
  obtain ⟨wp, hwp⟩ : ∃ wp, wp = wr := ⟨_, rfl⟩
  subst hwp
  have hS1 := hS.after hbr
  have hP1 := hP.after hbr
  have hZ1 := hZ.after hbr
  have hBW1 := bt hBW hbr
  have hPl := hP1.lt
  by_cases hlt : k < n3
  ·have hkl : k < N.eqs.length := by rw [← HN3.out]; exact hlt
   have HSZ := Lib.hid (HM.out.e _ (List.getElem_mem hkl))
   have HCE := Lib.hid (chk_elem HCK.out k hkl HSZ.out.1)
   have HXL := Lib.hid (imgX_lt HM.out Z HZZ.out _ (List.getElem_mem hkl))
   have HST := Lib.hid (imgs_step N Z k hkl)
   obtain ⟨b, o, tv, rfl, hbl, x1, x2, x3, hTs⟩ := hS1.eat hkl
   generalize (N.eqs[k]'hkl) = q at x1 x2 x3 hTs HSZ HCE HXL HST
   have hgl := HSZ.out.1
   have hgn : q.grp < n1 := by rw [HN1.out]; exact hgl
   have HGP := Lib.hid (gp_at N q hgl)
   have HGZ := Lib.hid (HM.out.g _ (List.getElem_mem hgl))
   have HIV : Hid (imgV N Z q = pw (prs (N.grps[q.grp]'hgl).1 (imgB q) (imgX Z q)) 0 % (N.grps[q.grp]'hgl).1) := by rw [Hid, imgV, HGP.out]
   obtain ⟨bg, og_, rfl, hbg, y1, y2⟩ := hS1.gat hgl
   generalize (N.grps[q.grp]'hgl) = gg at y1 y2 HGZ HCE HIV
   clear hgl HGP
   obtain ⟨p, qq⟩ := gg
   simp only [] at y1 y2
   obtain ⟨to_, tc, rfl⟩ := hTs.form
   obtain ⟨n4, hn4⟩ : ∃ n, n = q.trms.length := ⟨_, rfl⟩
   have HN4 := Lib.hid hn4
   rw [← hn4] at x3 hTs
   clear hn4
   obtain ⟨qg, hqg⟩ : ∃ g, g = q.grp := ⟨_, rfl⟩
   obtain ⟨qt, hqt⟩ : ∃ g, g = q.tgt := ⟨_, rfl⟩
   rw [← hqg] at x1 y1 y2 hgn
   rw [← hqt] at x2
   clear hqg hqt
   have l4 : n4 ≤ 12 := by rw [HN4.out]; exact HSZ.out.2.2.1
   have h0k : (0 : Int) ≤ (k : Int) := by omega
   have h1k : (k : Int) < (n3 : Int) := by omega
   have h0g : (0 : Int) ≤ (qg : Int) := by omega
   have h1g : (qg : Int) < (n1 : Int) := by omega
   have hQ := Blk.new wp #[.int .i64 (qg : Int), .string (E qt), .slice to_ n4 tc] 95
   have hb8 := b1 wp (.cells #[.int .i64 (qg : Int), .string (E qt), .slice to_ n4 tc] 95)
   obtain ⟨hP1c0, hP1f0, hP1c1, hP1f1, hP1c2, hP1f2⟩ := hP1.x3
   go_wp2
   clear hP1c0 hP1f0 hP1c1 hP1f1 hP1c2 hP1f2
   have hP2 := hP1.after hb8
   have hT2 := hTs.after hb8
   have hZ2 := hZ1.after hb8
   have hO2 := own_after hO hb8
   have hbr2 := bt hbr hb8
   have z1 := (hb8.cell (p := ⟨bg, og_ + qg * 2, none⟩) hbg).trans y1
   have z2 := (hb8.cell (p := ⟨bg, og_ + qg * 2 + 1, none⟩) hbg).trans y2
   have hbg2 := Nat.lt_of_lt_of_le hbg hb8.size
   clear hS1 hP1 hZ1 hO hbr hTs y1 y2 x1 x2 x3 hbl hbg hPl
   generalize wp.alloc (.cells #[.int .i64 (qg : Int), .string (E qt), .slice to_ n4 tc] 95) = wi at hQ hb8 hP2 hT2 hZ2 hO2 hbr2 z1 z2 hbg2
   obtain ⟨g8, hg8⟩ : ∃ g, wp.heap.size = g := ⟨_, rfl⟩
   rw [hg8] at hQ ⊢
   replace hQ : Blk wi g8 95 [.int .i64 (qg : Int), .string (E qt), .slice to_ n4 tc] := hQ
   clear hg8 hb8
   have hIR : IRel wi 0 ((imgB q).take 0) ((imgX Z q).take 0) (.slice none 0 0) (.slice none 0 0) wi := ⟨World.ownsRow_nil _ _ _ _, World.ownsRow_nil _ _ _ _, rfl, rfl, fun _ => rfl, fun _ => rfl, Below.refl _ _⟩
   go_loopw [9, 10, 11] (fun v9 v10 i wr => ∃ k : Nat, k ≤ n4 ∧ i = .int .i64 k ∧ IRel wi k ((imgB q).take k) ((imgX Z q).take k) v9 v10 wr) (fun _ _ i _ => n4 - (intOf i).toNat)
   case atStart => exact ⟨0, by omega, rfl, hIR⟩
   case round =>
    clear hIR
    obtain ⟨j, hj, rfl, hI⟩ := hrel
    obtain ⟨wq, hwq⟩ : ∃ wq, wq = wr := ⟨_, rfl⟩
    subst hwq
    have hT3 := hT2.after hI.b
    have hZ3 := hZ2.after hI.b
    have hQ3 := hQ.after hI.b
    have hQl := hQ3.lt
    by_cases hltj : j < n4
    ·have hjl : j < q.trms.length := by rw [← HN4.out]; exact hltj
     have HTK := Lib.hid (HSZ.out.2.2.2 _ (List.getElem_mem hjl))
     have HSB := Lib.hid (imgB_step q j hjl)
     have HSX := Lib.hid (imgX_step Z q j hjl)
     obtain ⟨b, o, rfl, hbl, x1, x2, x3, x4⟩ := hT3.at_ hjl
     generalize (q.trms[j]'hjl) = t at x1 x2 x3 x4 HTK HSB HSX
     obtain ⟨tb, tvv, tz⟩ := t
     simp only [] at x1 x2 x3 x4
     have hvl : tvv < Z.length := by rw [HL.out]; exact HTK.out.2.1
     have hvn : tvv < n2 := by rw [HN2.out]; exact HTK.out.2.1
     obtain ⟨b', o', rfl, hbl', y1, y2⟩ := hZ3.at_ hvl
     have HZB := Lib.hid (HZZ.out _ (List.getElem_mem hvl))
     have HGD : Hid (Z.getD tvv 0 = Z[tvv]'hvl) := by rw [Hid, List.getD_eq_getElem?_getD, List.getElem?_eq_getElem hvl]; rfl
     generalize (Z[tvv]'hvl) = zz at y1 y2 HZB HGD
     clear hvl
     have HCO := Lib.hid HTK.out.2.2
     have HTB := Lib.hid HTK.out.1
     simp only [] at HCO HTB
     have HMUL : Hid (∀ w : World, Calls Tryz.prog 139 #[.agg #[.bool (sg (tz)), .string (E (tz).natAbs)], .agg #[.bool (sg (zz)), .string (E (zz).natAbs)]] w fun e w' => e = .returned (.tuple #[.agg #[.bool (sg (tz * zz)), .string (E (tz * zz).natAbs)], .int .i64 0]) ∧ Below w.heap.size w w') := fun w =>
      rimul_c tz zz w (Nat.lt_of_lt_of_le HCO.out (Nat.pow_le_pow_right (show 0 < 256 by decide) (show 8 ≤ 128 by decide))) (lt64 HZB.out) (Nat.lt_of_lt_of_le (Nat.mul_lt_mul'' HCO.out HZB.out) (by rw [← Nat.pow_add]; exact Nat.pow_le_pow_right (show 0 < 256 by decide) (by decide)))
     obtain ⟨pz, hpz⟩ : ∃ p, p = tz * zz := ⟨_, rfl⟩
     have HPZ := Lib.hid hpz
     rw [← hpz] at HMUL
     clear hpz
     have h0j : (0 : Int) ≤ (j : Int) := by omega
     have h1j : (j : Int) < (n4 : Int) := by omega
     have h0v : (0 : Int) ≤ (tvv : Int) := by omega
     have h1v : (tvv : Int) < (n2 : Int) := by omega
     have hC : CA wq [(⟨g8, 2, none⟩, .slice (some ⟨b, o, none⟩) n4 tc), (⟨b, o + j * 4 + 1, none⟩, .int .i64 (tvv : Int)), (⟨b, o + j * 4 + 2, none⟩, .bool (sg tz)), (⟨b, o + j * 4 + 3, none⟩, .string (E tz.natAbs)), (⟨b', o' + tvv * 2, none⟩, .bool (sg zz)), (⟨b', o' + tvv * 2 + 1, none⟩, .string (E zz.natAbs))] := CA.cons hQl (hQ3.cell 2) (CA.cons hbl x2 (CA.cons hbl x3 (CA.cons hbl x4 (CA.cons hbl' y1 (CA.cons hbl' y2 (CA.nil _))))))
     have hneA := fun x hx => Nat.ne_of_lt (hC x hx).1
     clear hT3 hZ3 x2 x3 x4 y1 y2
     obtain ⟨hQ3c0, hQ3f0, hQ3c1, hQ3f1, hQ3c2, hQ3f2⟩ := hQ3.x3
     go_upto_region 11 with fail
     clear hQ3c0 hQ3f0 hQ3c1 hQ3f1 hQ3c2 hQ3f2
     go_cut [12, 13] (fun s12 s13 wx => ZBox wq pz s12 s13 wx)
     case first =>
      go_region_held3 (fun w' => w'.cell? ⟨g8, 2, none⟩ = some (.slice (some ⟨b, o, none⟩) n4 tc) ∧ w'.cell? ⟨b, o + j * 4 + 1, none⟩ = some (.int .i64 (tvv : Int)) ∧ w'.cell? ⟨b, o + j * 4 + 2, none⟩ = some (.bool (sg tz)) ∧ w'.cell? ⟨b, o + j * 4 + 3, none⟩ = some (.string (E tz.natAbs)) ∧ w'.cell? ⟨b', o' + tvv * 2, none⟩ = some (.bool (sg zz)) ∧ w'.cell? ⟨b', o' + tvv * 2 + 1, none⟩ = some (.string (E zz.natAbs))) ((refine CA.k6 ?_; repeat (first | (with_reducible exact hCf) | (with_reducible exact hC) | (with_reducible refine CA.drew ?_) | (with_reducible refine CA.alloc ?_ _) | (refine CA.set ?_ _ _ _ hneA))))
       ((go_at_call 139; refine (HMUL.out _).mono ?_; rintro e wf ⟨rfl, hbf⟩; have hCf : CA wf [(⟨g8, 2, none⟩, .slice (some ⟨b, o, none⟩) n4 tc), (⟨b, o + j * 4 + 1, none⟩, .int .i64 (tvv : Int)), (⟨b, o + j * 4 + 2, none⟩, .bool (sg tz)), (⟨b, o + j * 4 + 3, none⟩, .string (E tz.natAbs)), (⟨b', o' + tvv * 2, none⟩, .bool (sg zz)), (⟨b', o' + tvv * 2 + 1, none⟩, .string (E zz.natAbs))] := (by first | exact hC.drew.after hbf | exact (hC.alloc _).drew.after hbf | exact (hC.drew.alloc _).after hbf); (try (have kA := (Blk.new wq #[.bool false, .string { data := #[] }] 53).drew.after hbf; have kA0 := kA.cell 0; have kA1 := kA.cell 1; have kA2 := kA.free 0; have kA3 := kA.free 1))))
      all_goals
       go_wp2_with fail
       go_meet
       first
        | exact ⟨_, rfl, rfl, Blk.new _ _ _, hbf.size, ba ((Below.drew (Below.refl _ _)).trans hbf) _⟩
        | exact ⟨_, rfl, rfl, (kA.set 0 _).set 1 _, Nat.le_refl _, ((bt ((b1 wq _).drew) hbf).setCell (by simp) _).setCell (by simp) _⟩
     case rest =>
      obtain ⟨gx, rfl, rfl, hX, hgx, hbx⟩ := hcut
      obtain ⟨wx, hwx⟩ : ∃ wx, wx = wc := ⟨_, rfl⟩
      subst hwx
      have hrow : ∀ g, u10.ownBlock = some g → g < wq.heap.size := fun g hg => (own_lt hI.z hg).1
      have hQ4 := hQ3.after hbx
      have x1' := (hbx.cell (p := ⟨b, o + j * 4, none⟩) hbl).trans x1
      have hbl4 := Nat.lt_of_lt_of_le hbl hbx.size
      have hI9 := hI.after hbx
      have hRA : wx.ownsRow wi.heap.size 22 1 u9 j (strs ((imgB q).take j)) := by have h : wx.ownsRow _ _ _ _ _ _ := hI9.a; rw [hI9.la] at h; exact h
      have hRZ : wx.ownsRow wi.heap.size 53 2 u10 j (ics (((imgX Z q).take j).map zI)) := by have h : wx.ownsRow _ _ _ _ _ _ := hI9.z; rw [hI9.lz] at h; exact h
      have hBx := hI9.b
      have hsx := hBx.size
      have HLA := Lib.hid hI9.la
      have HLZ := Lib.hid hI9.lz
      clear hI9 hI hC hneA hQ3 x1 hbl hbl'
      generalize (imgB q).take j = LB at hRA HSB HLA
      generalize (imgX Z q).take j = LX at hRZ HSX HLZ
      have hQl4 := hQ4.lt
      have hrl := fun g hg => (own_lt hRA (g := g) hg)
      obtain ⟨hQ4c0, hQ4f0, hQ4c1, hQ4f1, hQ4c2, hQ4f2⟩ := hQ4.x3
      go_wp2_with (first | (at_builtin; refine wpList_append_lies _ rfl (.tmp 57) (.tmp 64) _ rfl wi.heap.size 22 i0 _ 1 16 Tryz.underlying31 HI0.out HA0.out HB0.out HC0.out rfl (by omega) u9 j (strs LB) rfl (own_after hRA (b1 _ (.cells #[.string (E tb)] 22))) ⟨wx.heap.size, 0, none⟩ 1 1 [.string (E tb)] rfl rfl (Blk.new wx #[.string (E tb)] 22).cells (by simp [Value.oneCell']) (by omega) (by simp only [maxLen]; omega) (by omega) (by rw [World.size_alloc]; omega) (wx.heap.size + 1) (by simp) ?_; intro ga ca wa hownA hgrowA hatA hltA; clear hatA hltA; have hXa := (hX.alloc (.cells #[.string (E tb)] 22)).grown hgrowA (own_ne hRA hX (by decide)); have hXal := hXa.lt; have hXc0 := hXa.cell 0; have hXc1 := hXa.cell 1; have hRZa : wa.ownsRow wi.heap.size 53 2 u10 j (ics (LX.map zI)) := own_grown (own_after hRZ (b1 _ (.cells #[.string (E tb)] 22))) (own_after hRA (b1 _ (.cells #[.string (E tb)] 22))) (by decide) hgrowA; have hQa := (hQ4.alloc (.cells #[.string (E tb)] 22)).grown hgrowA (own_ne hRA hQ4 (by decide)); have hBa : Below wi.heap.size wi wa := Below.grown (Below.alloc hBx (by omega) _) hgrowA (by simp; omega) (fun g hg => (own_lt hRA hg).2); have hsa := hBa.size) | (at_builtin; refine wpList_append_lies _ rfl (.tmp 66) (.tmp 68) _ rfl wi.heap.size 53 i1 _ 2 24 Tryz.underlying30 HI1.out HA1.out HB1.out HC1.out rfl (by omega) u10 j (ics (LX.map zI)) rfl (own_after hRZa (b1 _ (.cells #[.bool (sg pz), .string (E pz.natAbs)] 53))) ⟨wa.heap.size, 0, none⟩ 1 1 [.bool (sg pz), .string (E pz.natAbs)] rfl rfl (Blk.new wa #[.bool (sg pz), .string (E pz.natAbs)] 53).cells (by simp [Value.oneCell']) (by omega) (by simp only [maxLen]; omega) (by omega) (by rw [World.size_alloc]; omega) (wa.heap.size + 1) (by simp) ?_; intro gb cb wb hownB hgrowB hatB hltB; clear hatB hltB; have hAb : wb.ownsRow wi.heap.size 22 1 (.slice (some ⟨ga, 0, none⟩) (j + 1) ca) (j + 1) (strs LB ++ [.string (E tb)]) := own_grown (own_after hownA (b1 _ (.cells #[.bool (sg pz), .string (E pz.natAbs)] 53))) (own_after hRZa (b1 _ (.cells #[.bool (sg pz), .string (E pz.natAbs)] 53))) (by decide) hgrowB; have hBb : Below wi.heap.size wi wb := Below.grown (Below.alloc hBa (by omega) _) hgrowB (by simp; omega) (fun g hg => (own_lt hRZa hg).2)))
      clear hQ4c0 hQ4f0 hQ4c1 hQ4f1 hQ4c2 hQ4f2
      have hIR : IRel wi (j + 1) (LB ++ [tb]) (LX ++ [pz]) (.slice (some ⟨ga, 0, none⟩) (j + 1) ca) (.slice (some ⟨gb, 0, none⟩) (j + 1) cb) wb := by
       refine ⟨?_, ?_, by simp [HLA.out], by simp [HLZ.out], fun h => by omega, fun h => by omega, hBb⟩
       ·rw [NOwn, List.length_append, HLA.out, ← strs_app]; exact hAb
       ·rw [ZOwn, List.length_append, HLZ.out, ← ics_app]; exact hownB
      rw [← HSB.out, HPZ.out, ← HGD.out, ← HSX.out] at hIR
      clear hAb hownB hownA hBa hBb hgrowA hgrowB hRZa hXa hQa hRA hRZ
      go_wp2
      go_roundw
      case rel => exact ⟨j + 1, by omega, by go_num, hIR⟩
      case measure => simp [intOf]; omega
    ·have HTB : Hid ((imgB q).take j = imgB q) := List.take_of_length_le (by have := HN4.out; simp [imgB]; omega)
     have HTX : Hid ((imgX Z q).take j = imgX Z q) := List.take_of_length_le (by have := HN4.out; simp [imgX]; omega)
     rw [HTB.out, HTX.out] at hI
     have hP4 := hP2.after hI.b
     have hO4 := own_after hO2 hI.b
     have hbr4 := bt hbr2 hI.b
     have t1 := (hI.b.cell (p := ⟨bg, og_ + qg * 2, none⟩) hbg2).trans z1
     have t2 := (hI.b.cell (p := ⟨bg, og_ + qg * 2 + 1, none⟩) hbg2).trans z2
     have hbg4 := Nat.lt_of_lt_of_le hbg2 hI.b.size
     have hPl4 := hP4.lt
     have HPR : Hid (Calls Tryz.prog 62 #[.agg #[.string (E p), .string (E qq)], u9, u10] wq fun e w' => e = .returned (.tuple #[.string (E (imgV N Z q)), .int .i64 0]) ∧ Below wq.heap.size wq w') := by
      rw [HIV.out]
      exact rproduct_c p qq (imgB q) (imgX Z q) u9 u10 wq HGZ.out.1 (lt128 HGZ.out.2) HCE.out.1 (by simp [imgB, imgX]) (by have := HSZ.out.2.2.1; simp [imgB]; omega) HCE.out.2.2 HXL.out hI.a.ss hI.z.zs
     clear hI hP2 hO2 hbr2 z1 z2 hbg2 hT2 hZ2
     obtain ⟨hP4c0, hP4f0, hP4c1, hP4f1, hP4c2, hP4f2⟩ := hP4.x3
     obtain ⟨hQ3c0, hQ3f0, hQ3c1, hQ3f1, hQ3c2, hQ3f2⟩ := hQ3.x3
     go_wp2_with fail
     refine HPR.out.mono ?_
     rintro e w3 ⟨rfl, hb3⟩
     clear hP4c0 hP4f0 hP4c1 hP4f1 hP4c2 hP4f2
     clear hQ3c0 hQ3f0 hQ3c1 hQ3f1 hQ3c2 hQ3f2
     have hO3 := own_after hO4 hb3
     have hbr3 := bt hbr4 hb3
     have hLE : Hid (((N.imgs Z).take k).length = k) := by rw [Hid, List.length_take, NSta.imgs, List.length_map]; omega
     rw [hLE.out] at hO3
     clear HPR hb3 hO4 hbr4 hP4 hQ3 hQ
     have hsz3 := hbr3.size
     have HIM := Lib.hid HST.out
     generalize imgV N Z q = iv at HIM ⊢
     generalize (N.imgs Z).take k = LI at hO3 HIM hLE
     go_wp2_with (at_builtin; refine wpList_append_lies _ rfl (.tmp 82) (.tmp 84) _ rfl w1.heap.size 22 i0 _ 1 16 Tryz.underlying31 HI0.out HA0.out HB0.out HC0.out rfl (by omega) u6 k (strs LI) rfl (own_after hO3 (b1 _ (.cells #[.string (E iv)] 22))) ⟨w3.heap.size, 0, none⟩ 1 1 [.string (E iv)] rfl rfl (Blk.new w3 #[.string (E iv)] 22).cells (by simp [Value.oneCell']) (by omega) (by simp only [maxLen]; omega) (by omega) (by rw [World.size_alloc]; omega) (w3.heap.size + 1) (by simp) ?_; intro ga ca wa hown hgrow hat hlt2)
     have hOA : NOwn wa w1.heap.size (.slice (some ⟨ga, 0, none⟩) (k + 1) ca) (LI ++ [iv]) := by rw [NOwn, List.length_append, hLE.out, ← strs_app]; exact hown
     rw [← HIM.out] at hOA
     have hbA := (ba hbr3 (.cells #[.string (E iv)] 22)).grown hgrow (by rw [World.size_alloc]; omega) (fun x hx => (own_lt hO3 hx).2)
     clear hown hgrow hat hlt2 hO3 hbr3
     go_wp2
     go_roundw
     case rel => exact ⟨k + 1, by omega, by go_num, hOA, hbA⟩
     case measure => simp [intOf]; omega
  ·have HTK : Hid ((N.imgs Z).take k = N.imgs Z) := List.take_of_length_le (by rw [NSta.imgs, List.length_map, ← HN3.out]; omega)
   rw [HTK.out] at hO
   have hs1 := hBW.size
   obtain ⟨hP1c0, hP1f0, hP1c1, hP1f1, hP1c2, hP1f2⟩ := hP1.x3
   go_wp2
   go_ret2
   exact ⟨_, rfl, own_mono hO hs1, hBW1⟩

set_option maxHeartbeats 1600000 in
theorem rImages_c (N : NSta) (Z : List Int) (v1 v2 v3 v4 : Value) (w : World) (hm : NOk N) (hS : NAt w v1 v2 v3 N) (hZ : ZsAt w v4 Z) (hz : ∀ z ∈ Z, z.natAbs < 256 ^ 64) (hl : Z.length = N.vars.length) (hc : N.chk = 0) :
  Calls Tryz.prog 84 #[.agg #[v1, v2, v3], v4] w (LPost w (N.imgs Z)) := by
 obtain ⟨a4, c4, rfl⟩ := hZ.form
 have hbox := b1 w (.cells #[v1, v2, v3] 29)
 have HRD := Lib.hid (rcheck15_c N Z v1 v2 v3 _ _ hm (hS.after hbox) (hZ.after hbox) (fun z h => lt64 (hz z h)) hl hc)
 have HIM : Hid (∀ w', Below w.heap.size w w' → Calls Tryz.prog 90 #[.agg #[v1, v2, v3], .slice a4 Z.length c4] w' (LPost w' (N.imgs Z))) := fun w' hb' => rimages_c N Z v1 v2 v3 _ w' hm (hS.after hb') (hZ.after hb') hz hl hc
 have hP := Blk.new w #[v1, v2, v3] 29
 obtain ⟨a1, c1, a2, c2, a3, c3, rfl, rfl, rfl⟩ := hS.forms
 generalize Z.length = n at HRD HIM
 generalize N.imgs Z = L at HIM
 generalize N.grps.length = n1 at hP hbox HRD HIM
 generalize N.vars.length = n2 at hP hbox HRD HIM
 generalize N.eqs.length = n3 at hP hbox HRD HIM
 clear hm hS hZ hz hl hc
 obtain ⟨hPc0, hPf0, hPc1, hPf1, hPc2, hPf2⟩ := hP.x3
 go_enter Tryz.func84, Tryz.ntmps84
 go_wp2_with fail
 refine HRD.out.mono ?_
 rintro e w2 ⟨rfl, hb2⟩
 clear hPc0 hPf0 hPc1 hPf1 hPc2 hPf2
 replace hP := hP.after hb2
 have hBW := bt hbox hb2
 have hPl := hP.lt
 clear hb2
 obtain ⟨hPc0, hPf0, hPc1, hPf1, hPc2, hPf2⟩ := hP.x3
 go_wp2_with fail
 refine (HIM.out _ hBW).mono ?_
 rintro e w3 ⟨v, rfl, hO, hb3⟩
 go_wp2
 go_ret2
 exact ⟨v, rfl, own_mono hO hBW.size, bt hBW hb3⟩

end Go.Proofs.YtehoiholhkfcpaaGreat
end
