import Derived.Test.YtbcgimgkcdpjcaaGreatSig7
set_option linter.unusedVariables false
set_option linter.unusedSimpArgs false
set_option maxRecDepth 100000
section
namespace Go.Proofs.YtbcgimgkcdpjcaaGreat
open Go.RowKit Go.Shelf

set_option maxHeartbeats 1600000 in
theorem eqNat_c (A B : List Nat) (u v : Value) (w : World) (ha : A.length ≤ 1000) (hb : B.length ≤ 1000) (hA : SsAt w u (A.map E)) (hB : SsAt w v (B.map E)) :
  Calls Tryz.prog 29 #[u, v] w fun e w' => e = .returned (.bool (decide (A = B))) ∧ Below w.heap.size w w' := by
 obtain ⟨r, hr⟩ : ∃ r : Bool, r = decide (A = B) := ⟨_, rfl⟩
 have HRES := Lib.hid hr
 rw [← hr]
 clear hr
 obtain ⟨a1, c1, e1⟩ := RAt.form hA
 obtain ⟨a2, c2, e2⟩ := RAt.form hB
 rw [List.length_map] at e1 e2
 obtain ⟨n, hn⟩ : ∃ n, n = A.length := ⟨_, rfl⟩
 obtain ⟨m, hm⟩ : ∃ n, n = B.length := ⟨_, rfl⟩
 have HN := Lib.hid hn
 have HM := Lib.hid hm
 rw [← hn] at e1 ha
 rw [← hm] at e2 hb
 subst e1 e2
 clear hn hm
 by_cases hnm : n = m
 ·subst hnm
  have hx1 : ((n : Int) != (n : Int)) = false := by simp
  go_enter Tryz.func29, Tryz.ntmps29
  go_wp2
  go_loopw [13] (fun i wr => ∃ k : Nat, k ≤ n ∧ i = .int .i64 k ∧ Hid (∀ j, j < k → A[j]? = B[j]?) ∧ Below w.heap.size w wr) (fun i _ => n - (intOf i).toNat)
  case atStart => exact ⟨0, by omega, rfl, fun j h => absurd h (Nat.not_lt_zero _), Below.refl _ _⟩
  case round =>
   obtain ⟨k, hk, rfl, HA, hbr⟩ := hrel
   obtain ⟨wp, hwp⟩ : ∃ wp, wp = wr := ⟨_, rfl⟩
   subst hwp
   replace hA := SsAt.after hA hbr
   replace hB := SsAt.after hB hbr
   by_cases hlt : k < n
   ·have hka : k < A.length := by rw [← HN.out]; exact hlt
    have hkb : k < B.length := by rw [← HM.out]; exact hlt
    obtain ⟨b, o, rfl, hbl, x1⟩ := SsAt.at_ hA (show k < (A.map E).length by simpa using hka)
    obtain ⟨b', o', rfl, hbl', y1⟩ := SsAt.at_ hB (show k < (B.map E).length by simpa using hkb)
    simp only [List.getElem_map] at x1 y1
    have HKA : Hid (A[k]? = some (A[k]'hka)) := List.getElem?_eq_getElem hka
    have HKB : Hid (B[k]? = some (B[k]'hkb)) := List.getElem?_eq_getElem hkb
    generalize (A[k]'hka) = xa at x1 HKA
    generalize (B[k]'hkb) = xb at y1 HKB
    have h0k : (0 : Int) ≤ (k : Int) := by omega
    have h1k : (k : Int) < (n : Int) := by omega
    have g1 := gcl (a := ⟨b, o + k, none⟩) hbl x1
    have g2 := gcl (a := ⟨b', o' + k, none⟩) hbl' y1
    by_cases hx : xa = xb
    ·have h1 := eqT hx
     have h2 := eqE hx
     have HX : Hid (∀ j, j < k + 1 → A[j]? = B[j]?) := fun j hj => by
      by_cases e : j = k
      ·rw [e, HKA.out, HKB.out, hx]
      ·exact HA.out j (by omega)
     clear hx
     go_wp2_with fail
     refine wp_region_gw (by kernel_rfl) (by kernel_rfl) ?_
     repeat (go_big_quiet_step (first | (fail)))
     refine wpQuiet_nil ?_
     rintro w5 ⟨xw5, rfl⟩
     have hb5 := gw_below xw5
     generalize gw xw5 = w5 at hb5
     go_wp2
     go_roundw
     case rel => exact ⟨k + 1, by omega, by go_num, HX, bt hbr hb5⟩
     case measure => simp [intOf]; omega
    ·have h1 := eqF hx
     have h2 := neE hx
     have HF : Hid (r = false) := by
      rw [Hid, HRES.out]
      exact decide_eq_false (fun e => hx (by have h3 := HKA.out; rw [e, HKB.out] at h3; exact (Option.some.inj h3).symm))
     clear hx
     go_wp2_with fail
     refine wp_region_gw (by kernel_rfl) (by kernel_rfl) ?_
     repeat (go_big_quiet_step (first | (fail)))
     refine wpQuiet_nil ?_
     rintro w5 ⟨xw5, rfl⟩
     have hb5 := gw_below xw5
     generalize gw xw5 = w5 at hb5
     go_wp2
     go_ret
     exact ⟨by rw [HF.out]; rfl, bt hbr hb5⟩
   ·have HF : Hid (r = true) := by
     rw [Hid, HRES.out]
     refine decide_eq_true (List.ext_getElem? fun j => ?_)
     by_cases hj : j < k
     ·exact HA.out j hj
     ·rw [List.getElem?_eq_none (by rw [← HN.out]; omega), List.getElem?_eq_none (by rw [← HM.out]; omega)]
    go_wp2
    go_ret
    exact ⟨by rw [HF.out]; rfl, hbr⟩
 ·have hx1 : ((n : Int) != (m : Int)) = true := by rw [bne_iff_ne]; omega
  have hx2 : ((n : Int) == (m : Int)) = false := by rw [beq_eq_false_iff_ne]; omega
  have HF : Hid (r = false) := by rw [Hid, HRES.out]; exact decide_eq_false (fun e => hnm (by rw [HN.out, HM.out, e]))
  clear hnm
  go_enter Tryz.func29, Tryz.ntmps29
  go_wp2
  go_ret
  exact ⟨by rw [HF.out]; rfl, Below.refl _ _⟩

theorem eqNat_cV (A B : List Nat) (u v : Value) (r : Bool) (w : World) (ha : A.length ≤ 1000) (hb : B.length ≤ 1000) (hA : SsAt w u (A.map E)) (hB : SsAt w v (B.map E)) (h : decide (A = B) = r) :
  Calls Tryz.prog 29 #[u, v] w fun e w' => e = .returned (.bool r) ∧ Below w.heap.size w w' := by rw [← h]; exact eqNat_c A B u v w ha hb hA hB

set_option maxHeartbeats 1600000 in
theorem sameNats_c (A B : List Nat) (u v : Value) (w : World) (ha : A.length ≤ 1000) (hb : B.length ≤ 1000) (hA : SsAt w u (A.map E)) (hB : SsAt w v (B.map E)) :
  Calls Tryz.prog 19 #[u, v] w fun e w' => e = .returned (.bool (decide (A = B))) ∧ Below w.heap.size w w' := by
 obtain ⟨r, hr⟩ : ∃ r : Bool, r = decide (A = B) := ⟨_, rfl⟩
 have HRES := Lib.hid hr
 rw [← hr]
 clear hr
 obtain ⟨a1, c1, e1⟩ := RAt.form hA
 obtain ⟨a2, c2, e2⟩ := RAt.form hB
 rw [List.length_map] at e1 e2
 obtain ⟨n, hn⟩ : ∃ n, n = A.length := ⟨_, rfl⟩
 obtain ⟨m, hm⟩ : ∃ n, n = B.length := ⟨_, rfl⟩
 have HN := Lib.hid hn
 have HM := Lib.hid hm
 rw [← hn] at e1 ha
 rw [← hm] at e2 hb
 subst e1 e2
 clear hn hm
 by_cases hnm : n = m
 ·subst hnm
  have hx1 : ((n : Int) != (n : Int)) = false := by simp
  go_enter Tryz.func19, Tryz.ntmps19
  go_wp2
  go_loopw [5] (fun i wr => ∃ k : Nat, k ≤ n ∧ i = .int .i64 k ∧ Hid (∀ j, j < k → A[j]? = B[j]?) ∧ Below w.heap.size w wr) (fun i _ => n - (intOf i).toNat)
  case atStart => exact ⟨0, by omega, rfl, fun j h => absurd h (Nat.not_lt_zero _), Below.refl _ _⟩
  case round =>
   obtain ⟨k, hk, rfl, HA, hbr⟩ := hrel
   obtain ⟨wp, hwp⟩ : ∃ wp, wp = wr := ⟨_, rfl⟩
   subst hwp
   replace hA := SsAt.after hA hbr
   replace hB := SsAt.after hB hbr
   by_cases hlt : k < n
   ·have hka : k < A.length := by rw [← HN.out]; exact hlt
    have hkb : k < B.length := by rw [← HM.out]; exact hlt
    obtain ⟨b, o, rfl, hbl, x1⟩ := SsAt.at_ hA (show k < (A.map E).length by simpa using hka)
    obtain ⟨b', o', rfl, hbl', y1⟩ := SsAt.at_ hB (show k < (B.map E).length by simpa using hkb)
    simp only [List.getElem_map] at x1 y1
    have HKA : Hid (A[k]? = some (A[k]'hka)) := List.getElem?_eq_getElem hka
    have HKB : Hid (B[k]? = some (B[k]'hkb)) := List.getElem?_eq_getElem hkb
    generalize (A[k]'hka) = xa at x1 HKA
    generalize (B[k]'hkb) = xb at y1 HKB
    have h0k : (0 : Int) ≤ (k : Int) := by omega
    have h1k : (k : Int) < (n : Int) := by omega
    have g1 := gcl (a := ⟨b, o + k, none⟩) hbl x1
    have g2 := gcl (a := ⟨b', o' + k, none⟩) hbl' y1
    by_cases hx : xa = xb
    ·have h1 := eqT hx
     have h2 := eqE hx
     have HX : Hid (∀ j, j < k + 1 → A[j]? = B[j]?) := fun j hj => by
      by_cases e : j = k
      ·rw [e, HKA.out, HKB.out, hx]
      ·exact HA.out j (by omega)
     clear hx
     go_wp2_with fail
     refine wp_region_gw (by kernel_rfl) (by kernel_rfl) ?_
     repeat (go_big_quiet_step (first | (fail)))
     refine wpQuiet_nil ?_
     rintro w5 ⟨xw5, rfl⟩
     have hb5 := gw_below xw5
     generalize gw xw5 = w5 at hb5
     go_wp2
     go_roundw
     case rel => exact ⟨k + 1, by omega, by go_num, HX, bt hbr hb5⟩
     case measure => simp [intOf]; omega
    ·have h1 := eqF hx
     have h2 := neE hx
     have HF : Hid (r = false) := by
      rw [Hid, HRES.out]
      exact decide_eq_false (fun e => hx (by have h3 := HKA.out; rw [e, HKB.out] at h3; exact (Option.some.inj h3).symm))
     clear hx
     go_wp2_with fail
     refine wp_region_gw (by kernel_rfl) (by kernel_rfl) ?_
     repeat (go_big_quiet_step (first | (fail)))
     refine wpQuiet_nil ?_
     rintro w5 ⟨xw5, rfl⟩
     have hb5 := gw_below xw5
     generalize gw xw5 = w5 at hb5
     go_wp2
     go_ret
     exact ⟨by rw [HF.out]; rfl, bt hbr hb5⟩
   ·have HF : Hid (r = true) := by
     rw [Hid, HRES.out]
     refine decide_eq_true (List.ext_getElem? fun j => ?_)
     by_cases hj : j < k
     ·exact HA.out j hj
     ·rw [List.getElem?_eq_none (by rw [← HN.out]; omega), List.getElem?_eq_none (by rw [← HM.out]; omega)]
    go_wp2
    go_ret
    exact ⟨by rw [HF.out]; rfl, hbr⟩
 ·have hx1 : ((n : Int) != (m : Int)) = true := by rw [bne_iff_ne]; omega
  have hx2 : ((n : Int) == (m : Int)) = false := by rw [beq_eq_false_iff_ne]; omega
  have HF : Hid (r = false) := by rw [Hid, HRES.out]; exact decide_eq_false (fun e => hnm (by rw [HN.out, HM.out, e]))
  clear hnm
  go_enter Tryz.func19, Tryz.ntmps19
  go_wp2
  go_ret
  exact ⟨by rw [HF.out]; rfl, Below.refl _ _⟩

theorem sameNats_cV (A B : List Nat) (u v : Value) (r : Bool) (w : World) (ha : A.length ≤ 1000) (hb : B.length ≤ 1000) (hA : SsAt w u (A.map E)) (hB : SsAt w v (B.map E)) (h : decide (A = B) = r) :
  Calls Tryz.prog 19 #[u, v] w fun e w' => e = .returned (.bool r) ∧ Below w.heap.size w w' := by rw [← h]; exact sameNats_c A B u v w ha hb hA hB

set_option maxHeartbeats 1600000 in
theorem sameInts_c (Z : List Int) (u v : Value) (w : World) (ha : Z.length ≤ 1000) (hA : ZsAt w u Z) (hB : ZsAt w v Z) :
  Calls Tryz.prog 12 #[u, v] w fun e w' => e = .returned (.bool true) ∧ Below w.heap.size w w' := by
 obtain ⟨a1, c1, rfl⟩ := hA.form
 obtain ⟨a2, c2, rfl⟩ := hB.form
 obtain ⟨n, hn⟩ : ∃ n, n = Z.length := ⟨_, rfl⟩
 have HN := Lib.hid hn
 rw [← hn] at hA hB ha ⊢
 clear hn
 have hx1 : ((n : Int) != (n : Int)) = false := by simp
 go_enter Tryz.func12, Tryz.ntmps12
 go_wp2
 go_loopw [5] (fun i wr => ∃ k : Nat, k ≤ n ∧ i = .int .i64 k ∧ Below w.heap.size w wr) (fun i _ => n - (intOf i).toNat)
 case atStart => exact ⟨0, by omega, rfl, Below.refl _ _⟩
 case round =>
  obtain ⟨k, hk, rfl, hbr⟩ := hrel
  obtain ⟨wp, hwp⟩ : ∃ wp, wp = wr := ⟨_, rfl⟩
  subst hwp
  replace hA := hA.after hbr
  replace hB := hB.after hbr
  by_cases hlt : k < n
  ·have hkz : k < Z.length := by rw [← HN.out]; exact hlt
   obtain ⟨b, o, rfl, hbl, x1, x2⟩ := hA.at_ hkz
   obtain ⟨b', o', rfl, hbl', y1, y2⟩ := hB.at_ hkz
   generalize (Z[k]'hkz) = z at x1 x2 y1 y2
   have h0k : (0 : Int) ≤ (k : Int) := by omega
   have h1k : (k : Int) < (n : Int) := by omega
   have g1 := gcl (a := ⟨b, o + k * 2, none⟩) hbl x1
   have g2 := gcl (a := ⟨b, o + k * 2 + 1, none⟩) hbl x2
   have g3 := gcl (a := ⟨b', o' + k * 2, none⟩) hbl' y1
   have g4 := gcl (a := ⟨b', o' + k * 2 + 1, none⟩) hbl' y2
   go_wp2_with fail
   refine wp_region_gw (by kernel_rfl) (by kernel_rfl) ?_
   repeat (go_big_quiet_step (first | (fail)))
   refine wpQuiet_nil ?_
   rintro w5 ⟨xw5, rfl⟩
   have hb5 := gw_below xw5
   generalize gw xw5 = w5 at hb5
   go_wp2
   go_roundw
   case rel => exact ⟨k + 1, by omega, by go_num, bt hbr hb5⟩
   case measure => simp [intOf]; omega
  ·go_wp2
   go_ret
   exact ⟨rfl, hbr⟩

/-- the difference of two responses -/
def difI (q b : Nat) (x y : Int) : Int := if b = 0 then ((subM x.natAbs y.natAbs q : Nat) : Int) else x - y

set_option maxHeartbeats 1600000 in
theorem mdif_c (q : Nat) (x y : Int) (w : World) (hq : q < 256 ^ 8) (h0 : 0 < q) (hx : x.natAbs < 256 ^ 8) (hy : y.natAbs < 256 ^ 8) :
  Calls Tryz.prog 31 #[.string (E q), .agg #[.bool (sg (x)), .string (E (x).natAbs)], .agg #[.bool (sg (y)), .string (E (y).natAbs)]] w fun e w' => e = .returned (.tuple #[.agg #[.bool (sg (difI q 0 x y)), .string (E (difI q 0 x y).natAbs)], .int .i64 0]) ∧ Below w.heap.size w w' := by
 have hd : difI q 0 x y = ((subM x.natAbs y.natAbs q : Nat) : Int) := if_pos rfl
 rw [hd, sg_nat, Int.natAbs_natCast]
 have HS := Lib.hid (fun w => msub_c x.natAbs y.natAbs q w hx hy hq h0)
 generalize subM x.natAbs y.natAbs q = t at HS
 clear hq h0 hx hy hd
 have hA := blk3a w #[Value.bool (sg x), Value.string (E x.natAbs)] #[Value.bool (sg y), Value.string (E y.natAbs)] #[Value.bool false, Value.string { data := #[] }] 39 39 39
 have hB := blk3b w #[Value.bool (sg x), Value.string (E x.natAbs)] #[Value.bool (sg y), Value.string (E y.natAbs)] #[Value.bool false, Value.string { data := #[] }] 39 39 39
 have hC := blk3c w #[Value.bool (sg x), Value.string (E x.natAbs)] #[Value.bool (sg y), Value.string (E y.natAbs)] #[Value.bool false, Value.string { data := #[] }] 39 39 39
 have hBW := b3 w (.cells #[Value.bool (sg x), Value.string (E x.natAbs)] 39) (.cells #[Value.bool (sg y), Value.string (E y.natAbs)] 39) (.cells #[Value.bool false, Value.string { data := #[] }] 39)
 have hAc0 := hA.cell 0
 have hAf0 := hA.free 0
 have hAc1 := hA.cell 1
 have hAf1 := hA.free 1
 have hBc0 := hB.cell 0
 have hBf0 := hB.free 0
 have hBc1 := hB.cell 1
 have hBf1 := hB.free 1
 go_enter Tryz.func31, Tryz.ntmps31
 go_wp2_with fail
 refine (HS.out _).mono ?_
 rintro e w1 ⟨rfl, hb1⟩
 clear hAc0 hAf0 hAc1 hAf1
 clear hBc0 hBf0 hBc1 hBf1
 replace hC := hC.after hb1
 replace hBW := bt hBW hb1
 clear hb1
 have hCl := hC.lt
 have hCc0 := hC.cell 0
 have hCf0 := hC.free 0
 have hCc1 := hC.cell 1
 have hCf1 := hC.free 1
 go_wp2
 refine bodyPost_ret (v := .tuple #[.agg #[.bool false, .string (E t)], .int .i64 0]) ?_ rfl ⟨rfl, ?_⟩
 ·simp [results, Tryz.results31, go_sem, hCc0, hCc1, hCl]
 ·exact (hBW.setCell (by simp; omega) _).setCell (by simp; omega) _

set_option maxHeartbeats 1600000 in
theorem idif_c (q : ByteArray) (b : Nat) (x y : Int) (w : World) (hb : b ≠ 0) (hx : x.natAbs < 256 ^ 64) (hy : y.natAbs < 256 ^ 64) :
  Calls Tryz.prog 32 #[.string q, .agg #[.bool (sg (x)), .string (E (x).natAbs)], .agg #[.bool (sg (y)), .string (E (y).natAbs)]] w fun e w' => e = .returned (.tuple #[.agg #[.bool (sg (difI 0 b x y)), .string (E (difI 0 b x y).natAbs)], .int .i64 0]) ∧ Below w.heap.size w w' := by
 have hd : difI 0 b x y = x - y := if_neg hb
 rw [hd]
 have hxy : (x - y).natAbs < 256 ^ 128 := by
  have h1 := Int.natAbs_sub_le x y
  have h2 : (256 : Nat) ^ 64 + 256 ^ 64 ≤ 256 ^ 128 := by decide
  omega
 have HS := Lib.hid (fun w => isub_c x y w (lt64 hx) (lt64 hy) hxy)
 generalize x - y = t at HS
 clear hx hy hd hxy hb
 have hA := blk3a w #[Value.bool (sg x), Value.string (E x.natAbs)] #[Value.bool (sg y), Value.string (E y.natAbs)] #[Value.bool false, Value.string { data := #[] }] 39 39 39
 have hB := blk3b w #[Value.bool (sg x), Value.string (E x.natAbs)] #[Value.bool (sg y), Value.string (E y.natAbs)] #[Value.bool false, Value.string { data := #[] }] 39 39 39
 have hC := blk3c w #[Value.bool (sg x), Value.string (E x.natAbs)] #[Value.bool (sg y), Value.string (E y.natAbs)] #[Value.bool false, Value.string { data := #[] }] 39 39 39
 have hBW := b3 w (.cells #[Value.bool (sg x), Value.string (E x.natAbs)] 39) (.cells #[Value.bool (sg y), Value.string (E y.natAbs)] 39) (.cells #[Value.bool false, Value.string { data := #[] }] 39)
 have hAc0 := hA.cell 0
 have hAf0 := hA.free 0
 have hAc1 := hA.cell 1
 have hAf1 := hA.free 1
 have hBc0 := hB.cell 0
 have hBf0 := hB.free 0
 have hBc1 := hB.cell 1
 have hBf1 := hB.free 1
 go_enter Tryz.func32, Tryz.ntmps32
 go_wp2_with fail
 refine (HS.out _).mono ?_
 rintro e w1 ⟨rfl, hb1⟩
 clear hAc0 hAf0 hAc1 hAf1
 clear hBc0 hBf0 hBc1 hBf1
 replace hC := hC.after hb1
 replace hBW := bt hBW hb1
 clear hb1
 have hCl := hC.lt
 have hCc0 := hC.cell 0
 have hCf0 := hC.free 0
 have hCc1 := hC.cell 1
 have hCf1 := hC.free 1
 go_wp2
 refine bodyPost_ret (v := .tuple #[.agg #[.bool (sg (t)), .string (E (t).natAbs)], .int .i64 0]) ?_ rfl ⟨rfl, ?_⟩
 ·simp [results, Tryz.results32, go_sem, hCc0, hCc1, hCl]
 ·exact (hBW.setCell (by simp; omega) _).setCell (by simp; omega) _

end Go.Proofs.YtbcgimgkcdpjcaaGreat
end

section
namespace Go.Proofs.YtbcgimgkcdpjcaaGreat
open Go.RowKit Go.Shelf
theorem CA.k12 {w : World} {a0 a1 a2 a3 a4 a5 a6 a7 a8 a9 a10 a11 : Addr} {v0 v1 v2 v3 v4 v5 v6 v7 v8 v9 v10 v11 : Value} (h : CA w [(a0, v0), (a1, v1), (a2, v2), (a3, v3), (a4, v4), (a5, v5), (a6, v6), (a7, v7), (a8, v8), (a9, v9), (a10, v10), (a11, v11)]) : w.cell? a0 = some v0 ∧ w.cell? a1 = some v1 ∧ w.cell? a2 = some v2 ∧ w.cell? a3 = some v3 ∧ w.cell? a4 = some v4 ∧ w.cell? a5 = some v5 ∧ w.cell? a6 = some v6 ∧ w.cell? a7 = some v7 ∧ w.cell? a8 = some v8 ∧ w.cell? a9 = some v9 ∧ w.cell? a10 = some v10 ∧ w.cell? a11 = some v11 := ⟨(h (a0, v0) (by simp)).2, (h (a1, v1) (by simp)).2, (h (a2, v2) (by simp)).2, (h (a3, v3) (by simp)).2, (h (a4, v4) (by simp)).2, (h (a5, v5) (by simp)).2, (h (a6, v6) (by simp)).2, (h (a7, v7) (by simp)).2, (h (a8, v8) (by simp)).2, (h (a9, v9) (by simp)).2, (h (a10, v10) (by simp)).2, (h (a11, v11) (by simp)).2⟩

set_option maxHeartbeats 2000000 in
theorem diff_err1 (C K cha chb : ByteArray) (s1 s2 s3 xa ya xb yb : Option Addr) (m1 m2 m3 d1 d2 d3 na pa ma qa nb pb mb qb : Nat) (k : Nat) (w : World) (hk : k ≠ 0)
  (hva : ∀ w', Below w.heap.size w w' → Calls Tryz.prog 18 #[.agg #[.string C, .string K], .agg #[.slice s1 m1 d1, .slice s2 m2 d2, .slice s3 m3 d3], .agg #[.slice xa na pa, .string cha, .slice ya ma qa]] w' fun e w'' => e = .returned (.int .i64 k) ∧ Below w'.heap.size w' w'') :
  Calls Tryz.prog 10 #[.agg #[.string C, .string K], .agg #[.slice s1 m1 d1, .slice s2 m2 d2, .slice s3 m3 d3], .agg #[.slice xa na pa, .string cha, .slice ya ma qa], .agg #[.slice xb nb pb, .string chb, .slice yb mb qb]] w fun e w' => e = .returned (.tuple #[.agg #[.bool false, .string { data := #[] }], .slice none 0 0, .int .i64 k]) ∧ Below w.heap.size w w' := by
 have HVA := Lib.hid hva
 have hkb : ((k : Int) != 0) = true := by rw [bne_iff_ne]; omega
 have hR := ((((Blk.new w #[.string C, .string K] 24).alloc (.cells #[.slice s1 m1 d1, .slice s2 m2 d2, .slice s3 m3 d3] 29)).alloc (.cells #[.slice xa na pa, .string cha, .slice ya ma qa] 33)).alloc (.cells #[.slice xb nb pb, .string chb, .slice yb mb qb] 33)).alloc (.cells #[.bool false, .string { data := #[] }] 39)
 have hP := (((blkN (w := w.alloc (.cells #[.string C, .string K] 24)) (cs := #[.slice s1 m1 d1, .slice s2 m2 d2, .slice s3 m3 d3]) (T := 29) (g := w.heap.size + 1) (by simp)).alloc (.cells #[.slice xa na pa, .string cha, .slice ya ma qa] 33)).alloc (.cells #[.slice xb nb pb, .string chb, .slice yb mb qb] 33)).alloc (.cells #[.bool false, .string { data := #[] }] 39)
 have hA := ((blkN (w := (w.alloc (.cells #[.string C, .string K] 24)).alloc (.cells #[.slice s1 m1 d1, .slice s2 m2 d2, .slice s3 m3 d3] 29)) (cs := #[.slice xa na pa, .string cha, .slice ya ma qa]) (T := 33) (g := w.heap.size + 1 + 1) (by simp)).alloc (.cells #[.slice xb nb pb, .string chb, .slice yb mb qb] 33)).alloc (.cells #[.bool false, .string { data := #[] }] 39)
 have hB := (blkN (w := ((w.alloc (.cells #[.string C, .string K] 24)).alloc (.cells #[.slice s1 m1 d1, .slice s2 m2 d2, .slice s3 m3 d3] 29)).alloc (.cells #[.slice xa na pa, .string cha, .slice ya ma qa] 33)) (cs := #[.slice xb nb pb, .string chb, .slice yb mb qb]) (T := 33) (g := w.heap.size + 1 + 1 + 1) (by simp)).alloc (.cells #[.bool false, .string { data := #[] }] 39)
 have hD := blkN (w := (((w.alloc (.cells #[.string C, .string K] 24)).alloc (.cells #[.slice s1 m1 d1, .slice s2 m2 d2, .slice s3 m3 d3] 29)).alloc (.cells #[.slice xa na pa, .string cha, .slice ya ma qa] 33)).alloc (.cells #[.slice xb nb pb, .string chb, .slice yb mb qb] 33)) (cs := #[.bool false, .string { data := #[] }]) (T := 39) (g := w.heap.size + 1 + 1 + 1 + 1) (by simp)
 have hBW := ba (ba (b3 w (.cells #[.string C, .string K] 24) (.cells #[.slice s1 m1 d1, .slice s2 m2 d2, .slice s3 m3 d3] 29) (.cells #[.slice xa na pa, .string cha, .slice ya ma qa] 33)) (.cells #[.slice xb nb pb, .string chb, .slice yb mb qb] 33)) (.cells #[.bool false, .string { data := #[] }] 39)
 clear hva hk
 have hRc0 := hR.cell 0
 have hRf0 := hR.free 0
 have hRc1 := hR.cell 1
 have hRf1 := hR.free 1
 have hPc0 := hP.cell 0
 have hPf0 := hP.free 0
 have hPc1 := hP.cell 1
 have hPf1 := hP.free 1
 have hPc2 := hP.cell 2
 have hPf2 := hP.free 2
 have hAc0 := hA.cell 0
 have hAf0 := hA.free 0
 have hAc1 := hA.cell 1
 have hAf1 := hA.free 1
 have hAc2 := hA.cell 2
 have hAf2 := hA.free 2
 have hBc0 := hB.cell 0
 have hBf0 := hB.free 0
 have hBc1 := hB.cell 1
 have hBf1 := hB.free 1
 have hBc2 := hB.cell 2
 have hBf2 := hB.free 2
 go_enter Tryz.func10, Tryz.ntmps10
 go_wp2
 clear hRc0 hRf0 hRc1 hRf1
 clear hPc0 hPf0 hPc1 hPf1 hPc2 hPf2
 clear hAc0 hAf0 hAc1 hAf1 hAc2 hAf2
 clear hBc0 hBf0 hBc1 hBf1 hBc2 hBf2
 have hL := Blk.new (((((w.alloc (.cells #[.string C, .string K] 24)).alloc (.cells #[.slice s1 m1 d1, .slice s2 m2 d2, .slice s3 m3 d3] 29)).alloc (.cells #[.slice xa na pa, .string cha, .slice ya ma qa] 33)).alloc (.cells #[.slice xb nb pb, .string chb, .slice yb mb qb] 33)).alloc (.cells #[.bool false, .string { data := #[] }] 39)) #[.slice xa na pa, .string cha, .slice ya ma qa, .slice xb nb pb, .string chb, .slice yb mb qb] 33
 have hbL := b1 (((((w.alloc (.cells #[.string C, .string K] 24)).alloc (.cells #[.slice s1 m1 d1, .slice s2 m2 d2, .slice s3 m3 d3] 29)).alloc (.cells #[.slice xa na pa, .string cha, .slice ya ma qa] 33)).alloc (.cells #[.slice xb nb pb, .string chb, .slice yb mb qb] 33)).alloc (.cells #[.bool false, .string { data := #[] }] 39)) (.cells #[.slice xa na pa, .string cha, .slice ya ma qa, .slice xb nb pb, .string chb, .slice yb mb qb] 33)
 replace hR := hR.after hbL
 replace hP := hP.after hbL
 replace hA := hA.after hbL
 replace hB := hB.after hbL
 replace hD := hD.after hbL
 replace hBW := bt hBW hbL
 clear hbL
 obtain ⟨gl, hgl⟩ : ∃ g, g = (((((w.alloc (.cells #[.string C, .string K] 24)).alloc (.cells #[.slice s1 m1 d1, .slice s2 m2 d2, .slice s3 m3 d3] 29)).alloc (.cells #[.slice xa na pa, .string cha, .slice ya ma qa] 33)).alloc (.cells #[.slice xb nb pb, .string chb, .slice yb mb qb] 33)).alloc (.cells #[.bool false, .string { data := #[] }] 39)).heap.size := ⟨_, rfl⟩
 rw [← hgl] at hL
 have hgl2 : gl = w.heap.size + 1 + 1 + 1 + 1 + 1 := by rw [hgl]; simp
 generalize (((((w.alloc (.cells #[.string C, .string K] 24)).alloc (.cells #[.slice s1 m1 d1, .slice s2 m2 d2, .slice s3 m3 d3] 29)).alloc (.cells #[.slice xa na pa, .string cha, .slice ya ma qa] 33)).alloc (.cells #[.slice xb nb pb, .string chb, .slice yb mb qb] 33)).alloc (.cells #[.bool false, .string { data := #[] }] 39)).alloc (.cells #[.slice xa na pa, .string cha, .slice ya ma qa, .slice xb nb pb, .string chb, .slice yb mb qb] 33) = w6 at hL hR hP hA hB hD hBW ⊢
 subst hgl2
 clear hgl
 replace hL : Blk w6 (w.heap.size + 1 + 1 + 1 + 1 + 1) 33 [.slice xa na pa, .string cha, .slice ya ma qa, .slice xb nb pb, .string chb, .slice yb mb qb] := hL
 replace hR : Blk w6 w.heap.size 24 [.string C, .string K] := hR
 replace hP : Blk w6 (w.heap.size + 1) 29 [.slice s1 m1 d1, .slice s2 m2 d2, .slice s3 m3 d3] := hP
 replace hA : Blk w6 (w.heap.size + 1 + 1) 33 [.slice xa na pa, .string cha, .slice ya ma qa] := hA
 replace hB : Blk w6 (w.heap.size + 1 + 1 + 1) 33 [.slice xb nb pb, .string chb, .slice yb mb qb] := hB
 replace hD : Blk w6 (w.heap.size + 1 + 1 + 1 + 1) 39 [.bool false, .string { data := #[] }] := hD
 go_loopw [26] (fun i wr => i = .int .i64 0 ∧ Below w6.heap.size w6 wr) (fun _ _ => 0)
 case atStart => exact ⟨rfl, Below.refl _ _⟩
 case round =>
  obtain ⟨rfl, hbr⟩ := hrel
  obtain ⟨wp, hwp⟩ : ∃ wp, wp = wr := ⟨_, rfl⟩
  subst hwp
  replace hR := hR.after hbr
  replace hP := hP.after hbr
  replace hA := hA.after hbr
  replace hB := hB.after hbr
  replace hD := hD.after hbr
  replace hL := hL.after hbr
  replace hBW := bt hBW hbr
  have hV := Blk.new wp #[.slice xa na pa, .string cha, .slice ya ma qa] 33
  have hbv := b1 wp (.cells #[.slice xa na pa, .string cha, .slice ya ma qa] 33)
  have hRl := hR.lt
  have hPl := hP.lt
  have hLl := hL.lt
  have hDl0 := hD.lt
  have hRc0 := hR.cell 0
  have hRf0 := hR.free 0
  have hRc1 := hR.cell 1
  have hRf1 := hR.free 1
  have hPc0 := hP.cell 0
  have hPf0 := hP.free 0
  have hPc1 := hP.cell 1
  have hPf1 := hP.free 1
  have hPc2 := hP.cell 2
  have hPf2 := hP.free 2
  have hLc0 := hL.cell 0
  have hLf0 := hL.free 0
  have hLc1 := hL.cell 1
  have hLf1 := hL.free 1
  have hLc2 := hL.cell 2
  have hLf2 := hL.free 2
  have hLc3 := hL.cell 3
  have hLf3 := hL.free 3
  have hLc4 := hL.cell 4
  have hLf4 := hL.free 4
  have hLc5 := hL.cell 5
  have hLf5 := hL.free 5
  go_wp2_with fail
  refine (HVA.out _ (bt hBW hbv)).mono ?_
  rintro e w7 ⟨rfl, hb7⟩
  clear hRc0 hRf0 hRc1 hRf1
  clear hPc0 hPf0 hPc1 hPf1 hPc2 hPf2
  clear hLc0 hLf0 hLc1 hLf1 hLc2 hLf2 hLc3 hLf3 hLc4 hLf4 hLc5 hLf5
  have HB7 := bt hbv hb7
  have hD7 := hD.after HB7
  have hDl := hD7.lt
  have HBB := bt hBW HB7
  have hD7c0 := hD7.cell 0
  have hD7f0 := hD7.free 0
  have hD7c1 := hD7.cell 1
  have hD7f1 := hD7.free 1
  go_wp2
  refine bodyPost_ret (v := .tuple #[.agg #[.bool false, .string { data := #[] }], .slice none 0 0, .int .i64 k]) ?_ rfl ⟨rfl, ?_⟩
  ·simp [results, Tryz.results10, go_sem, hD7c0, hD7c1, hDl]
  ·exact (HBB.setCell (by simp; omega) _).setCell (by simp; omega) _

set_option maxHeartbeats 4000000 in
theorem diff_err2 (C K cha chb : ByteArray) (s1 s2 s3 xa ya xb yb : Option Addr) (m1 m2 m3 d1 d2 d3 na pa ma qa nb pb mb qb : Nat) (k : Nat) (w : World) (hk : k ≠ 0)
  (hva : ∀ w', Below w.heap.size w w' → Calls Tryz.prog 18 #[.agg #[.string C, .string K], .agg #[.slice s1 m1 d1, .slice s2 m2 d2, .slice s3 m3 d3], .agg #[.slice xa na pa, .string cha, .slice ya ma qa]] w' fun e w'' => e = .returned (.int .i64 0) ∧ Below w'.heap.size w' w'')
  (hvb : ∀ w', Below w.heap.size w w' → Calls Tryz.prog 18 #[.agg #[.string C, .string K], .agg #[.slice s1 m1 d1, .slice s2 m2 d2, .slice s3 m3 d3], .agg #[.slice xb nb pb, .string chb, .slice yb mb qb]] w' fun e w'' => e = .returned (.int .i64 k) ∧ Below w'.heap.size w' w'') :
  Calls Tryz.prog 10 #[.agg #[.string C, .string K], .agg #[.slice s1 m1 d1, .slice s2 m2 d2, .slice s3 m3 d3], .agg #[.slice xa na pa, .string cha, .slice ya ma qa], .agg #[.slice xb nb pb, .string chb, .slice yb mb qb]] w fun e w' => e = .returned (.tuple #[.agg #[.bool false, .string { data := #[] }], .slice none 0 0, .int .i64 k]) ∧ Below w.heap.size w w' := by
 have HVA := Lib.hid hva
 have HVB := Lib.hid hvb
 have hkb : ((k : Int) != 0) = true := by rw [bne_iff_ne]; omega
 have hR := ((((Blk.new w #[.string C, .string K] 24).alloc (.cells #[.slice s1 m1 d1, .slice s2 m2 d2, .slice s3 m3 d3] 29)).alloc (.cells #[.slice xa na pa, .string cha, .slice ya ma qa] 33)).alloc (.cells #[.slice xb nb pb, .string chb, .slice yb mb qb] 33)).alloc (.cells #[.bool false, .string { data := #[] }] 39)
 have hP := (((blkN (w := w.alloc (.cells #[.string C, .string K] 24)) (cs := #[.slice s1 m1 d1, .slice s2 m2 d2, .slice s3 m3 d3]) (T := 29) (g := w.heap.size + 1) (by simp)).alloc (.cells #[.slice xa na pa, .string cha, .slice ya ma qa] 33)).alloc (.cells #[.slice xb nb pb, .string chb, .slice yb mb qb] 33)).alloc (.cells #[.bool false, .string { data := #[] }] 39)
 have hA := ((blkN (w := (w.alloc (.cells #[.string C, .string K] 24)).alloc (.cells #[.slice s1 m1 d1, .slice s2 m2 d2, .slice s3 m3 d3] 29)) (cs := #[.slice xa na pa, .string cha, .slice ya ma qa]) (T := 33) (g := w.heap.size + 1 + 1) (by simp)).alloc (.cells #[.slice xb nb pb, .string chb, .slice yb mb qb] 33)).alloc (.cells #[.bool false, .string { data := #[] }] 39)
 have hB := (blkN (w := ((w.alloc (.cells #[.string C, .string K] 24)).alloc (.cells #[.slice s1 m1 d1, .slice s2 m2 d2, .slice s3 m3 d3] 29)).alloc (.cells #[.slice xa na pa, .string cha, .slice ya ma qa] 33)) (cs := #[.slice xb nb pb, .string chb, .slice yb mb qb]) (T := 33) (g := w.heap.size + 1 + 1 + 1) (by simp)).alloc (.cells #[.bool false, .string { data := #[] }] 39)
 have hD := blkN (w := (((w.alloc (.cells #[.string C, .string K] 24)).alloc (.cells #[.slice s1 m1 d1, .slice s2 m2 d2, .slice s3 m3 d3] 29)).alloc (.cells #[.slice xa na pa, .string cha, .slice ya ma qa] 33)).alloc (.cells #[.slice xb nb pb, .string chb, .slice yb mb qb] 33)) (cs := #[.bool false, .string { data := #[] }]) (T := 39) (g := w.heap.size + 1 + 1 + 1 + 1) (by simp)
 have hBW := ba (ba (b3 w (.cells #[.string C, .string K] 24) (.cells #[.slice s1 m1 d1, .slice s2 m2 d2, .slice s3 m3 d3] 29) (.cells #[.slice xa na pa, .string cha, .slice ya ma qa] 33)) (.cells #[.slice xb nb pb, .string chb, .slice yb mb qb] 33)) (.cells #[.bool false, .string { data := #[] }] 39)
 clear hva hvb hk
 have hRc0 := hR.cell 0
 have hRf0 := hR.free 0
 have hRc1 := hR.cell 1
 have hRf1 := hR.free 1
 have hPc0 := hP.cell 0
 have hPf0 := hP.free 0
 have hPc1 := hP.cell 1
 have hPf1 := hP.free 1
 have hPc2 := hP.cell 2
 have hPf2 := hP.free 2
 have hAc0 := hA.cell 0
 have hAf0 := hA.free 0
 have hAc1 := hA.cell 1
 have hAf1 := hA.free 1
 have hAc2 := hA.cell 2
 have hAf2 := hA.free 2
 have hBc0 := hB.cell 0
 have hBf0 := hB.free 0
 have hBc1 := hB.cell 1
 have hBf1 := hB.free 1
 have hBc2 := hB.cell 2
 have hBf2 := hB.free 2
 go_enter Tryz.func10, Tryz.ntmps10
 go_wp2
 clear hRc0 hRf0 hRc1 hRf1
 clear hPc0 hPf0 hPc1 hPf1 hPc2 hPf2
 clear hAc0 hAf0 hAc1 hAf1 hAc2 hAf2
 clear hBc0 hBf0 hBc1 hBf1 hBc2 hBf2
 have hL := Blk.new (((((w.alloc (.cells #[.string C, .string K] 24)).alloc (.cells #[.slice s1 m1 d1, .slice s2 m2 d2, .slice s3 m3 d3] 29)).alloc (.cells #[.slice xa na pa, .string cha, .slice ya ma qa] 33)).alloc (.cells #[.slice xb nb pb, .string chb, .slice yb mb qb] 33)).alloc (.cells #[.bool false, .string { data := #[] }] 39)) #[.slice xa na pa, .string cha, .slice ya ma qa, .slice xb nb pb, .string chb, .slice yb mb qb] 33
 have hbL := b1 (((((w.alloc (.cells #[.string C, .string K] 24)).alloc (.cells #[.slice s1 m1 d1, .slice s2 m2 d2, .slice s3 m3 d3] 29)).alloc (.cells #[.slice xa na pa, .string cha, .slice ya ma qa] 33)).alloc (.cells #[.slice xb nb pb, .string chb, .slice yb mb qb] 33)).alloc (.cells #[.bool false, .string { data := #[] }] 39)) (.cells #[.slice xa na pa, .string cha, .slice ya ma qa, .slice xb nb pb, .string chb, .slice yb mb qb] 33)
 replace hR := hR.after hbL
 replace hP := hP.after hbL
 replace hA := hA.after hbL
 replace hB := hB.after hbL
 replace hD := hD.after hbL
 replace hBW := bt hBW hbL
 clear hbL
 obtain ⟨gl, hgl⟩ : ∃ g, g = (((((w.alloc (.cells #[.string C, .string K] 24)).alloc (.cells #[.slice s1 m1 d1, .slice s2 m2 d2, .slice s3 m3 d3] 29)).alloc (.cells #[.slice xa na pa, .string cha, .slice ya ma qa] 33)).alloc (.cells #[.slice xb nb pb, .string chb, .slice yb mb qb] 33)).alloc (.cells #[.bool false, .string { data := #[] }] 39)).heap.size := ⟨_, rfl⟩
 rw [← hgl] at hL
 have hgl2 : gl = w.heap.size + 1 + 1 + 1 + 1 + 1 := by rw [hgl]; simp
 generalize (((((w.alloc (.cells #[.string C, .string K] 24)).alloc (.cells #[.slice s1 m1 d1, .slice s2 m2 d2, .slice s3 m3 d3] 29)).alloc (.cells #[.slice xa na pa, .string cha, .slice ya ma qa] 33)).alloc (.cells #[.slice xb nb pb, .string chb, .slice yb mb qb] 33)).alloc (.cells #[.bool false, .string { data := #[] }] 39)).alloc (.cells #[.slice xa na pa, .string cha, .slice ya ma qa, .slice xb nb pb, .string chb, .slice yb mb qb] 33) = w6 at hL hR hP hA hB hD hBW ⊢
 subst hgl2
 clear hgl
 replace hL : Blk w6 (w.heap.size + 1 + 1 + 1 + 1 + 1) 33 [.slice xa na pa, .string cha, .slice ya ma qa, .slice xb nb pb, .string chb, .slice yb mb qb] := hL
 replace hR : Blk w6 w.heap.size 24 [.string C, .string K] := hR
 replace hP : Blk w6 (w.heap.size + 1) 29 [.slice s1 m1 d1, .slice s2 m2 d2, .slice s3 m3 d3] := hP
 replace hA : Blk w6 (w.heap.size + 1 + 1) 33 [.slice xa na pa, .string cha, .slice ya ma qa] := hA
 replace hB : Blk w6 (w.heap.size + 1 + 1 + 1) 33 [.slice xb nb pb, .string chb, .slice yb mb qb] := hB
 replace hD : Blk w6 (w.heap.size + 1 + 1 + 1 + 1) 39 [.bool false, .string { data := #[] }] := hD
 go_loopw [26] (fun i wr => (i = .int .i64 0 ∨ i = .int .i64 1) ∧ Below w6.heap.size w6 wr) (fun i _ => 2 - (intOf i).toNat)
 case atStart => exact ⟨.inl rfl, Below.refl _ _⟩
 case round =>
  obtain ⟨hi, hbr⟩ := hrel
  obtain ⟨wp, hwp⟩ : ∃ wp, wp = wr := ⟨_, rfl⟩
  subst hwp
  replace hR := hR.after hbr
  replace hP := hP.after hbr
  replace hA := hA.after hbr
  replace hB := hB.after hbr
  replace hD := hD.after hbr
  replace hL := hL.after hbr
  replace hBW := bt hBW hbr
  rcases hi with rfl | rfl
  ·have hV := Blk.new wp #[.slice xa na pa, .string cha, .slice ya ma qa] 33
   have hbv := b1 wp (.cells #[.slice xa na pa, .string cha, .slice ya ma qa] 33)
   have hRl := hR.lt
   have hPl := hP.lt
   have hLl := hL.lt
   have hDl0 := hD.lt
   have hRc0 := hR.cell 0
   have hRf0 := hR.free 0
   have hRc1 := hR.cell 1
   have hRf1 := hR.free 1
   have hPc0 := hP.cell 0
   have hPf0 := hP.free 0
   have hPc1 := hP.cell 1
   have hPf1 := hP.free 1
   have hPc2 := hP.cell 2
   have hPf2 := hP.free 2
   have hLc0 := hL.cell 0
   have hLf0 := hL.free 0
   have hLc1 := hL.cell 1
   have hLf1 := hL.free 1
   have hLc2 := hL.cell 2
   have hLf2 := hL.free 2
   have hLc3 := hL.cell 3
   have hLf3 := hL.free 3
   have hLc4 := hL.cell 4
   have hLf4 := hL.free 4
   have hLc5 := hL.cell 5
   have hLf5 := hL.free 5
   go_wp2_with fail
   refine (HVA.out _ (bt hBW hbv)).mono ?_
   rintro e w7 ⟨rfl, hb7⟩
   clear hRc0 hRf0 hRc1 hRf1
   clear hPc0 hPf0 hPc1 hPf1 hPc2 hPf2
   clear hLc0 hLf0 hLc1 hLf1 hLc2 hLf2 hLc3 hLf3 hLc4 hLf4 hLc5 hLf5
   have HB7 := bt hbv hb7
   have hD7 := hD.after HB7
   have hDl := hD7.lt
   have HBB := bt hBW HB7
   go_wp2
   go_roundw
   case rel => exact ⟨.inr rfl, bt hbr HB7⟩
   case measure => simp [intOf]
  ·have hV := Blk.new wp #[.slice xb nb pb, .string chb, .slice yb mb qb] 33
   have hbv := b1 wp (.cells #[.slice xb nb pb, .string chb, .slice yb mb qb] 33)
   have hRl := hR.lt
   have hPl := hP.lt
   have hLl := hL.lt
   have hDl0 := hD.lt
   have hRc0 := hR.cell 0
   have hRf0 := hR.free 0
   have hRc1 := hR.cell 1
   have hRf1 := hR.free 1
   have hPc0 := hP.cell 0
   have hPf0 := hP.free 0
   have hPc1 := hP.cell 1
   have hPf1 := hP.free 1
   have hPc2 := hP.cell 2
   have hPf2 := hP.free 2
   have hLc0 := hL.cell 0
   have hLf0 := hL.free 0
   have hLc1 := hL.cell 1
   have hLf1 := hL.free 1
   have hLc2 := hL.cell 2
   have hLf2 := hL.free 2
   have hLc3 := hL.cell 3
   have hLf3 := hL.free 3
   have hLc4 := hL.cell 4
   have hLf4 := hL.free 4
   have hLc5 := hL.cell 5
   have hLf5 := hL.free 5
   go_wp2_with fail
   refine (HVB.out _ (bt hBW hbv)).mono ?_
   rintro e w7 ⟨rfl, hb7⟩
   clear hRc0 hRf0 hRc1 hRf1
   clear hPc0 hPf0 hPc1 hPf1 hPc2 hPf2
   clear hLc0 hLf0 hLc1 hLf1 hLc2 hLf2 hLc3 hLf3 hLc4 hLf4 hLc5 hLf5
   have HB7 := bt hbv hb7
   have hD7 := hD.after HB7
   have hDl := hD7.lt
   have HBB := bt hBW HB7
   have hD7c0 := hD7.cell 0
   have hD7f0 := hD7.free 0
   have hD7c1 := hD7.cell 1
   have hD7f1 := hD7.free 1
   go_wp2
   refine bodyPost_ret (v := .tuple #[.agg #[.bool false, .string { data := #[] }], .slice none 0 0, .int .i64 k]) ?_ rfl ⟨rfl, ?_⟩
   ·simp [results, Tryz.results10, go_sem, hD7c0, hD7c1, hDl]
   ·exact (HBB.setCell (by simp; omega) _).setCell (by simp; omega) _

end Go.Proofs.YtbcgimgkcdpjcaaGreat
end

section
namespace Go.Proofs.YtbcgimgkcdpjcaaGreat
open Go.RowKit Go.Shelf

theorem RAt.len {α : Type} {Q : World → α → List Value → Prop} {size n c : Nat} {w : World} {ao : Option Addr} {l : List α} (h : RAt Q size w (.slice ao n c) l) : n = l.length := by
 obtain ⟨a', c', e, _⟩ := h
 injection e

set_option maxHeartbeats 4000000 in
theorem diff_arg (N : NSta) (C K ca cb : Nat) (Fa Fb : List Nat) (Xa Xb : List Int) (s1 s2 s3 xa ya xb yb : Option Addr) (m1 m2 m3 d1 d2 d3 na pa ma qa nb pb mb qb : Nat) (w : World)
  (hm : NOk N) (hS : NAt w (.slice s1 m1 d1) (.slice s2 m2 d2) (.slice s3 m3 d3) N) (hfa : SsAt w (.slice xa na pa) (Fa.map E)) (hfb : SsAt w (.slice xb nb pb) (Fb.map E)) (hla : Fa.length ≤ 1000) (hlb : Fb.length ≤ 1000) (hca : ca < 256 ^ 128) (hcb : cb < 256 ^ 128)
  (hva : ∀ w', Below w.heap.size w w' → Calls Tryz.prog 18 #[.agg #[.string (E C), .string (E K)], .agg #[.slice s1 m1 d1, .slice s2 m2 d2, .slice s3 m3 d3], .agg #[.slice xa na pa, .string (E ca), .slice ya ma qa]] w' fun e w'' => e = .returned (.int .i64 0) ∧ Below w'.heap.size w' w'')
  (hvb : ∀ w', Below w.heap.size w w' → Calls Tryz.prog 18 #[.agg #[.string (E C), .string (E K)], .agg #[.slice s1 m1 d1, .slice s2 m2 d2, .slice s3 m3 d3], .agg #[.slice xb nb pb, .string (E cb), .slice yb mb qb]] w' fun e w'' => e = .returned (.int .i64 0) ∧ Below w'.heap.size w' w'')
  (hne : Fa ≠ Fb ∨ ca = cb) :
  Calls Tryz.prog 10 #[.agg #[.string (E C), .string (E K)], .agg #[.slice s1 m1 d1, .slice s2 m2 d2, .slice s3 m3 d3], .agg #[.slice xa na pa, .string (E ca), .slice ya ma qa], .agg #[.slice xb nb pb, .string (E cb), .slice yb mb qb]] w fun e w' => e = .returned (.tuple #[.agg #[.bool false, .string { data := #[] }], .slice none 0 0, .int .i64 1]) ∧ Below w.heap.size w w' := by
 have HVA := Lib.hid hva
 have HVB := Lib.hid hvb
 have HFA := Lib.hid hfa
 have HFB := Lib.hid hfb
 have HLA := Lib.hid hla
 have HLB := Lib.hid hlb
 have HCA := Lib.hid hca
 have HCB := Lib.hid hcb
 have HS0 := Lib.hid hS
 have HM := Lib.hid hm
 have hR := ((((Blk.new w #[.string (E C), .string (E K)] 24).alloc (.cells #[.slice s1 m1 d1, .slice s2 m2 d2, .slice s3 m3 d3] 29)).alloc (.cells #[.slice xa na pa, .string (E ca), .slice ya ma qa] 33)).alloc (.cells #[.slice xb nb pb, .string (E cb), .slice yb mb qb] 33)).alloc (.cells #[.bool false, .string { data := #[] }] 39)
 have hP := (((blkN (w := w.alloc (.cells #[.string (E C), .string (E K)] 24)) (cs := #[.slice s1 m1 d1, .slice s2 m2 d2, .slice s3 m3 d3]) (T := 29) (g := w.heap.size + 1) (by simp)).alloc (.cells #[.slice xa na pa, .string (E ca), .slice ya ma qa] 33)).alloc (.cells #[.slice xb nb pb, .string (E cb), .slice yb mb qb] 33)).alloc (.cells #[.bool false, .string { data := #[] }] 39)
 have hA := ((blkN (w := (w.alloc (.cells #[.string (E C), .string (E K)] 24)).alloc (.cells #[.slice s1 m1 d1, .slice s2 m2 d2, .slice s3 m3 d3] 29)) (cs := #[.slice xa na pa, .string (E ca), .slice ya ma qa]) (T := 33) (g := w.heap.size + 1 + 1) (by simp)).alloc (.cells #[.slice xb nb pb, .string (E cb), .slice yb mb qb] 33)).alloc (.cells #[.bool false, .string { data := #[] }] 39)
 have hB := (blkN (w := ((w.alloc (.cells #[.string (E C), .string (E K)] 24)).alloc (.cells #[.slice s1 m1 d1, .slice s2 m2 d2, .slice s3 m3 d3] 29)).alloc (.cells #[.slice xa na pa, .string (E ca), .slice ya ma qa] 33)) (cs := #[.slice xb nb pb, .string (E cb), .slice yb mb qb]) (T := 33) (g := w.heap.size + 1 + 1 + 1) (by simp)).alloc (.cells #[.bool false, .string { data := #[] }] 39)
 have hD := blkN (w := (((w.alloc (.cells #[.string (E C), .string (E K)] 24)).alloc (.cells #[.slice s1 m1 d1, .slice s2 m2 d2, .slice s3 m3 d3] 29)).alloc (.cells #[.slice xa na pa, .string (E ca), .slice ya ma qa] 33)).alloc (.cells #[.slice xb nb pb, .string (E cb), .slice yb mb qb] 33)) (cs := #[.bool false, .string { data := #[] }]) (T := 39) (g := w.heap.size + 1 + 1 + 1 + 1) (by simp)
 have hBW := ba (ba (b3 w (.cells #[.string (E C), .string (E K)] 24) (.cells #[.slice s1 m1 d1, .slice s2 m2 d2, .slice s3 m3 d3] 29) (.cells #[.slice xa na pa, .string (E ca), .slice ya ma qa] 33)) (.cells #[.slice xb nb pb, .string (E cb), .slice yb mb qb] 33)) (.cells #[.bool false, .string { data := #[] }] 39)
 clear hva hvb hfa hfb hla hlb hca hcb hS hm
 by_cases hf : Fa = Fb
 ·have HEQ := Lib.hid (decide_eq_true hf)
  have hce : ca = cb := by rcases hne with h | h; exact absurd hf h; exact h
  have hx1 := eqE hce
  have hx2 := eqT hce
  clear hf hne hce
  have hRc0 := hR.cell 0
  have hRf0 := hR.free 0
  have hRc1 := hR.cell 1
  have hRf1 := hR.free 1
  have hPc0 := hP.cell 0
  have hPf0 := hP.free 0
  have hPc1 := hP.cell 1
  have hPf1 := hP.free 1
  have hPc2 := hP.cell 2
  have hPf2 := hP.free 2
  have hAc0 := hA.cell 0
  have hAf0 := hA.free 0
  have hAc1 := hA.cell 1
  have hAf1 := hA.free 1
  have hAc2 := hA.cell 2
  have hAf2 := hA.free 2
  have hBc0 := hB.cell 0
  have hBf0 := hB.free 0
  have hBc1 := hB.cell 1
  have hBf1 := hB.free 1
  have hBc2 := hB.cell 2
  have hBf2 := hB.free 2
  go_enter Tryz.func10, Tryz.ntmps10
  go_wp2
  clear hRc0 hRf0 hRc1 hRf1
  clear hPc0 hPf0 hPc1 hPf1 hPc2 hPf2
  clear hAc0 hAf0 hAc1 hAf1 hAc2 hAf2
  clear hBc0 hBf0 hBc1 hBf1 hBc2 hBf2
  have hL := Blk.new (((((w.alloc (.cells #[.string (E C), .string (E K)] 24)).alloc (.cells #[.slice s1 m1 d1, .slice s2 m2 d2, .slice s3 m3 d3] 29)).alloc (.cells #[.slice xa na pa, .string (E ca), .slice ya ma qa] 33)).alloc (.cells #[.slice xb nb pb, .string (E cb), .slice yb mb qb] 33)).alloc (.cells #[.bool false, .string { data := #[] }] 39)) #[.slice xa na pa, .string (E ca), .slice ya ma qa, .slice xb nb pb, .string (E cb), .slice yb mb qb] 33
  have hbL := b1 (((((w.alloc (.cells #[.string (E C), .string (E K)] 24)).alloc (.cells #[.slice s1 m1 d1, .slice s2 m2 d2, .slice s3 m3 d3] 29)).alloc (.cells #[.slice xa na pa, .string (E ca), .slice ya ma qa] 33)).alloc (.cells #[.slice xb nb pb, .string (E cb), .slice yb mb qb] 33)).alloc (.cells #[.bool false, .string { data := #[] }] 39)) (.cells #[.slice xa na pa, .string (E ca), .slice ya ma qa, .slice xb nb pb, .string (E cb), .slice yb mb qb] 33)
  replace hR := hR.after hbL
  replace hP := hP.after hbL
  replace hA := hA.after hbL
  replace hB := hB.after hbL
  replace hD := hD.after hbL
  replace hBW := bt hBW hbL
  clear hbL
  obtain ⟨gl, hgl⟩ : ∃ g, g = (((((w.alloc (.cells #[.string (E C), .string (E K)] 24)).alloc (.cells #[.slice s1 m1 d1, .slice s2 m2 d2, .slice s3 m3 d3] 29)).alloc (.cells #[.slice xa na pa, .string (E ca), .slice ya ma qa] 33)).alloc (.cells #[.slice xb nb pb, .string (E cb), .slice yb mb qb] 33)).alloc (.cells #[.bool false, .string { data := #[] }] 39)).heap.size := ⟨_, rfl⟩
  rw [← hgl] at hL
  have hgl2 : gl = w.heap.size + 1 + 1 + 1 + 1 + 1 := by rw [hgl]; simp
  generalize (((((w.alloc (.cells #[.string (E C), .string (E K)] 24)).alloc (.cells #[.slice s1 m1 d1, .slice s2 m2 d2, .slice s3 m3 d3] 29)).alloc (.cells #[.slice xa na pa, .string (E ca), .slice ya ma qa] 33)).alloc (.cells #[.slice xb nb pb, .string (E cb), .slice yb mb qb] 33)).alloc (.cells #[.bool false, .string { data := #[] }] 39)).alloc (.cells #[.slice xa na pa, .string (E ca), .slice ya ma qa, .slice xb nb pb, .string (E cb), .slice yb mb qb] 33) = w6 at hL hR hP hA hB hD hBW ⊢
  subst hgl2
  clear hgl
  replace hL : Blk w6 (w.heap.size + 1 + 1 + 1 + 1 + 1) 33 [.slice xa na pa, .string (E ca), .slice ya ma qa, .slice xb nb pb, .string (E cb), .slice yb mb qb] := hL
  replace hR : Blk w6 w.heap.size 24 [.string (E C), .string (E K)] := hR
  replace hP : Blk w6 (w.heap.size + 1) 29 [.slice s1 m1 d1, .slice s2 m2 d2, .slice s3 m3 d3] := hP
  replace hA : Blk w6 (w.heap.size + 1 + 1) 33 [.slice xa na pa, .string (E ca), .slice ya ma qa] := hA
  replace hB : Blk w6 (w.heap.size + 1 + 1 + 1) 33 [.slice xb nb pb, .string (E cb), .slice yb mb qb] := hB
  replace hD : Blk w6 (w.heap.size + 1 + 1 + 1 + 1) 39 [.bool false, .string { data := #[] }] := hD
  go_loopw [26] (fun i wr => (i = .int .i64 0 ∨ i = .int .i64 1 ∨ i = .int .i64 2) ∧ Below w6.heap.size w6 wr) (fun i _ => 2 - (intOf i).toNat)
  case atStart => exact ⟨.inl rfl, Below.refl _ _⟩
  case round =>
   obtain ⟨hi, hbr⟩ := hrel
   obtain ⟨wp, hwp⟩ : ∃ wp, wp = wr := ⟨_, rfl⟩
   subst hwp
   replace hR := hR.after hbr
   replace hP := hP.after hbr
   replace hA := hA.after hbr
   replace hB := hB.after hbr
   replace hD := hD.after hbr
   replace hL := hL.after hbr
   replace hBW := bt hBW hbr
   rcases hi with rfl | rfl | rfl
   ·have hV := Blk.new wp #[.slice xa na pa, .string (E ca), .slice ya ma qa] 33
    have hbv := b1 wp (.cells #[.slice xa na pa, .string (E ca), .slice ya ma qa] 33)
    have hRl := hR.lt
    have hPl := hP.lt
    have hLl := hL.lt
    have hDl0 := hD.lt
    have hRc0 := hR.cell 0
    have hRf0 := hR.free 0
    have hRc1 := hR.cell 1
    have hRf1 := hR.free 1
    have hPc0 := hP.cell 0
    have hPf0 := hP.free 0
    have hPc1 := hP.cell 1
    have hPf1 := hP.free 1
    have hPc2 := hP.cell 2
    have hPf2 := hP.free 2
    have hLc0 := hL.cell 0
    have hLf0 := hL.free 0
    have hLc1 := hL.cell 1
    have hLf1 := hL.free 1
    have hLc2 := hL.cell 2
    have hLf2 := hL.free 2
    have hLc3 := hL.cell 3
    have hLf3 := hL.free 3
    have hLc4 := hL.cell 4
    have hLf4 := hL.free 4
    have hLc5 := hL.cell 5
    have hLf5 := hL.free 5
    go_wp2_with fail
    refine (HVA.out _ (bt hBW hbv)).mono ?_
    rintro e w7 ⟨rfl, hb7⟩
    clear hRc0 hRf0 hRc1 hRf1
    clear hPc0 hPf0 hPc1 hPf1 hPc2 hPf2
    clear hLc0 hLf0 hLc1 hLf1 hLc2 hLf2 hLc3 hLf3 hLc4 hLf4 hLc5 hLf5
    have HB7 := bt hbv hb7
    have hD7 := hD.after HB7
    have hDl := hD7.lt
    have HBB := bt hBW HB7
    go_wp2
    go_roundw
    case rel => exact ⟨.inr (.inl rfl), bt hbr HB7⟩
    case measure => simp [intOf]
   ·have hV := Blk.new wp #[.slice xb nb pb, .string (E cb), .slice yb mb qb] 33
    have hbv := b1 wp (.cells #[.slice xb nb pb, .string (E cb), .slice yb mb qb] 33)
    have hRl := hR.lt
    have hPl := hP.lt
    have hLl := hL.lt
    have hDl0 := hD.lt
    have hRc0 := hR.cell 0
    have hRf0 := hR.free 0
    have hRc1 := hR.cell 1
    have hRf1 := hR.free 1
    have hPc0 := hP.cell 0
    have hPf0 := hP.free 0
    have hPc1 := hP.cell 1
    have hPf1 := hP.free 1
    have hPc2 := hP.cell 2
    have hPf2 := hP.free 2
    have hLc0 := hL.cell 0
    have hLf0 := hL.free 0
    have hLc1 := hL.cell 1
    have hLf1 := hL.free 1
    have hLc2 := hL.cell 2
    have hLf2 := hL.free 2
    have hLc3 := hL.cell 3
    have hLf3 := hL.free 3
    have hLc4 := hL.cell 4
    have hLf4 := hL.free 4
    have hLc5 := hL.cell 5
    have hLf5 := hL.free 5
    go_wp2_with fail
    refine (HVB.out _ (bt hBW hbv)).mono ?_
    rintro e w7 ⟨rfl, hb7⟩
    clear hRc0 hRf0 hRc1 hRf1
    clear hPc0 hPf0 hPc1 hPf1 hPc2 hPf2
    clear hLc0 hLf0 hLc1 hLf1 hLc2 hLf2 hLc3 hLf3 hLc4 hLf4 hLc5 hLf5
    have HB7 := bt hbv hb7
    have hD7 := hD.after HB7
    have hDl := hD7.lt
    have HBB := bt hBW HB7
    go_wp2
    go_roundw
    case rel => exact ⟨.inr (.inr rfl), bt hbr HB7⟩
    case measure => simp [intOf]
   ·clear hbr
    have hAl := hA.lt
    have hBl := hB.lt
    have hAc0 := hA.cell 0
    have hAf0 := hA.free 0
    have hAc1 := hA.cell 1
    have hAf1 := hA.free 1
    have hAc2 := hA.cell 2
    have hAf2 := hA.free 2
    have hBc0 := hB.cell 0
    have hBf0 := hB.free 0
    have hBc1 := hB.cell 1
    have hBf1 := hB.free 1
    have hBc2 := hB.cell 2
    have hBf2 := hB.free 2
    go_wp2_with fail
    refine (eqNat_cV Fa Fb _ _ true _ HLA.out HLB.out (SsAt.after HFA.out hBW) (SsAt.after HFB.out hBW) HEQ.out).mono ?_
    rintro e w8 ⟨rfl, hb8⟩
    clear hAc0 hAf0 hAc1 hAf1 hAc2 hAf2
    clear hBc0 hBf0 hBc1 hBf1 hBc2 hBf2
    replace hR := hR.after hb8
    replace hP := hP.after hb8
    replace hA := hA.after hb8
    replace hB := hB.after hb8
    replace hD := hD.after hb8
    replace hBW := bt hBW hb8
    clear hb8 hL hAl hBl
    have hAl := hA.lt
    have hBl := hB.lt
    have hDl := hD.lt
    have hAc0 := hA.cell 0
    have hAf0 := hA.free 0
    have hAc1 := hA.cell 1
    have hAf1 := hA.free 1
    have hAc2 := hA.cell 2
    have hAf2 := hA.free 2
    have hBc0 := hB.cell 0
    have hBf0 := hB.free 0
    have hBc1 := hB.cell 1
    have hBf1 := hB.free 1
    have hBc2 := hB.cell 2
    have hBf2 := hB.free 2
    have hDc0 := hD.cell 0
    have hDf0 := hD.free 0
    have hDc1 := hD.cell 1
    have hDf1 := hD.free 1
    go_wp2
    refine bodyPost_ret (v := .tuple #[.agg #[.bool false, .string { data := #[] }], .slice none 0 0, .int .i64 1]) ?_ rfl ⟨rfl, ?_⟩
    ·simp [results, Tryz.results10, go_sem, hDc0, hDc1, hDl]
    ·exact (hBW.setCell (by simp; omega) _).setCell (by simp; omega) _
 ·have HEQ := Lib.hid (decide_eq_false hf)
  clear hf hne
  have hRc0 := hR.cell 0
  have hRf0 := hR.free 0
  have hRc1 := hR.cell 1
  have hRf1 := hR.free 1
  have hPc0 := hP.cell 0
  have hPf0 := hP.free 0
  have hPc1 := hP.cell 1
  have hPf1 := hP.free 1
  have hPc2 := hP.cell 2
  have hPf2 := hP.free 2
  have hAc0 := hA.cell 0
  have hAf0 := hA.free 0
  have hAc1 := hA.cell 1
  have hAf1 := hA.free 1
  have hAc2 := hA.cell 2
  have hAf2 := hA.free 2
  have hBc0 := hB.cell 0
  have hBf0 := hB.free 0
  have hBc1 := hB.cell 1
  have hBf1 := hB.free 1
  have hBc2 := hB.cell 2
  have hBf2 := hB.free 2
  go_enter Tryz.func10, Tryz.ntmps10
  go_wp2
  clear hRc0 hRf0 hRc1 hRf1
  clear hPc0 hPf0 hPc1 hPf1 hPc2 hPf2
  clear hAc0 hAf0 hAc1 hAf1 hAc2 hAf2
  clear hBc0 hBf0 hBc1 hBf1 hBc2 hBf2
  have hL := Blk.new (((((w.alloc (.cells #[.string (E C), .string (E K)] 24)).alloc (.cells #[.slice s1 m1 d1, .slice s2 m2 d2, .slice s3 m3 d3] 29)).alloc (.cells #[.slice xa na pa, .string (E ca), .slice ya ma qa] 33)).alloc (.cells #[.slice xb nb pb, .string (E cb), .slice yb mb qb] 33)).alloc (.cells #[.bool false, .string { data := #[] }] 39)) #[.slice xa na pa, .string (E ca), .slice ya ma qa, .slice xb nb pb, .string (E cb), .slice yb mb qb] 33
  have hbL := b1 (((((w.alloc (.cells #[.string (E C), .string (E K)] 24)).alloc (.cells #[.slice s1 m1 d1, .slice s2 m2 d2, .slice s3 m3 d3] 29)).alloc (.cells #[.slice xa na pa, .string (E ca), .slice ya ma qa] 33)).alloc (.cells #[.slice xb nb pb, .string (E cb), .slice yb mb qb] 33)).alloc (.cells #[.bool false, .string { data := #[] }] 39)) (.cells #[.slice xa na pa, .string (E ca), .slice ya ma qa, .slice xb nb pb, .string (E cb), .slice yb mb qb] 33)
  replace hR := hR.after hbL
  replace hP := hP.after hbL
  replace hA := hA.after hbL
  replace hB := hB.after hbL
  replace hD := hD.after hbL
  replace hBW := bt hBW hbL
  clear hbL
  obtain ⟨gl, hgl⟩ : ∃ g, g = (((((w.alloc (.cells #[.string (E C), .string (E K)] 24)).alloc (.cells #[.slice s1 m1 d1, .slice s2 m2 d2, .slice s3 m3 d3] 29)).alloc (.cells #[.slice xa na pa, .string (E ca), .slice ya ma qa] 33)).alloc (.cells #[.slice xb nb pb, .string (E cb), .slice yb mb qb] 33)).alloc (.cells #[.bool false, .string { data := #[] }] 39)).heap.size := ⟨_, rfl⟩
  rw [← hgl] at hL
  have hgl2 : gl = w.heap.size + 1 + 1 + 1 + 1 + 1 := by rw [hgl]; simp
  generalize (((((w.alloc (.cells #[.string (E C), .string (E K)] 24)).alloc (.cells #[.slice s1 m1 d1, .slice s2 m2 d2, .slice s3 m3 d3] 29)).alloc (.cells #[.slice xa na pa, .string (E ca), .slice ya ma qa] 33)).alloc (.cells #[.slice xb nb pb, .string (E cb), .slice yb mb qb] 33)).alloc (.cells #[.bool false, .string { data := #[] }] 39)).alloc (.cells #[.slice xa na pa, .string (E ca), .slice ya ma qa, .slice xb nb pb, .string (E cb), .slice yb mb qb] 33) = w6 at hL hR hP hA hB hD hBW ⊢
  subst hgl2
  clear hgl
  replace hL : Blk w6 (w.heap.size + 1 + 1 + 1 + 1 + 1) 33 [.slice xa na pa, .string (E ca), .slice ya ma qa, .slice xb nb pb, .string (E cb), .slice yb mb qb] := hL
  replace hR : Blk w6 w.heap.size 24 [.string (E C), .string (E K)] := hR
  replace hP : Blk w6 (w.heap.size + 1) 29 [.slice s1 m1 d1, .slice s2 m2 d2, .slice s3 m3 d3] := hP
  replace hA : Blk w6 (w.heap.size + 1 + 1) 33 [.slice xa na pa, .string (E ca), .slice ya ma qa] := hA
  replace hB : Blk w6 (w.heap.size + 1 + 1 + 1) 33 [.slice xb nb pb, .string (E cb), .slice yb mb qb] := hB
  replace hD : Blk w6 (w.heap.size + 1 + 1 + 1 + 1) 39 [.bool false, .string { data := #[] }] := hD
  go_loopw [26] (fun i wr => (i = .int .i64 0 ∨ i = .int .i64 1 ∨ i = .int .i64 2) ∧ Below w6.heap.size w6 wr) (fun i _ => 2 - (intOf i).toNat)
  case atStart => exact ⟨.inl rfl, Below.refl _ _⟩
  case round =>
   obtain ⟨hi, hbr⟩ := hrel
   obtain ⟨wp, hwp⟩ : ∃ wp, wp = wr := ⟨_, rfl⟩
   subst hwp
   replace hR := hR.after hbr
   replace hP := hP.after hbr
   replace hA := hA.after hbr
   replace hB := hB.after hbr
   replace hD := hD.after hbr
   replace hL := hL.after hbr
   replace hBW := bt hBW hbr
   rcases hi with rfl | rfl | rfl
   ·have hV := Blk.new wp #[.slice xa na pa, .string (E ca), .slice ya ma qa] 33
    have hbv := b1 wp (.cells #[.slice xa na pa, .string (E ca), .slice ya ma qa] 33)
    have hRl := hR.lt
    have hPl := hP.lt
    have hLl := hL.lt
    have hDl0 := hD.lt
    have hRc0 := hR.cell 0
    have hRf0 := hR.free 0
    have hRc1 := hR.cell 1
    have hRf1 := hR.free 1
    have hPc0 := hP.cell 0
    have hPf0 := hP.free 0
    have hPc1 := hP.cell 1
    have hPf1 := hP.free 1
    have hPc2 := hP.cell 2
    have hPf2 := hP.free 2
    have hLc0 := hL.cell 0
    have hLf0 := hL.free 0
    have hLc1 := hL.cell 1
    have hLf1 := hL.free 1
    have hLc2 := hL.cell 2
    have hLf2 := hL.free 2
    have hLc3 := hL.cell 3
    have hLf3 := hL.free 3
    have hLc4 := hL.cell 4
    have hLf4 := hL.free 4
    have hLc5 := hL.cell 5
    have hLf5 := hL.free 5
    go_wp2_with fail
    refine (HVA.out _ (bt hBW hbv)).mono ?_
    rintro e w7 ⟨rfl, hb7⟩
    clear hRc0 hRf0 hRc1 hRf1
    clear hPc0 hPf0 hPc1 hPf1 hPc2 hPf2
    clear hLc0 hLf0 hLc1 hLf1 hLc2 hLf2 hLc3 hLf3 hLc4 hLf4 hLc5 hLf5
    have HB7 := bt hbv hb7
    have hD7 := hD.after HB7
    have hDl := hD7.lt
    have HBB := bt hBW HB7
    go_wp2
    go_roundw
    case rel => exact ⟨.inr (.inl rfl), bt hbr HB7⟩
    case measure => simp [intOf]
   ·have hV := Blk.new wp #[.slice xb nb pb, .string (E cb), .slice yb mb qb] 33
    have hbv := b1 wp (.cells #[.slice xb nb pb, .string (E cb), .slice yb mb qb] 33)
    have hRl := hR.lt
    have hPl := hP.lt
    have hLl := hL.lt
    have hDl0 := hD.lt
    have hRc0 := hR.cell 0
    have hRf0 := hR.free 0
    have hRc1 := hR.cell 1
    have hRf1 := hR.free 1
    have hPc0 := hP.cell 0
    have hPf0 := hP.free 0
    have hPc1 := hP.cell 1
    have hPf1 := hP.free 1
    have hPc2 := hP.cell 2
    have hPf2 := hP.free 2
    have hLc0 := hL.cell 0
    have hLf0 := hL.free 0
    have hLc1 := hL.cell 1
    have hLf1 := hL.free 1
    have hLc2 := hL.cell 2
    have hLf2 := hL.free 2
    have hLc3 := hL.cell 3
    have hLf3 := hL.free 3
    have hLc4 := hL.cell 4
    have hLf4 := hL.free 4
    have hLc5 := hL.cell 5
    have hLf5 := hL.free 5
    go_wp2_with fail
    refine (HVB.out _ (bt hBW hbv)).mono ?_
    rintro e w7 ⟨rfl, hb7⟩
    clear hRc0 hRf0 hRc1 hRf1
    clear hPc0 hPf0 hPc1 hPf1 hPc2 hPf2
    clear hLc0 hLf0 hLc1 hLf1 hLc2 hLf2 hLc3 hLf3 hLc4 hLf4 hLc5 hLf5
    have HB7 := bt hbv hb7
    have hD7 := hD.after HB7
    have hDl := hD7.lt
    have HBB := bt hBW HB7
    go_wp2
    go_roundw
    case rel => exact ⟨.inr (.inr rfl), bt hbr HB7⟩
    case measure => simp [intOf]
   ·clear hbr
    have hAl := hA.lt
    have hBl := hB.lt
    have hAc0 := hA.cell 0
    have hAf0 := hA.free 0
    have hAc1 := hA.cell 1
    have hAf1 := hA.free 1
    have hAc2 := hA.cell 2
    have hAf2 := hA.free 2
    have hBc0 := hB.cell 0
    have hBf0 := hB.free 0
    have hBc1 := hB.cell 1
    have hBf1 := hB.free 1
    have hBc2 := hB.cell 2
    have hBf2 := hB.free 2
    go_wp2_with fail
    refine (eqNat_cV Fa Fb _ _ false _ HLA.out HLB.out (SsAt.after HFA.out hBW) (SsAt.after HFB.out hBW) HEQ.out).mono ?_
    rintro e w8 ⟨rfl, hb8⟩
    clear hAc0 hAf0 hAc1 hAf1 hAc2 hAf2
    clear hBc0 hBf0 hBc1 hBf1 hBc2 hBf2
    replace hR := hR.after hb8
    replace hP := hP.after hb8
    replace hA := hA.after hb8
    replace hB := hB.after hb8
    replace hD := hD.after hb8
    replace hBW := bt hBW hb8
    clear hb8 hL hAl hBl
    have hAl := hA.lt
    have hBl := hB.lt
    have hDl := hD.lt
    have hDc0 := hD.cell 0
    have hDf0 := hD.free 0
    have hDc1 := hD.cell 1
    have hDf1 := hD.free 1
    go_wp2
    refine bodyPost_ret (v := .tuple #[.agg #[.bool false, .string { data := #[] }], .slice none 0 0, .int .i64 1]) ?_ rfl ⟨rfl, ?_⟩
    ·simp [results, Tryz.results10, go_sem, hDc0, hDc1, hDl]
    ·exact (hBW.setCell (by simp; omega) _).setCell (by simp; omega) _

end Go.Proofs.YtbcgimgkcdpjcaaGreat
end

section
namespace Go.Proofs.YtbcgimgkcdpjcaaGreat
open Go.RowKit Go.Shelf

def NSta.difs (N : NSta) (X Y : List Int) : List Int := (List.range N.vars.length).map fun j => difI N.ord (N.vars.getD j 0) (X.getD j 0) (Y.getD j 0)

theorem difs_step (N : NSta) (X Y : List Int) (k : Nat) (h : k < N.vars.length) (hx : k < X.length) (hy : k < Y.length) : (N.difs X Y).take (k + 1) = (N.difs X Y).take k ++ [difI N.ord N.vars[k] X[k] Y[k]] := by
 unfold NSta.difs
 rw [← List.map_take, List.take_succ_eq_append_getElem (by simpa using h), List.map_append, List.map_take]
 simp only [List.getElem_range, List.map_cons, List.map_nil, List.getD_eq_getElem?_getD, List.getElem?_eq_getElem h, List.getElem?_eq_getElem hx, List.getElem?_eq_getElem hy, Option.getD_some]

/-- what Differences returns -/
def DPost (w : World) (c : Nat) (L : List Int) (e : Ending) (w' : World) : Prop := ∃ v, e = .returned (.tuple #[.agg #[.bool false, .string (E c)], v, .int .i64 0]) ∧ ZOwn w' w.heap.size v L ∧ Below w.heap.size w w'

/-- what is needed of the responses of variables modulo the order -/
def ModOk (N : NSta) (X Y : List Int) : Prop := ∀ (k : Nat) (h : k < N.vars.length) (hx : k < X.length) (hy : k < Y.length), N.vars[k] = 0 → 0 < N.ord ∧ X[k].natAbs < 256 ^ 8 ∧ Y[k].natAbs < 256 ^ 8

set_option maxHeartbeats 8000000 in
theorem diff_ok1 (N : NSta) (C K ca cb : Nat) (Fa Fb : List Nat) (Xa Xb : List Int) (s1 s2 s3 xa ya xb yb : Option Addr) (m1 m2 m3 d1 d2 d3 na pa ma qa nb pb mb qb : Nat) (w : World)
  (hm : NOk N) (hS : NAt w (.slice s1 m1 d1) (.slice s2 m2 d2) (.slice s3 m3 d3) N) (hfa : SsAt w (.slice xa na pa) (Fa.map E)) (hfb : SsAt w (.slice xb nb pb) (Fb.map E)) (hla : Fa.length ≤ 1000) (hlb : Fb.length ≤ 1000) (hca : ca < 256 ^ 128) (hcb : cb < 256 ^ 128)
  (hva : ∀ w', Below w.heap.size w w' → Calls Tryz.prog 18 #[.agg #[.string (E C), .string (E K)], .agg #[.slice s1 m1 d1, .slice s2 m2 d2, .slice s3 m3 d3], .agg #[.slice xa na pa, .string (E ca), .slice ya ma qa]] w' fun e w'' => e = .returned (.int .i64 0) ∧ Below w'.heap.size w' w'')
  (hvb : ∀ w', Below w.heap.size w w' → Calls Tryz.prog 18 #[.agg #[.string (E C), .string (E K)], .agg #[.slice s1 m1 d1, .slice s2 m2 d2, .slice s3 m3 d3], .agg #[.slice xb nb pb, .string (E cb), .slice yb mb qb]] w' fun e w'' => e = .returned (.int .i64 0) ∧ Below w'.heap.size w' w'')
  (hxa : ZsAt w (.slice ya ma qa) Xa) (hxb : ZsAt w (.slice yb mb qb) Xb) (hlxa : Xa.length = N.vars.length) (hlxb : Xb.length = N.vars.length) (hza : ∀ z ∈ Xa, z.natAbs < 256 ^ 64) (hzb : ∀ z ∈ Xb, z.natAbs < 256 ^ 64)
  (hmo : ModOk N Xa Xb) (hf : Fa = Fb) (hcc : cb < ca) :
  Calls Tryz.prog 10 #[.agg #[.string (E C), .string (E K)], .agg #[.slice s1 m1 d1, .slice s2 m2 d2, .slice s3 m3 d3], .agg #[.slice xa na pa, .string (E ca), .slice ya ma qa], .agg #[.slice xb nb pb, .string (E cb), .slice yb mb qb]] w (DPost w (ca - cb) (N.difs Xa Xb)) := by
 have HVA := Lib.hid hva
 have HVB := Lib.hid hvb
 have HFA := Lib.hid hfa
 have HFB := Lib.hid hfb
 have HLA := Lib.hid hla
 have HLB := Lib.hid hlb
 have HCA := Lib.hid hca
 have HCB := Lib.hid hcb
 have HS0 := Lib.hid hS
 have HM := Lib.hid hm
 obtain ⟨i1, hi1, hz10, hz11, hz12⟩ := info_parts info_Int
 have HI1 := Lib.hid hi1
 have HA1 := Lib.hid hz10
 have HB1 := Lib.hid hz11
 have HC1 := Lib.hid hz12
 clear hi1 hz10 hz11 hz12
 have HXA := Lib.hid hxa
 have HXB := Lib.hid hxb
 have HLXA := Lib.hid hlxa
 have HLXB := Lib.hid hlxb
 have HMA : Hid (ma = N.vars.length) := by have h := RAt.len hxa; rw [List.length_map] at h; rw [Hid, h, hlxa]
 have HMB : Hid (mb = N.vars.length) := by have h := RAt.len hxb; rw [List.length_map] at h; rw [Hid, h, hlxb]
 have HN2 : Hid (m2 = N.vars.length) := by have h := RAt.len hS.v; rw [Hid, h]; simp [NSta.s]
 rw [← HN2.out] at HMA HMB
 have l2 : m2 ≤ 6 := by rw [HN2.out]; exact hm.nv
 have HZA := Lib.hid hza
 have HZB := Lib.hid hzb
 have HMODAB := Lib.hid hmo
 have HMODBA := Lib.hid hmo
 have HEQ := Lib.hid (decide_eq_true hf)
 have HGE : Hid (cb ≤ ca) := Nat.le_of_lt hcc
 have hcn := cmp_nneg ca cb (Nat.le_of_lt hcc)
 have hx1 := neE (show ca ≠ cb by omega)
 have hx2 := eqF (show ca ≠ cb by omega)
 have hR := ((((Blk.new w #[.string (E C), .string (E K)] 24).alloc (.cells #[.slice s1 m1 d1, .slice s2 m2 d2, .slice s3 m3 d3] 29)).alloc (.cells #[.slice xa na pa, .string (E ca), .slice ya ma qa] 33)).alloc (.cells #[.slice xb nb pb, .string (E cb), .slice yb mb qb] 33)).alloc (.cells #[.bool false, .string { data := #[] }] 39)
 have hP := (((blkN (w := w.alloc (.cells #[.string (E C), .string (E K)] 24)) (cs := #[.slice s1 m1 d1, .slice s2 m2 d2, .slice s3 m3 d3]) (T := 29) (g := w.heap.size + 1) (by simp)).alloc (.cells #[.slice xa na pa, .string (E ca), .slice ya ma qa] 33)).alloc (.cells #[.slice xb nb pb, .string (E cb), .slice yb mb qb] 33)).alloc (.cells #[.bool false, .string { data := #[] }] 39)
 have hA := ((blkN (w := (w.alloc (.cells #[.string (E C), .string (E K)] 24)).alloc (.cells #[.slice s1 m1 d1, .slice s2 m2 d2, .slice s3 m3 d3] 29)) (cs := #[.slice xa na pa, .string (E ca), .slice ya ma qa]) (T := 33) (g := w.heap.size + 1 + 1) (by simp)).alloc (.cells #[.slice xb nb pb, .string (E cb), .slice yb mb qb] 33)).alloc (.cells #[.bool false, .string { data := #[] }] 39)
 have hB := (blkN (w := ((w.alloc (.cells #[.string (E C), .string (E K)] 24)).alloc (.cells #[.slice s1 m1 d1, .slice s2 m2 d2, .slice s3 m3 d3] 29)).alloc (.cells #[.slice xa na pa, .string (E ca), .slice ya ma qa] 33)) (cs := #[.slice xb nb pb, .string (E cb), .slice yb mb qb]) (T := 33) (g := w.heap.size + 1 + 1 + 1) (by simp)).alloc (.cells #[.bool false, .string { data := #[] }] 39)
 have hD := blkN (w := (((w.alloc (.cells #[.string (E C), .string (E K)] 24)).alloc (.cells #[.slice s1 m1 d1, .slice s2 m2 d2, .slice s3 m3 d3] 29)).alloc (.cells #[.slice xa na pa, .string (E ca), .slice ya ma qa] 33)).alloc (.cells #[.slice xb nb pb, .string (E cb), .slice yb mb qb] 33)) (cs := #[.bool false, .string { data := #[] }]) (T := 39) (g := w.heap.size + 1 + 1 + 1 + 1) (by simp)
 have hBW := ba (ba (b3 w (.cells #[.string (E C), .string (E K)] 24) (.cells #[.slice s1 m1 d1, .slice s2 m2 d2, .slice s3 m3 d3] 29) (.cells #[.slice xa na pa, .string (E ca), .slice ya ma qa] 33)) (.cells #[.slice xb nb pb, .string (E cb), .slice yb mb qb] 33)) (.cells #[.bool false, .string { data := #[] }] 39)
 have HDLT : Hid (w.heap.size + 1 + 1 + 1 + 1 < w.heap.size + 1 + 1 + 1 + 1 + 1) := Nat.lt_succ_self _
 clear hva hvb hfa hfb hla hlb hca hcb hS hm hxa hxb hlxa hlxb hza hzb hmo hf hcc
 have hRc0 := hR.cell 0
 have hRf0 := hR.free 0
 have hRc1 := hR.cell 1
 have hRf1 := hR.free 1
 have hPc0 := hP.cell 0
 have hPf0 := hP.free 0
 have hPc1 := hP.cell 1
 have hPf1 := hP.free 1
 have hPc2 := hP.cell 2
 have hPf2 := hP.free 2
 have hAc0 := hA.cell 0
 have hAf0 := hA.free 0
 have hAc1 := hA.cell 1
 have hAf1 := hA.free 1
 have hAc2 := hA.cell 2
 have hAf2 := hA.free 2
 have hBc0 := hB.cell 0
 have hBf0 := hB.free 0
 have hBc1 := hB.cell 1
 have hBf1 := hB.free 1
 have hBc2 := hB.cell 2
 have hBf2 := hB.free 2
 go_enter Tryz.func10, Tryz.ntmps10
 go_wp2
 clear hRc0 hRf0 hRc1 hRf1
 clear hPc0 hPf0 hPc1 hPf1 hPc2 hPf2
 clear hAc0 hAf0 hAc1 hAf1 hAc2 hAf2
 clear hBc0 hBf0 hBc1 hBf1 hBc2 hBf2
 have hL := Blk.new (((((w.alloc (.cells #[.string (E C), .string (E K)] 24)).alloc (.cells #[.slice s1 m1 d1, .slice s2 m2 d2, .slice s3 m3 d3] 29)).alloc (.cells #[.slice xa na pa, .string (E ca), .slice ya ma qa] 33)).alloc (.cells #[.slice xb nb pb, .string (E cb), .slice yb mb qb] 33)).alloc (.cells #[.bool false, .string { data := #[] }] 39)) #[.slice xa na pa, .string (E ca), .slice ya ma qa, .slice xb nb pb, .string (E cb), .slice yb mb qb] 33
 have hbL := b1 (((((w.alloc (.cells #[.string (E C), .string (E K)] 24)).alloc (.cells #[.slice s1 m1 d1, .slice s2 m2 d2, .slice s3 m3 d3] 29)).alloc (.cells #[.slice xa na pa, .string (E ca), .slice ya ma qa] 33)).alloc (.cells #[.slice xb nb pb, .string (E cb), .slice yb mb qb] 33)).alloc (.cells #[.bool false, .string { data := #[] }] 39)) (.cells #[.slice xa na pa, .string (E ca), .slice ya ma qa, .slice xb nb pb, .string (E cb), .slice yb mb qb] 33)
 replace hR := hR.after hbL
 replace hP := hP.after hbL
 replace hA := hA.after hbL
 replace hB := hB.after hbL
 replace hD := hD.after hbL
 replace hBW := bt hBW hbL
 clear hbL
 obtain ⟨gl, hgl⟩ : ∃ g, g = (((((w.alloc (.cells #[.string (E C), .string (E K)] 24)).alloc (.cells #[.slice s1 m1 d1, .slice s2 m2 d2, .slice s3 m3 d3] 29)).alloc (.cells #[.slice xa na pa, .string (E ca), .slice ya ma qa] 33)).alloc (.cells #[.slice xb nb pb, .string (E cb), .slice yb mb qb] 33)).alloc (.cells #[.bool false, .string { data := #[] }] 39)).heap.size := ⟨_, rfl⟩
 rw [← hgl] at hL
 have hgl2 : gl = w.heap.size + 1 + 1 + 1 + 1 + 1 := by rw [hgl]; simp
 generalize (((((w.alloc (.cells #[.string (E C), .string (E K)] 24)).alloc (.cells #[.slice s1 m1 d1, .slice s2 m2 d2, .slice s3 m3 d3] 29)).alloc (.cells #[.slice xa na pa, .string (E ca), .slice ya ma qa] 33)).alloc (.cells #[.slice xb nb pb, .string (E cb), .slice yb mb qb] 33)).alloc (.cells #[.bool false, .string { data := #[] }] 39)).alloc (.cells #[.slice xa na pa, .string (E ca), .slice ya ma qa, .slice xb nb pb, .string (E cb), .slice yb mb qb] 33) = w6 at hL hR hP hA hB hD hBW ⊢
 subst hgl2
 clear hgl
 replace hL : Blk w6 (w.heap.size + 1 + 1 + 1 + 1 + 1) 33 [.slice xa na pa, .string (E ca), .slice ya ma qa, .slice xb nb pb, .string (E cb), .slice yb mb qb] := hL
 replace hR : Blk w6 w.heap.size 24 [.string (E C), .string (E K)] := hR
 replace hP : Blk w6 (w.heap.size + 1) 29 [.slice s1 m1 d1, .slice s2 m2 d2, .slice s3 m3 d3] := hP
 replace hA : Blk w6 (w.heap.size + 1 + 1) 33 [.slice xa na pa, .string (E ca), .slice ya ma qa] := hA
 replace hB : Blk w6 (w.heap.size + 1 + 1 + 1) 33 [.slice xb nb pb, .string (E cb), .slice yb mb qb] := hB
 replace hD : Blk w6 (w.heap.size + 1 + 1 + 1 + 1) 39 [.bool false, .string { data := #[] }] := hD
 go_loopw [26] (fun i wr => (i = .int .i64 0 ∨ i = .int .i64 1 ∨ i = .int .i64 2) ∧ Below w6.heap.size w6 wr) (fun i _ => 2 - (intOf i).toNat)
 case atStart => exact ⟨.inl rfl, Below.refl _ _⟩
 case round =>
  obtain ⟨hi, hbr⟩ := hrel
  obtain ⟨wp, hwp⟩ : ∃ wp, wp = wr := ⟨_, rfl⟩
  subst hwp
  replace hR := hR.after hbr
  replace hP := hP.after hbr
  replace hA := hA.after hbr
  replace hB := hB.after hbr
  replace hD := hD.after hbr
  replace hL := hL.after hbr
  replace hBW := bt hBW hbr
  rcases hi with rfl | rfl | rfl
  ·have hV := Blk.new wp #[.slice xa na pa, .string (E ca), .slice ya ma qa] 33
   have hbv := b1 wp (.cells #[.slice xa na pa, .string (E ca), .slice ya ma qa] 33)
   have hRl := hR.lt
   have hPl := hP.lt
   have hLl := hL.lt
   have hDl0 := hD.lt
   have hRc0 := hR.cell 0
   have hRf0 := hR.free 0
   have hRc1 := hR.cell 1
   have hRf1 := hR.free 1
   have hPc0 := hP.cell 0
   have hPf0 := hP.free 0
   have hPc1 := hP.cell 1
   have hPf1 := hP.free 1
   have hPc2 := hP.cell 2
   have hPf2 := hP.free 2
   have hLc0 := hL.cell 0
   have hLf0 := hL.free 0
   have hLc1 := hL.cell 1
   have hLf1 := hL.free 1
   have hLc2 := hL.cell 2
   have hLf2 := hL.free 2
   have hLc3 := hL.cell 3
   have hLf3 := hL.free 3
   have hLc4 := hL.cell 4
   have hLf4 := hL.free 4
   have hLc5 := hL.cell 5
   have hLf5 := hL.free 5
   go_wp2_with fail
   refine (HVA.out _ (bt hBW hbv)).mono ?_
   rintro e w7 ⟨rfl, hb7⟩
   clear hRc0 hRf0 hRc1 hRf1
   clear hPc0 hPf0 hPc1 hPf1 hPc2 hPf2
   clear hLc0 hLf0 hLc1 hLf1 hLc2 hLf2 hLc3 hLf3 hLc4 hLf4 hLc5 hLf5
   have HB7 := bt hbv hb7
   have hD7 := hD.after HB7
   have hDl := hD7.lt
   have HBB := bt hBW HB7
   go_wp2
   go_roundw
   case rel => exact ⟨.inr (.inl rfl), bt hbr HB7⟩
   case measure => simp [intOf]
  ·have hV := Blk.new wp #[.slice xb nb pb, .string (E cb), .slice yb mb qb] 33
   have hbv := b1 wp (.cells #[.slice xb nb pb, .string (E cb), .slice yb mb qb] 33)
   have hRl := hR.lt
   have hPl := hP.lt
   have hLl := hL.lt
   have hDl0 := hD.lt
   have hRc0 := hR.cell 0
   have hRf0 := hR.free 0
   have hRc1 := hR.cell 1
   have hRf1 := hR.free 1
   have hPc0 := hP.cell 0
   have hPf0 := hP.free 0
   have hPc1 := hP.cell 1
   have hPf1 := hP.free 1
   have hPc2 := hP.cell 2
   have hPf2 := hP.free 2
   have hLc0 := hL.cell 0
   have hLf0 := hL.free 0
   have hLc1 := hL.cell 1
   have hLf1 := hL.free 1
   have hLc2 := hL.cell 2
   have hLf2 := hL.free 2
   have hLc3 := hL.cell 3
   have hLf3 := hL.free 3
   have hLc4 := hL.cell 4
   have hLf4 := hL.free 4
   have hLc5 := hL.cell 5
   have hLf5 := hL.free 5
   go_wp2_with fail
   refine (HVB.out _ (bt hBW hbv)).mono ?_
   rintro e w7 ⟨rfl, hb7⟩
   clear hRc0 hRf0 hRc1 hRf1
   clear hPc0 hPf0 hPc1 hPf1 hPc2 hPf2
   clear hLc0 hLf0 hLc1 hLf1 hLc2 hLf2 hLc3 hLf3 hLc4 hLf4 hLc5 hLf5
   have HB7 := bt hbv hb7
   have hD7 := hD.after HB7
   have hDl := hD7.lt
   have HBB := bt hBW HB7
   go_wp2
   go_roundw
   case rel => exact ⟨.inr (.inr rfl), bt hbr HB7⟩
   case measure => simp [intOf]
  ·clear hbr
   have hAl := hA.lt
   have hBl := hB.lt
   have hAc0 := hA.cell 0
   have hAf0 := hA.free 0
   have hAc1 := hA.cell 1
   have hAf1 := hA.free 1
   have hAc2 := hA.cell 2
   have hAf2 := hA.free 2
   have hBc0 := hB.cell 0
   have hBf0 := hB.free 0
   have hBc1 := hB.cell 1
   have hBf1 := hB.free 1
   have hBc2 := hB.cell 2
   have hBf2 := hB.free 2
   go_wp2_with fail
   refine (eqNat_cV Fa Fb _ _ true _ HLA.out HLB.out (SsAt.after HFA.out hBW) (SsAt.after HFB.out hBW) HEQ.out).mono ?_
   rintro e w8 ⟨rfl, hb8⟩
   clear hAc0 hAf0 hAc1 hAf1 hAc2 hAf2
   clear hBc0 hBf0 hBc1 hBf1 hBc2 hBf2
   replace hR := hR.after hb8
   replace hP := hP.after hb8
   replace hA := hA.after hb8
   replace hB := hB.after hb8
   replace hD := hD.after hb8
   replace hBW := bt hBW hb8
   clear hb8 hL hAl hBl
   have hAl := hA.lt
   have hBl := hB.lt
   have hDl := hD.lt
   have HLX : Hid (Xa.length = N.vars.length) := HLXA.out
   have HLY : Hid (Xb.length = N.vars.length) := HLXB.out
   have HLXM := HMA
   have HLYM := HMB
   have HZX0 := HZA
   have HZY0 := HZB
   have HMOD := HMODAB
   have hAc0 := hA.cell 0
   have hAf0 := hA.free 0
   have hAc1 := hA.cell 1
   have hAf1 := hA.free 1
   have hAc2 := hA.cell 2
   have hAf2 := hA.free 2
   have hBc0 := hB.cell 0
   have hBf0 := hB.free 0
   have hBc1 := hB.cell 1
   have hBf1 := hB.free 1
   have hBc2 := hB.cell 2
   have hBf2 := hB.free 2
   go_wp2_with fail
   refine (cmp_c ca cb _ HCA.out HCB.out).mono ?_
   rintro e w' ⟨rfl, rfl⟩
   go_wp2_with fail
   clear hAc0 hAf0 hAc1 hAf1 hAc2 hAf2
   clear hBc0 hBf0 hBc1 hBf1 hBc2 hBf2
   refine (subV_c ca cb (ca - cb) _ HCA.out HGE.out rfl).mono ?_
   rintro e w10 ⟨rfl, hb10⟩
   replace hP := hP.after hb10
   replace hA := hA.after hb10
   replace hB := hB.after hb10
   replace hD := hD.after hb10
   replace hBW := bt hBW hb10
   clear hb10
   obtain ⟨cd, hcd⟩ : ∃ c, c = ca - cb := ⟨_, rfl⟩
   rw [← hcd]
   have HCD := Lib.hid hcd
   clear hcd
   clear hAl hBl hDl
   have hPl := hP.lt
   have hPc0 := hP.cell 0
   have hPf0 := hP.free 0
   have hPc1 := hP.cell 1
   have hPf1 := hP.free 1
   have hPc2 := hP.cell 2
   have hPf2 := hP.free 2
   go_wp2
   clear hPc0 hPf0 hPc1 hPf1 hPc2 hPf2
   clear hPl
   have hFn := Blk.new w10 #[.func (.func 31) #[] #[], .func (.func 32) #[] #[]] 77
   have hbF0 := b1 w10 (.cells #[.func (.func 31) #[] #[], .func (.func 32) #[] #[]] 77)
   replace hP := hP.after hbF0
   replace hA := hA.after hbF0
   replace hB := hB.after hbF0
   replace hD := hD.after hbF0
   replace hBW := bt hBW hbF0
   obtain ⟨g16, hg16⟩ : ∃ g, w10.heap.size = g := ⟨_, rfl⟩
   rw [hg16] at hFn ⊢
   clear hg16 hbF0
   generalize w10.alloc (.cells #[.func (.func 31) #[] #[], .func (.func 32) #[] #[]] 77) = wF at hFn hP hA hB hD hBW ⊢
   replace hFn : Blk wF g16 77 [.func (.func 31) #[] #[], .func (.func 32) #[] #[]] := hFn
   go_loopw [17, 73] (fun v17 i wr => ∃ k : Nat, k ≤ m2 ∧ i = .int .i64 k ∧ ZOwn wr wF.heap.size v17 ((N.difs Xa Xb).take k) ∧ Below wF.heap.size wF wr) (fun _ i _ => m2 - (intOf i).toNat)
   case atStart => exact ⟨0, by omega, rfl, World.ownsRow_nil _ _ _ _, Below.refl _ _⟩
   case round =>
    obtain ⟨k, hk, rfl, hO, hbr⟩ := hrel
    obtain ⟨wq, hwq⟩ : ∃ wq, wq = wr := ⟨_, rfl⟩
    subst hwq
    have hBW1 := bt hBW hbr
    by_cases hlt : k < m2
    ·have hkl : k < N.vars.length := by rw [← HN2.out]; exact hlt
     have hkx : k < Xa.length := by rw [HLX.out]; exact hkl
     have hky : k < Xb.length := by rw [HLY.out]; exact hkl
     have HST := Lib.hid (difs_step N Xa Xb k hkl hkx hky)
     have HMD := Lib.hid (HMOD.out k hkl hkx hky)
     have HZX := Lib.hid (HZX0.out _ (List.getElem_mem hkx))
     have HZY := Lib.hid (HZY0.out _ (List.getElem_mem hky))
     have hS1 := HS0.out.after hBW1
     obtain ⟨b0, o0, rfl, hbl, vx1⟩ := NAt.vat hS1 hkl
     obtain ⟨bx, ox, rfl, hbx, x1⟩ := (HXA.out.after hBW1).at_ hkx
     obtain ⟨by', oy, rfl, hby, y1⟩ := (HXB.out.after hBW1).at_ hky
     obtain ⟨x1, x2⟩ := x1
     obtain ⟨y1, y2⟩ := y1
     generalize (N.vars[k]'hkl) = vb at vx1 HST HMD
     generalize (Xa[k]'hkx) = zx at x1 x2 HST HMD HZX
     generalize (Xb[k]'hky) = zy at y1 y2 HST HMD HZY
     obtain ⟨dz, hdz⟩ : ∃ z, z = difI N.ord vb zx zy := ⟨_, rfl⟩
     have HDZ := Lib.hid hdz
     clear hdz
     have h0k : (0 : Int) ≤ (k : Int) := by omega
     have h1k : (k : Int) < (m2 : Int) := by omega
     have h1x : (k : Int) < (ma : Int) := by rw [HLXM.out]; omega
     have h1y : (k : Int) < (mb : Int) := by rw [HLYM.out]; omega
     have h19 := Blk.new wq #[.string (E vb)] 67
     have hb19 := b1 wq (.cells #[.string (E vb)] 67)
     have hO1 := own_after hO hb19
     have hFn1 := (hFn.after hbr).after hb19
     have hP1 := (hP.after hbr).after hb19
     have hA1 := (hA.after hbr).after hb19
     have hB1 := (hB.after hbr).after hb19
     have hbr1 := bt hbr hb19
     have hBW2 := bt hBW1 hb19
     replace x1 := (hb19.cell (p := ⟨bx, ox + k * 2, none⟩) hbx).trans x1
     replace x2 := (hb19.cell (p := ⟨bx, ox + k * 2 + 1, none⟩) hbx).trans x2
     replace y1 := (hb19.cell (p := ⟨by', oy + k * 2, none⟩) hby).trans y1
     replace y2 := (hb19.cell (p := ⟨by', oy + k * 2 + 1, none⟩) hby).trans y2
     replace hbx := Nat.lt_of_lt_of_le hbx hb19.size
     replace hby := Nat.lt_of_lt_of_le hby hb19.size
     have hLE : Hid (((N.difs Xa Xb).take k).length = k) := by rw [Hid, List.length_take, NSta.difs, List.length_map, List.length_range]; omega
     clear hO hS1
     go_wp2_with fail
     clear vx1 hbl
     generalize wq.alloc (.cells #[.string (E vb)] 67) = wA at h19 hO1 hFn1 hP1 hA1 hB1 hbr1 hBW2 x1 x2 y1 y2 hbx hby
     obtain ⟨g19, hg19⟩ : ∃ g, wq.heap.size = g := ⟨_, rfl⟩
     rw [hg19] at h19 ⊢
     clear hg19 hb19
     replace h19 : Blk wA g19 67 [.string (E vb)] := h19
     have HORD : Hid (∀ w', Below wA.heap.size wA w' → Calls Tryz.prog 34 #[.agg #[.slice s1 m1 d1, .slice (some ⟨b0, o0, none⟩) m2 d2, .slice s3 m3 d3]] w' fun e w'' => e = .returned (.string (E N.ord)) ∧ Below w'.heap.size w' w'') := fun w' hb' => eorder_c N _ _ _ w' HM.out (HS0.out.after (bt hBW2 hb'))
     by_cases hv0 : vb = 0
     ·have HKD : Hid (∀ w, Calls Tryz.prog 33 #[.agg #[.string (E vb)]] w fun e w' => e = .returned (.int .i64 0) ∧ Below w.heap.size w w') := fun w => ekindV_c vb 0 w (if_pos hv0)
      have HDY : Hid (∀ w, Calls Tryz.prog 31 #[.string (E N.ord), .agg #[.bool (sg (zx)), .string (E (zx).natAbs)], .agg #[.bool (sg (zy)), .string (E (zy).natAbs)]] w fun e w' => e = .returned (.tuple #[.agg #[.bool (sg (dz)), .string (E (dz).natAbs)], .int .i64 0]) ∧ Below w.heap.size w w') := fun w => by
       rw [HDZ.out, hv0]; exact mdif_c N.ord zx zy w (ord_lt HM.out) (HMD.out hv0).1 (HMD.out hv0).2.1 (HMD.out hv0).2.2
      clear hv0
      obtain ⟨cl, hcl⟩ : ∃ l : List (Addr × Value), l = [(⟨g19, 0, none⟩, .string (E vb)), (⟨g16, 0, none⟩, .func (.func 31) #[] #[]), (⟨g16, 1, none⟩, .func (.func 32) #[] #[]), (⟨w.heap.size + 1, 0, none⟩, .slice s1 m1 d1), (⟨w.heap.size + 1, 1, none⟩, .slice (some ⟨b0, o0, none⟩) m2 d2), (⟨w.heap.size + 1, 2, none⟩, .slice s3 m3 d3), (⟨w.heap.size + 1 + 1, 2, none⟩, .slice (some ⟨bx, ox, none⟩) ma qa), (⟨w.heap.size + 1 + 1 + 1, 2, none⟩, .slice (some ⟨by', oy, none⟩) mb qb), (⟨bx, ox + k * 2, none⟩, .bool (sg zx)), (⟨bx, ox + k * 2 + 1, none⟩, .string (E zx.natAbs)), (⟨by', oy + k * 2, none⟩, .bool (sg zy)), (⟨by', oy + k * 2 + 1, none⟩, .string (E zy.natAbs))] := ⟨_, rfl⟩
      have HCL := Lib.hid hcl
      clear hcl
      have hC : CA wA cl := by
       rw [HCL.out]
       exact CA.cons h19.lt (h19.cell 0) (CA.cons hFn1.lt (hFn1.cell 0) (CA.cons hFn1.lt (hFn1.cell 1) (CA.cons hP1.lt (hP1.cell 0) (CA.cons hP1.lt (hP1.cell 1) (CA.cons hP1.lt (hP1.cell 2) (CA.cons hA1.lt (hA1.cell 2) (CA.cons hB1.lt (hB1.cell 2) (CA.cons hbx x1 (CA.cons hbx x2 (CA.cons hby y1 (CA.cons hby y2 (CA.nil _))))))))))))
      have hneA := fun x hx => Nat.ne_of_lt (hC x hx).1
      clear h19 hFn1 hP1 hA1 hB1 x1 x2 y1 y2 hbx hby
      go_upto_region 18 with fail
      go_cut [20, 21] (fun s20 s21 wx => ZBox wA dz s20 s21 wx)
      case first =>
       go_region_held3 (fun w' => w'.cell? ⟨g19, 0, none⟩ = some (.string (E vb)) ∧ w'.cell? ⟨g16, 0, none⟩ = some (.func (.func 31) #[] #[]) ∧ w'.cell? ⟨g16, 1, none⟩ = some (.func (.func 32) #[] #[]) ∧ w'.cell? ⟨w.heap.size + 1, 0, none⟩ = some (.slice s1 m1 d1) ∧ w'.cell? ⟨w.heap.size + 1, 1, none⟩ = some (.slice (some ⟨b0, o0, none⟩) m2 d2) ∧ w'.cell? ⟨w.heap.size + 1, 2, none⟩ = some (.slice s3 m3 d3) ∧ w'.cell? ⟨w.heap.size + 1 + 1, 2, none⟩ = some (.slice (some ⟨bx, ox, none⟩) ma qa) ∧ w'.cell? ⟨w.heap.size + 1 + 1 + 1, 2, none⟩ = some (.slice (some ⟨by', oy, none⟩) mb qb) ∧ w'.cell? ⟨bx, ox + k * 2, none⟩ = some (.bool (sg zx)) ∧ w'.cell? ⟨bx, ox + k * 2 + 1, none⟩ = some (.string (E zx.natAbs)) ∧ w'.cell? ⟨by', oy + k * 2, none⟩ = some (.bool (sg zy)) ∧ w'.cell? ⟨by', oy + k * 2 + 1, none⟩ = some (.string (E zy.natAbs))) ((refine CA.k12 ?_; rw [← HCL.out]; repeat (first | (with_reducible exact hCd) | (with_reducible exact hCo) | (with_reducible exact hCf) | (with_reducible exact hC) | (with_reducible refine CA.drew ?_) | (with_reducible refine CA.alloc ?_ _) | (refine CA.set ?_ _ _ _ hneA) | (refine CA.set ?_ _ _ _ (fun x hx => Nat.ne_of_lt (hCf x hx).1)) | (refine CA.set ?_ _ _ _ (fun x hx => Nat.ne_of_lt (hCo x hx).1)))))
        (first | (go_at_call 33; refine (HKD.out _).mono ?_; rintro e wf ⟨rfl, hbf⟩; have hCf : CA wf cl := (by first | exact hC.drew.after hbf | exact (hC.alloc _).drew.after hbf | exact (hC.drew.alloc _).after hbf); (try (have hbF : Below wA.heap.size wA wf := (Below.drew (Below.refl _ _)).trans hbf)); (try (have hbF : Below wA.heap.size wA wf := bt ((b1 wA _).drew) hbf)); (try (have kA := (Blk.new wA #[.bool false, .string { data := #[] }] 39).drew.after hbf))) | (go_at_call 34; refine (HORD.out _ (by first | exact hbF | exact ba hbF _)).mono ?_; rintro e wo ⟨rfl, hbo⟩; have hCo : CA wo cl := (by first | exact hCf.after hbo | exact (hCf.alloc _).after hbo); (try (have hbO : Below wA.heap.size wA wo := bt hbF hbo)); (try (have hbO : Below wA.heap.size wA wo := bt (ba hbF _) hbo)); (try (have kAo := kA.after hbo)); (try (have kB := (Blk.new wf #[.bool false, .string { data := #[] }] 39).after hbo))) | (go_at_call 31; refine (HDY.out _).mono ?_; rintro e wd ⟨rfl, hbd⟩; have hCd : CA wd cl := (by first | exact hCo.after hbd | exact (hCo.alloc _).after hbd); (try (have hbD : Below wA.heap.size wA wd := bt hbO hbd)); (try (have hbD : Below wA.heap.size wA wd := bt (ba hbO _) hbd)); (try (have kD := kAo.after hbd; have kd0 := kD.cell 0; have kd1 := kD.cell 1; have kd2 := kD.free 0; have kd3 := kD.free 1; have kdl := kD.lt)); (try (have kE := kB.after hbd; have ke0 := kE.cell 0; have ke1 := kE.cell 1; have ke2 := kE.free 0; have ke3 := kE.free 1; have kel := kE.lt)); (try (have kF := (Blk.new wo #[.bool false, .string { data := #[] }] 39).after hbd; have kf0 := kF.cell 0; have kf1 := kF.cell 1; have kf2 := kF.free 0; have kf3 := kF.free 1; have kfl := kF.lt))))
       all_goals
        go_wp2_with fail
        go_meet
        first
         | exact ⟨_, rfl, rfl, Blk.new _ _ _, hbD.size, ba hbD _⟩
         | exact ⟨_, rfl, rfl, (kD.set 0 _).set 1 _, Nat.le_refl _, (hbD.setCell (by simp) _).setCell (by simp) _⟩
         | exact ⟨_, rfl, rfl, (kE.set 0 _).set 1 _, hbF.size, (hbD.setCell (by have := hbF.size; simp; omega) _).setCell (by have := hbF.size; simp; omega) _⟩
         | exact ⟨_, rfl, rfl, (kF.set 0 _).set 1 _, hbO.size, (hbD.setCell (by have := hbO.size; simp; omega) _).setCell (by have := hbO.size; simp; omega) _⟩
      case rest =>
       obtain ⟨g20, rfl, rfl, h20, hg20, hbz⟩ := hcut
       obtain ⟨wy, hwy⟩ : ∃ wy, wy = wc := ⟨_, rfl⟩
       subst hwy
       clear hC hneA
       have hO2 := own_after hO1 hbz
       have hbr2 := bt hbr1 hbz
       have h20l := h20.lt
       rw [hLE.out] at hO2
       clear hbz hO1
       have hszy := hbr2.size
       generalize (N.difs Xa Xb).take k = LI at hO2 HST hLE
       have h20c0 := h20.cell 0
       have h20f0 := h20.free 0
       have h20c1 := h20.cell 1
       have h20f1 := h20.free 1
       go_wp2_with (at_builtin; refine wpList_append_lies _ rfl (.tmp 102) (.tmp 104) _ rfl wF.heap.size 39 i1 _ 2 24 Tryz.underlying31 HI1.out HA1.out HB1.out HC1.out rfl (by omega) u17 k (ics (LI.map zI)) rfl (own_after hO2 (b1 _ (.cells #[.bool (sg dz), .string (E dz.natAbs)] 39))) ⟨wy.heap.size, 0, none⟩ 1 1 [.bool (sg dz), .string (E dz.natAbs)] rfl rfl (Blk.new wy #[.bool (sg dz), .string (E dz.natAbs)] 39).cells (by simp [Value.oneCell']) (by omega) (by simp only [maxLen]; omega) (by omega) (by rw [World.size_alloc]; omega) (wy.heap.size + 1) (by simp) ?_; intro ga ca' wa hown hgrow hat hlt2)
       have hOA : ZOwn wa wF.heap.size (.slice (some ⟨ga, 0, none⟩) (k + 1) ca') (LI ++ [dz]) := by rw [ZOwn, List.length_append, hLE.out, ← ics_app]; exact hown
       rw [HDZ.out, ← HST.out] at hOA
       have hbA := (ba hbr2 (.cells #[.bool (sg dz), .string (E dz.natAbs)] 39)).grown hgrow (by rw [World.size_alloc]; omega) (fun x hx => (own_lt hO2 hx).2)
       clear hown hgrow hat hlt2 hO2 hbr2
       go_wp2
       go_roundw
       case rel => exact ⟨k + 1, by omega, by go_num, hOA, hbA⟩
       case measure => simp [intOf]; omega
     ·have HKD : Hid (∀ w, Calls Tryz.prog 33 #[.agg #[.string (E vb)]] w fun e w' => e = .returned (.int .i64 1) ∧ Below w.heap.size w w') := fun w => ekindV_c vb 1 w (if_neg hv0)
      have HDY : Hid (∀ w, Calls Tryz.prog 32 #[.string (E N.ord), .agg #[.bool (sg (zx)), .string (E (zx).natAbs)], .agg #[.bool (sg (zy)), .string (E (zy).natAbs)]] w fun e w' => e = .returned (.tuple #[.agg #[.bool (sg (dz)), .string (E (dz).natAbs)], .int .i64 0]) ∧ Below w.heap.size w w') := fun w => by
       have h := idif_c (E N.ord) vb zx zy w hv0 HZX.out HZY.out
       rw [show difI 0 vb zx zy = dz by rw [HDZ.out, difI, difI, if_neg hv0, if_neg hv0]] at h
       exact h
      clear hv0
      obtain ⟨cl, hcl⟩ : ∃ l : List (Addr × Value), l = [(⟨g19, 0, none⟩, .string (E vb)), (⟨g16, 0, none⟩, .func (.func 31) #[] #[]), (⟨g16, 1, none⟩, .func (.func 32) #[] #[]), (⟨w.heap.size + 1, 0, none⟩, .slice s1 m1 d1), (⟨w.heap.size + 1, 1, none⟩, .slice (some ⟨b0, o0, none⟩) m2 d2), (⟨w.heap.size + 1, 2, none⟩, .slice s3 m3 d3), (⟨w.heap.size + 1 + 1, 2, none⟩, .slice (some ⟨bx, ox, none⟩) ma qa), (⟨w.heap.size + 1 + 1 + 1, 2, none⟩, .slice (some ⟨by', oy, none⟩) mb qb), (⟨bx, ox + k * 2, none⟩, .bool (sg zx)), (⟨bx, ox + k * 2 + 1, none⟩, .string (E zx.natAbs)), (⟨by', oy + k * 2, none⟩, .bool (sg zy)), (⟨by', oy + k * 2 + 1, none⟩, .string (E zy.natAbs))] := ⟨_, rfl⟩
      have HCL := Lib.hid hcl
      clear hcl
      have hC : CA wA cl := by
       rw [HCL.out]
       exact CA.cons h19.lt (h19.cell 0) (CA.cons hFn1.lt (hFn1.cell 0) (CA.cons hFn1.lt (hFn1.cell 1) (CA.cons hP1.lt (hP1.cell 0) (CA.cons hP1.lt (hP1.cell 1) (CA.cons hP1.lt (hP1.cell 2) (CA.cons hA1.lt (hA1.cell 2) (CA.cons hB1.lt (hB1.cell 2) (CA.cons hbx x1 (CA.cons hbx x2 (CA.cons hby y1 (CA.cons hby y2 (CA.nil _))))))))))))
      have hneA := fun x hx => Nat.ne_of_lt (hC x hx).1
      clear h19 hFn1 hP1 hA1 hB1 x1 x2 y1 y2 hbx hby
      go_upto_region 18 with fail
      go_cut [20, 21] (fun s20 s21 wx => ZBox wA dz s20 s21 wx)
      case first =>
       go_region_held3 (fun w' => w'.cell? ⟨g19, 0, none⟩ = some (.string (E vb)) ∧ w'.cell? ⟨g16, 0, none⟩ = some (.func (.func 31) #[] #[]) ∧ w'.cell? ⟨g16, 1, none⟩ = some (.func (.func 32) #[] #[]) ∧ w'.cell? ⟨w.heap.size + 1, 0, none⟩ = some (.slice s1 m1 d1) ∧ w'.cell? ⟨w.heap.size + 1, 1, none⟩ = some (.slice (some ⟨b0, o0, none⟩) m2 d2) ∧ w'.cell? ⟨w.heap.size + 1, 2, none⟩ = some (.slice s3 m3 d3) ∧ w'.cell? ⟨w.heap.size + 1 + 1, 2, none⟩ = some (.slice (some ⟨bx, ox, none⟩) ma qa) ∧ w'.cell? ⟨w.heap.size + 1 + 1 + 1, 2, none⟩ = some (.slice (some ⟨by', oy, none⟩) mb qb) ∧ w'.cell? ⟨bx, ox + k * 2, none⟩ = some (.bool (sg zx)) ∧ w'.cell? ⟨bx, ox + k * 2 + 1, none⟩ = some (.string (E zx.natAbs)) ∧ w'.cell? ⟨by', oy + k * 2, none⟩ = some (.bool (sg zy)) ∧ w'.cell? ⟨by', oy + k * 2 + 1, none⟩ = some (.string (E zy.natAbs))) ((refine CA.k12 ?_; rw [← HCL.out]; repeat (first | (with_reducible exact hCd) | (with_reducible exact hCo) | (with_reducible exact hCf) | (with_reducible exact hC) | (with_reducible refine CA.drew ?_) | (with_reducible refine CA.alloc ?_ _) | (refine CA.set ?_ _ _ _ hneA) | (refine CA.set ?_ _ _ _ (fun x hx => Nat.ne_of_lt (hCf x hx).1)) | (refine CA.set ?_ _ _ _ (fun x hx => Nat.ne_of_lt (hCo x hx).1)))))
        (first | (go_at_call 33; refine (HKD.out _).mono ?_; rintro e wf ⟨rfl, hbf⟩; have hCf : CA wf cl := (by first | exact hC.drew.after hbf | exact (hC.alloc _).drew.after hbf | exact (hC.drew.alloc _).after hbf); (try (have hbF : Below wA.heap.size wA wf := (Below.drew (Below.refl _ _)).trans hbf)); (try (have hbF : Below wA.heap.size wA wf := bt ((b1 wA _).drew) hbf)); (try (have kA := (Blk.new wA #[.bool false, .string { data := #[] }] 39).drew.after hbf))) | (go_at_call 34; refine (HORD.out _ (by first | exact hbF | exact ba hbF _)).mono ?_; rintro e wo ⟨rfl, hbo⟩; have hCo : CA wo cl := (by first | exact hCf.after hbo | exact (hCf.alloc _).after hbo); (try (have hbO : Below wA.heap.size wA wo := bt hbF hbo)); (try (have hbO : Below wA.heap.size wA wo := bt (ba hbF _) hbo)); (try (have kAo := kA.after hbo)); (try (have kB := (Blk.new wf #[.bool false, .string { data := #[] }] 39).after hbo))) | (go_at_call 32; refine (HDY.out _).mono ?_; rintro e wd ⟨rfl, hbd⟩; have hCd : CA wd cl := (by first | exact hCo.after hbd | exact (hCo.alloc _).after hbd); (try (have hbD : Below wA.heap.size wA wd := bt hbO hbd)); (try (have hbD : Below wA.heap.size wA wd := bt (ba hbO _) hbd)); (try (have kD := kAo.after hbd; have kd0 := kD.cell 0; have kd1 := kD.cell 1; have kd2 := kD.free 0; have kd3 := kD.free 1; have kdl := kD.lt)); (try (have kE := kB.after hbd; have ke0 := kE.cell 0; have ke1 := kE.cell 1; have ke2 := kE.free 0; have ke3 := kE.free 1; have kel := kE.lt)); (try (have kF := (Blk.new wo #[.bool false, .string { data := #[] }] 39).after hbd; have kf0 := kF.cell 0; have kf1 := kF.cell 1; have kf2 := kF.free 0; have kf3 := kF.free 1; have kfl := kF.lt))))
       all_goals
        go_wp2_with fail
        go_meet
        first
         | exact ⟨_, rfl, rfl, Blk.new _ _ _, hbD.size, ba hbD _⟩
         | exact ⟨_, rfl, rfl, (kD.set 0 _).set 1 _, Nat.le_refl _, (hbD.setCell (by simp) _).setCell (by simp) _⟩
         | exact ⟨_, rfl, rfl, (kE.set 0 _).set 1 _, hbF.size, (hbD.setCell (by have := hbF.size; simp; omega) _).setCell (by have := hbF.size; simp; omega) _⟩
         | exact ⟨_, rfl, rfl, (kF.set 0 _).set 1 _, hbO.size, (hbD.setCell (by have := hbO.size; simp; omega) _).setCell (by have := hbO.size; simp; omega) _⟩
      case rest =>
       obtain ⟨g20, rfl, rfl, h20, hg20, hbz⟩ := hcut
       obtain ⟨wy, hwy⟩ : ∃ wy, wy = wc := ⟨_, rfl⟩
       subst hwy
       clear hC hneA
       have hO2 := own_after hO1 hbz
       have hbr2 := bt hbr1 hbz
       have h20l := h20.lt
       rw [hLE.out] at hO2
       clear hbz hO1
       have hszy := hbr2.size
       generalize (N.difs Xa Xb).take k = LI at hO2 HST hLE
       have h20c0 := h20.cell 0
       have h20f0 := h20.free 0
       have h20c1 := h20.cell 1
       have h20f1 := h20.free 1
       go_wp2_with (at_builtin; refine wpList_append_lies _ rfl (.tmp 102) (.tmp 104) _ rfl wF.heap.size 39 i1 _ 2 24 Tryz.underlying31 HI1.out HA1.out HB1.out HC1.out rfl (by omega) u17 k (ics (LI.map zI)) rfl (own_after hO2 (b1 _ (.cells #[.bool (sg dz), .string (E dz.natAbs)] 39))) ⟨wy.heap.size, 0, none⟩ 1 1 [.bool (sg dz), .string (E dz.natAbs)] rfl rfl (Blk.new wy #[.bool (sg dz), .string (E dz.natAbs)] 39).cells (by simp [Value.oneCell']) (by omega) (by simp only [maxLen]; omega) (by omega) (by rw [World.size_alloc]; omega) (wy.heap.size + 1) (by simp) ?_; intro ga ca' wa hown hgrow hat hlt2)
       have hOA : ZOwn wa wF.heap.size (.slice (some ⟨ga, 0, none⟩) (k + 1) ca') (LI ++ [dz]) := by rw [ZOwn, List.length_append, hLE.out, ← ics_app]; exact hown
       rw [HDZ.out, ← HST.out] at hOA
       have hbA := (ba hbr2 (.cells #[.bool (sg dz), .string (E dz.natAbs)] 39)).grown hgrow (by rw [World.size_alloc]; omega) (fun x hx => (own_lt hO2 hx).2)
       clear hown hgrow hat hlt2 hO2 hbr2
       go_wp2
       go_roundw
       case rel => exact ⟨k + 1, by omega, by go_num, hOA, hbA⟩
       case measure => simp [intOf]; omega
    ·have HTK : Hid ((N.difs Xa Xb).take k = N.difs Xa Xb) := List.take_of_length_le (by rw [NSta.difs, List.length_map, List.length_range, ← HN2.out]; omega)
     rw [HTK.out] at hO
     have hs1 := hBW.size
     have hDlF := hD.lt
     replace hD := hD.after hbr
     have hDl := hD.lt
     have hneD : u17.ownBlock ≠ some (w.heap.size + 1 + 1 + 1 + 1) := fun e => by have := (own_lt hO e).2; omega
     have hO9 := own_set (i := 1) (u := .string (E cd)) (own_set (i := 0) (u := .bool false) hO hneD) hneD
     have hDc0 := hD.cell 0
     have hDf0 := hD.free 0
     have hDc1 := hD.cell 1
     have hDf1 := hD.free 1
     go_wp2
     refine bodyPost_ret (v := .tuple #[.agg #[.bool false, .string (E cd)], u17, .int .i64 0]) ?_ rfl ⟨u17, by rw [HCD.out], ?_, ?_⟩
     ·simp [results, Tryz.results10, go_sem, hDc0, hDc1, hDl]
     ·exact own_mono hO9 hs1
     ·exact (hBW1.setCell (by first | (simp; omega) | simp) _).setCell (by first | (simp; omega) | simp) _

set_option maxHeartbeats 8000000 in
theorem diff_ok2 (N : NSta) (C K ca cb : Nat) (Fa Fb : List Nat) (Xa Xb : List Int) (s1 s2 s3 xa ya xb yb : Option Addr) (m1 m2 m3 d1 d2 d3 na pa ma qa nb pb mb qb : Nat) (w : World)
  (hm : NOk N) (hS : NAt w (.slice s1 m1 d1) (.slice s2 m2 d2) (.slice s3 m3 d3) N) (hfa : SsAt w (.slice xa na pa) (Fa.map E)) (hfb : SsAt w (.slice xb nb pb) (Fb.map E)) (hla : Fa.length ≤ 1000) (hlb : Fb.length ≤ 1000) (hca : ca < 256 ^ 128) (hcb : cb < 256 ^ 128)
  (hva : ∀ w', Below w.heap.size w w' → Calls Tryz.prog 18 #[.agg #[.string (E C), .string (E K)], .agg #[.slice s1 m1 d1, .slice s2 m2 d2, .slice s3 m3 d3], .agg #[.slice xa na pa, .string (E ca), .slice ya ma qa]] w' fun e w'' => e = .returned (.int .i64 0) ∧ Below w'.heap.size w' w'')
  (hvb : ∀ w', Below w.heap.size w w' → Calls Tryz.prog 18 #[.agg #[.string (E C), .string (E K)], .agg #[.slice s1 m1 d1, .slice s2 m2 d2, .slice s3 m3 d3], .agg #[.slice xb nb pb, .string (E cb), .slice yb mb qb]] w' fun e w'' => e = .returned (.int .i64 0) ∧ Below w'.heap.size w' w'')
  (hxa : ZsAt w (.slice ya ma qa) Xa) (hxb : ZsAt w (.slice yb mb qb) Xb) (hlxa : Xa.length = N.vars.length) (hlxb : Xb.length = N.vars.length) (hza : ∀ z ∈ Xa, z.natAbs < 256 ^ 64) (hzb : ∀ z ∈ Xb, z.natAbs < 256 ^ 64)
  (hmo : ModOk N Xb Xa) (hf : Fa = Fb) (hcc : ca < cb) :
  Calls Tryz.prog 10 #[.agg #[.string (E C), .string (E K)], .agg #[.slice s1 m1 d1, .slice s2 m2 d2, .slice s3 m3 d3], .agg #[.slice xa na pa, .string (E ca), .slice ya ma qa], .agg #[.slice xb nb pb, .string (E cb), .slice yb mb qb]] w (DPost w (cb - ca) (N.difs Xb Xa)) := by
 have HVA := Lib.hid hva
 have HVB := Lib.hid hvb
 have HFA := Lib.hid hfa
 have HFB := Lib.hid hfb
 have HLA := Lib.hid hla
 have HLB := Lib.hid hlb
 have HCA := Lib.hid hca
 have HCB := Lib.hid hcb
 have HS0 := Lib.hid hS
 have HM := Lib.hid hm
 obtain ⟨i1, hi1, hz10, hz11, hz12⟩ := info_parts info_Int
 have HI1 := Lib.hid hi1
 have HA1 := Lib.hid hz10
 have HB1 := Lib.hid hz11
 have HC1 := Lib.hid hz12
 clear hi1 hz10 hz11 hz12
 have HXA := Lib.hid hxa
 have HXB := Lib.hid hxb
 have HLXA := Lib.hid hlxa
 have HLXB := Lib.hid hlxb
 have HMA : Hid (ma = N.vars.length) := by have h := RAt.len hxa; rw [List.length_map] at h; rw [Hid, h, hlxa]
 have HMB : Hid (mb = N.vars.length) := by have h := RAt.len hxb; rw [List.length_map] at h; rw [Hid, h, hlxb]
 have HN2 : Hid (m2 = N.vars.length) := by have h := RAt.len hS.v; rw [Hid, h]; simp [NSta.s]
 rw [← HN2.out] at HMA HMB
 have l2 : m2 ≤ 6 := by rw [HN2.out]; exact hm.nv
 have HZA := Lib.hid hza
 have HZB := Lib.hid hzb
 have HMODAB := Lib.hid hmo
 have HMODBA := Lib.hid hmo
 have HEQ := Lib.hid (decide_eq_true hf)
 have HGE : Hid (ca ≤ cb) := Nat.le_of_lt hcc
 have hcn := cmp_neg ca cb hcc
 have hx1 := neE (show ca ≠ cb by omega)
 have hx2 := eqF (show ca ≠ cb by omega)
 have hR := ((((Blk.new w #[.string (E C), .string (E K)] 24).alloc (.cells #[.slice s1 m1 d1, .slice s2 m2 d2, .slice s3 m3 d3] 29)).alloc (.cells #[.slice xa na pa, .string (E ca), .slice ya ma qa] 33)).alloc (.cells #[.slice xb nb pb, .string (E cb), .slice yb mb qb] 33)).alloc (.cells #[.bool false, .string { data := #[] }] 39)
 have hP := (((blkN (w := w.alloc (.cells #[.string (E C), .string (E K)] 24)) (cs := #[.slice s1 m1 d1, .slice s2 m2 d2, .slice s3 m3 d3]) (T := 29) (g := w.heap.size + 1) (by simp)).alloc (.cells #[.slice xa na pa, .string (E ca), .slice ya ma qa] 33)).alloc (.cells #[.slice xb nb pb, .string (E cb), .slice yb mb qb] 33)).alloc (.cells #[.bool false, .string { data := #[] }] 39)
 have hA := ((blkN (w := (w.alloc (.cells #[.string (E C), .string (E K)] 24)).alloc (.cells #[.slice s1 m1 d1, .slice s2 m2 d2, .slice s3 m3 d3] 29)) (cs := #[.slice xa na pa, .string (E ca), .slice ya ma qa]) (T := 33) (g := w.heap.size + 1 + 1) (by simp)).alloc (.cells #[.slice xb nb pb, .string (E cb), .slice yb mb qb] 33)).alloc (.cells #[.bool false, .string { data := #[] }] 39)
 have hB := (blkN (w := ((w.alloc (.cells #[.string (E C), .string (E K)] 24)).alloc (.cells #[.slice s1 m1 d1, .slice s2 m2 d2, .slice s3 m3 d3] 29)).alloc (.cells #[.slice xa na pa, .string (E ca), .slice ya ma qa] 33)) (cs := #[.slice xb nb pb, .string (E cb), .slice yb mb qb]) (T := 33) (g := w.heap.size + 1 + 1 + 1) (by simp)).alloc (.cells #[.bool false, .string { data := #[] }] 39)
 have hD := blkN (w := (((w.alloc (.cells #[.string (E C), .string (E K)] 24)).alloc (.cells #[.slice s1 m1 d1, .slice s2 m2 d2, .slice s3 m3 d3] 29)).alloc (.cells #[.slice xa na pa, .string (E ca), .slice ya ma qa] 33)).alloc (.cells #[.slice xb nb pb, .string (E cb), .slice yb mb qb] 33)) (cs := #[.bool false, .string { data := #[] }]) (T := 39) (g := w.heap.size + 1 + 1 + 1 + 1) (by simp)
 have hBW := ba (ba (b3 w (.cells #[.string (E C), .string (E K)] 24) (.cells #[.slice s1 m1 d1, .slice s2 m2 d2, .slice s3 m3 d3] 29) (.cells #[.slice xa na pa, .string (E ca), .slice ya ma qa] 33)) (.cells #[.slice xb nb pb, .string (E cb), .slice yb mb qb] 33)) (.cells #[.bool false, .string { data := #[] }] 39)
 have HDLT : Hid (w.heap.size + 1 + 1 + 1 + 1 < w.heap.size + 1 + 1 + 1 + 1 + 1) := Nat.lt_succ_self _
 clear hva hvb hfa hfb hla hlb hca hcb hS hm hxa hxb hlxa hlxb hza hzb hmo hf hcc
 have hRc0 := hR.cell 0
 have hRf0 := hR.free 0
 have hRc1 := hR.cell 1
 have hRf1 := hR.free 1
 have hPc0 := hP.cell 0
 have hPf0 := hP.free 0
 have hPc1 := hP.cell 1
 have hPf1 := hP.free 1
 have hPc2 := hP.cell 2
 have hPf2 := hP.free 2
 have hAc0 := hA.cell 0
 have hAf0 := hA.free 0
 have hAc1 := hA.cell 1
 have hAf1 := hA.free 1
 have hAc2 := hA.cell 2
 have hAf2 := hA.free 2
 have hBc0 := hB.cell 0
 have hBf0 := hB.free 0
 have hBc1 := hB.cell 1
 have hBf1 := hB.free 1
 have hBc2 := hB.cell 2
 have hBf2 := hB.free 2
 go_enter Tryz.func10, Tryz.ntmps10
 go_wp2
 clear hRc0 hRf0 hRc1 hRf1
 clear hPc0 hPf0 hPc1 hPf1 hPc2 hPf2
 clear hAc0 hAf0 hAc1 hAf1 hAc2 hAf2
 clear hBc0 hBf0 hBc1 hBf1 hBc2 hBf2
 have hL := Blk.new (((((w.alloc (.cells #[.string (E C), .string (E K)] 24)).alloc (.cells #[.slice s1 m1 d1, .slice s2 m2 d2, .slice s3 m3 d3] 29)).alloc (.cells #[.slice xa na pa, .string (E ca), .slice ya ma qa] 33)).alloc (.cells #[.slice xb nb pb, .string (E cb), .slice yb mb qb] 33)).alloc (.cells #[.bool false, .string { data := #[] }] 39)) #[.slice xa na pa, .string (E ca), .slice ya ma qa, .slice xb nb pb, .string (E cb), .slice yb mb qb] 33
 have hbL := b1 (((((w.alloc (.cells #[.string (E C), .string (E K)] 24)).alloc (.cells #[.slice s1 m1 d1, .slice s2 m2 d2, .slice s3 m3 d3] 29)).alloc (.cells #[.slice xa na pa, .string (E ca), .slice ya ma qa] 33)).alloc (.cells #[.slice xb nb pb, .string (E cb), .slice yb mb qb] 33)).alloc (.cells #[.bool false, .string { data := #[] }] 39)) (.cells #[.slice xa na pa, .string (E ca), .slice ya ma qa, .slice xb nb pb, .string (E cb), .slice yb mb qb] 33)
 replace hR := hR.after hbL
 replace hP := hP.after hbL
 replace hA := hA.after hbL
 replace hB := hB.after hbL
 replace hD := hD.after hbL
 replace hBW := bt hBW hbL
 clear hbL
 obtain ⟨gl, hgl⟩ : ∃ g, g = (((((w.alloc (.cells #[.string (E C), .string (E K)] 24)).alloc (.cells #[.slice s1 m1 d1, .slice s2 m2 d2, .slice s3 m3 d3] 29)).alloc (.cells #[.slice xa na pa, .string (E ca), .slice ya ma qa] 33)).alloc (.cells #[.slice xb nb pb, .string (E cb), .slice yb mb qb] 33)).alloc (.cells #[.bool false, .string { data := #[] }] 39)).heap.size := ⟨_, rfl⟩
 rw [← hgl] at hL
 have hgl2 : gl = w.heap.size + 1 + 1 + 1 + 1 + 1 := by rw [hgl]; simp
 generalize (((((w.alloc (.cells #[.string (E C), .string (E K)] 24)).alloc (.cells #[.slice s1 m1 d1, .slice s2 m2 d2, .slice s3 m3 d3] 29)).alloc (.cells #[.slice xa na pa, .string (E ca), .slice ya ma qa] 33)).alloc (.cells #[.slice xb nb pb, .string (E cb), .slice yb mb qb] 33)).alloc (.cells #[.bool false, .string { data := #[] }] 39)).alloc (.cells #[.slice xa na pa, .string (E ca), .slice ya ma qa, .slice xb nb pb, .string (E cb), .slice yb mb qb] 33) = w6 at hL hR hP hA hB hD hBW ⊢
 subst hgl2
 clear hgl
 replace hL : Blk w6 (w.heap.size + 1 + 1 + 1 + 1 + 1) 33 [.slice xa na pa, .string (E ca), .slice ya ma qa, .slice xb nb pb, .string (E cb), .slice yb mb qb] := hL
 replace hR : Blk w6 w.heap.size 24 [.string (E C), .string (E K)] := hR
 replace hP : Blk w6 (w.heap.size + 1) 29 [.slice s1 m1 d1, .slice s2 m2 d2, .slice s3 m3 d3] := hP
 replace hA : Blk w6 (w.heap.size + 1 + 1) 33 [.slice xa na pa, .string (E ca), .slice ya ma qa] := hA
 replace hB : Blk w6 (w.heap.size + 1 + 1 + 1) 33 [.slice xb nb pb, .string (E cb), .slice yb mb qb] := hB
 replace hD : Blk w6 (w.heap.size + 1 + 1 + 1 + 1) 39 [.bool false, .string { data := #[] }] := hD
 go_loopw [26] (fun i wr => (i = .int .i64 0 ∨ i = .int .i64 1 ∨ i = .int .i64 2) ∧ Below w6.heap.size w6 wr) (fun i _ => 2 - (intOf i).toNat)
 case atStart => exact ⟨.inl rfl, Below.refl _ _⟩
 case round =>
  obtain ⟨hi, hbr⟩ := hrel
  obtain ⟨wp, hwp⟩ : ∃ wp, wp = wr := ⟨_, rfl⟩
  subst hwp
  replace hR := hR.after hbr
  replace hP := hP.after hbr
  replace hA := hA.after hbr
  replace hB := hB.after hbr
  replace hD := hD.after hbr
  replace hL := hL.after hbr
  replace hBW := bt hBW hbr
  rcases hi with rfl | rfl | rfl
  ·have hV := Blk.new wp #[.slice xa na pa, .string (E ca), .slice ya ma qa] 33
   have hbv := b1 wp (.cells #[.slice xa na pa, .string (E ca), .slice ya ma qa] 33)
   have hRl := hR.lt
   have hPl := hP.lt
   have hLl := hL.lt
   have hDl0 := hD.lt
   have hRc0 := hR.cell 0
   have hRf0 := hR.free 0
   have hRc1 := hR.cell 1
   have hRf1 := hR.free 1
   have hPc0 := hP.cell 0
   have hPf0 := hP.free 0
   have hPc1 := hP.cell 1
   have hPf1 := hP.free 1
   have hPc2 := hP.cell 2
   have hPf2 := hP.free 2
   have hLc0 := hL.cell 0
   have hLf0 := hL.free 0
   have hLc1 := hL.cell 1
   have hLf1 := hL.free 1
   have hLc2 := hL.cell 2
   have hLf2 := hL.free 2
   have hLc3 := hL.cell 3
   have hLf3 := hL.free 3
   have hLc4 := hL.cell 4
   have hLf4 := hL.free 4
   have hLc5 := hL.cell 5
   have hLf5 := hL.free 5
   go_wp2_with fail
   refine (HVA.out _ (bt hBW hbv)).mono ?_
   rintro e w7 ⟨rfl, hb7⟩
   clear hRc0 hRf0 hRc1 hRf1
   clear hPc0 hPf0 hPc1 hPf1 hPc2 hPf2
   clear hLc0 hLf0 hLc1 hLf1 hLc2 hLf2 hLc3 hLf3 hLc4 hLf4 hLc5 hLf5
   have HB7 := bt hbv hb7
   have hD7 := hD.after HB7
   have hDl := hD7.lt
   have HBB := bt hBW HB7
   go_wp2
   go_roundw
   case rel => exact ⟨.inr (.inl rfl), bt hbr HB7⟩
   case measure => simp [intOf]
  ·have hV := Blk.new wp #[.slice xb nb pb, .string (E cb), .slice yb mb qb] 33
   have hbv := b1 wp (.cells #[.slice xb nb pb, .string (E cb), .slice yb mb qb] 33)
   have hRl := hR.lt
   have hPl := hP.lt
   have hLl := hL.lt
   have hDl0 := hD.lt
   have hRc0 := hR.cell 0
   have hRf0 := hR.free 0
   have hRc1 := hR.cell 1
   have hRf1 := hR.free 1
   have hPc0 := hP.cell 0
   have hPf0 := hP.free 0
   have hPc1 := hP.cell 1
   have hPf1 := hP.free 1
   have hPc2 := hP.cell 2
   have hPf2 := hP.free 2
   have hLc0 := hL.cell 0
   have hLf0 := hL.free 0
   have hLc1 := hL.cell 1
   have hLf1 := hL.free 1
   have hLc2 := hL.cell 2
   have hLf2 := hL.free 2
   have hLc3 := hL.cell 3
   have hLf3 := hL.free 3
   have hLc4 := hL.cell 4
   have hLf4 := hL.free 4
   have hLc5 := hL.cell 5
   have hLf5 := hL.free 5
   go_wp2_with fail
   refine (HVB.out _ (bt hBW hbv)).mono ?_
   rintro e w7 ⟨rfl, hb7⟩
   clear hRc0 hRf0 hRc1 hRf1
   clear hPc0 hPf0 hPc1 hPf1 hPc2 hPf2
   clear hLc0 hLf0 hLc1 hLf1 hLc2 hLf2 hLc3 hLf3 hLc4 hLf4 hLc5 hLf5
   have HB7 := bt hbv hb7
   have hD7 := hD.after HB7
   have hDl := hD7.lt
   have HBB := bt hBW HB7
   go_wp2
   go_roundw
   case rel => exact ⟨.inr (.inr rfl), bt hbr HB7⟩
   case measure => simp [intOf]
  ·clear hbr
   have hAl := hA.lt
   have hBl := hB.lt
   have hAc0 := hA.cell 0
   have hAf0 := hA.free 0
   have hAc1 := hA.cell 1
   have hAf1 := hA.free 1
   have hAc2 := hA.cell 2
   have hAf2 := hA.free 2
   have hBc0 := hB.cell 0
   have hBf0 := hB.free 0
   have hBc1 := hB.cell 1
   have hBf1 := hB.free 1
   have hBc2 := hB.cell 2
   have hBf2 := hB.free 2
   go_wp2_with fail
   refine (eqNat_cV Fa Fb _ _ true _ HLA.out HLB.out (SsAt.after HFA.out hBW) (SsAt.after HFB.out hBW) HEQ.out).mono ?_
   rintro e w8 ⟨rfl, hb8⟩
   clear hAc0 hAf0 hAc1 hAf1 hAc2 hAf2
   clear hBc0 hBf0 hBc1 hBf1 hBc2 hBf2
   replace hR := hR.after hb8
   replace hP := hP.after hb8
   replace hA := hA.after hb8
   replace hB := hB.after hb8
   replace hD := hD.after hb8
   replace hBW := bt hBW hb8
   clear hb8 hL hAl hBl
   have hAl := hA.lt
   have hBl := hB.lt
   have hDl := hD.lt
   have HLX : Hid (Xb.length = N.vars.length) := HLXB.out
   have HLY : Hid (Xa.length = N.vars.length) := HLXA.out
   have HLXM := HMB
   have HLYM := HMA
   have HZX0 := HZB
   have HZY0 := HZA
   have HMOD := HMODBA
   have nPA : w.heap.size + 1 ≠ w.heap.size + 1 + 1 := by omega
   have nPB : w.heap.size + 1 ≠ w.heap.size + 1 + 1 + 1 := by omega
   have nAB : w.heap.size + 1 + 1 ≠ w.heap.size + 1 + 1 + 1 := by omega
   have nBA : w.heap.size + 1 + 1 + 1 ≠ w.heap.size + 1 + 1 := by omega
   have nDA : w.heap.size + 1 + 1 + 1 + 1 ≠ w.heap.size + 1 + 1 := by omega
   have nDB : w.heap.size + 1 + 1 + 1 + 1 ≠ w.heap.size + 1 + 1 + 1 := by omega
   have lwA : w.heap.size ≤ w.heap.size + 1 + 1 := by omega
   have lwB : w.heap.size ≤ w.heap.size + 1 + 1 + 1 := by omega
   have hA9 : Blk ((((((w8.setCell ⟨w.heap.size + 1 + 1, 0, none⟩ (.slice xb nb pb)).setCell ⟨w.heap.size + 1 + 1, 1, none⟩ (.string (E cb))).setCell ⟨w.heap.size + 1 + 1, 2, none⟩ (.slice yb mb qb)).setCell ⟨w.heap.size + 1 + 1 + 1, 0, none⟩ (.slice xa na pa)).setCell ⟨w.heap.size + 1 + 1 + 1, 1, none⟩ (.string (E ca))).setCell ⟨w.heap.size + 1 + 1 + 1, 2, none⟩ (.slice ya ma qa)) (w.heap.size + 1 + 1) 33 [.slice xb nb pb, .string (E cb), .slice yb mb qb] := (((((hA.set 0 _).set 1 _).set 2 _).other ⟨w.heap.size + 1 + 1 + 1, 0, none⟩ _ nAB).other ⟨w.heap.size + 1 + 1 + 1, 1, none⟩ _ nAB).other ⟨w.heap.size + 1 + 1 + 1, 2, none⟩ _ nAB
   have hB9 : Blk ((((((w8.setCell ⟨w.heap.size + 1 + 1, 0, none⟩ (.slice xb nb pb)).setCell ⟨w.heap.size + 1 + 1, 1, none⟩ (.string (E cb))).setCell ⟨w.heap.size + 1 + 1, 2, none⟩ (.slice yb mb qb)).setCell ⟨w.heap.size + 1 + 1 + 1, 0, none⟩ (.slice xa na pa)).setCell ⟨w.heap.size + 1 + 1 + 1, 1, none⟩ (.string (E ca))).setCell ⟨w.heap.size + 1 + 1 + 1, 2, none⟩ (.slice ya ma qa)) (w.heap.size + 1 + 1 + 1) 33 [.slice xa na pa, .string (E ca), .slice ya ma qa] := (((((hB.other ⟨w.heap.size + 1 + 1, 0, none⟩ _ nBA).other ⟨w.heap.size + 1 + 1, 1, none⟩ _ nBA).other ⟨w.heap.size + 1 + 1, 2, none⟩ _ nBA).set 0 _).set 1 _).set 2 _
   have hP9 : Blk ((((((w8.setCell ⟨w.heap.size + 1 + 1, 0, none⟩ (.slice xb nb pb)).setCell ⟨w.heap.size + 1 + 1, 1, none⟩ (.string (E cb))).setCell ⟨w.heap.size + 1 + 1, 2, none⟩ (.slice yb mb qb)).setCell ⟨w.heap.size + 1 + 1 + 1, 0, none⟩ (.slice xa na pa)).setCell ⟨w.heap.size + 1 + 1 + 1, 1, none⟩ (.string (E ca))).setCell ⟨w.heap.size + 1 + 1 + 1, 2, none⟩ (.slice ya ma qa)) (w.heap.size + 1) 29 [.slice s1 m1 d1, .slice s2 m2 d2, .slice s3 m3 d3] := (((((hP.other ⟨w.heap.size + 1 + 1, 0, none⟩ _ nPA).other ⟨w.heap.size + 1 + 1, 1, none⟩ _ nPA).other ⟨w.heap.size + 1 + 1, 2, none⟩ _ nPA).other ⟨w.heap.size + 1 + 1 + 1, 0, none⟩ _ nPB).other ⟨w.heap.size + 1 + 1 + 1, 1, none⟩ _ nPB).other ⟨w.heap.size + 1 + 1 + 1, 2, none⟩ _ nPB
   have hD9 : Blk ((((((w8.setCell ⟨w.heap.size + 1 + 1, 0, none⟩ (.slice xb nb pb)).setCell ⟨w.heap.size + 1 + 1, 1, none⟩ (.string (E cb))).setCell ⟨w.heap.size + 1 + 1, 2, none⟩ (.slice yb mb qb)).setCell ⟨w.heap.size + 1 + 1 + 1, 0, none⟩ (.slice xa na pa)).setCell ⟨w.heap.size + 1 + 1 + 1, 1, none⟩ (.string (E ca))).setCell ⟨w.heap.size + 1 + 1 + 1, 2, none⟩ (.slice ya ma qa)) (w.heap.size + 1 + 1 + 1 + 1) 39 [.bool false, .string { data := #[] }] := (((((hD.other ⟨w.heap.size + 1 + 1, 0, none⟩ _ nDA).other ⟨w.heap.size + 1 + 1, 1, none⟩ _ nDA).other ⟨w.heap.size + 1 + 1, 2, none⟩ _ nDA).other ⟨w.heap.size + 1 + 1 + 1, 0, none⟩ _ nDB).other ⟨w.heap.size + 1 + 1 + 1, 1, none⟩ _ nDB).other ⟨w.heap.size + 1 + 1 + 1, 2, none⟩ _ nDB
   have hBWn : Below w.heap.size w ((((((w8.setCell ⟨w.heap.size + 1 + 1, 0, none⟩ (.slice xb nb pb)).setCell ⟨w.heap.size + 1 + 1, 1, none⟩ (.string (E cb))).setCell ⟨w.heap.size + 1 + 1, 2, none⟩ (.slice yb mb qb)).setCell ⟨w.heap.size + 1 + 1 + 1, 0, none⟩ (.slice xa na pa)).setCell ⟨w.heap.size + 1 + 1 + 1, 1, none⟩ (.string (E ca))).setCell ⟨w.heap.size + 1 + 1 + 1, 2, none⟩ (.slice ya ma qa)) := (((((hBW.setCell (p := ⟨w.heap.size + 1 + 1, 0, none⟩) lwA _).setCell (p := ⟨w.heap.size + 1 + 1, 1, none⟩) lwA _).setCell (p := ⟨w.heap.size + 1 + 1, 2, none⟩) lwA _).setCell (p := ⟨w.heap.size + 1 + 1 + 1, 0, none⟩) lwB _).setCell (p := ⟨w.heap.size + 1 + 1 + 1, 1, none⟩) lwB _).setCell (p := ⟨w.heap.size + 1 + 1 + 1, 2, none⟩) lwB _
   clear nPA nPB nAB nBA nDA nDB lwA lwB
   have hAc0 := hA.cell 0
   have hAf0 := hA.free 0
   have hAc1 := hA.cell 1
   have hAf1 := hA.free 1
   have hAc2 := hA.cell 2
   have hAf2 := hA.free 2
   have hBc0 := hB.cell 0
   have hBf0 := hB.free 0
   have hBc1 := hB.cell 1
   have hBf1 := hB.free 1
   have hBc2 := hB.cell 2
   have hBf2 := hB.free 2
   go_wp2_with fail
   refine (cmp_c ca cb _ HCA.out HCB.out).mono ?_
   rintro e w' ⟨rfl, rfl⟩
   go_wp2_with fail
   clear hAc0 hAf0 hAc1 hAf1 hAc2 hAf2
   clear hBc0 hBf0 hBc1 hBf1 hBc2 hBf2
   clear hA hB hP hD hBW hR hAl hBl hDl
   generalize ((((((w8.setCell ⟨w.heap.size + 1 + 1, 0, none⟩ (.slice xb nb pb)).setCell ⟨w.heap.size + 1 + 1, 1, none⟩ (.string (E cb))).setCell ⟨w.heap.size + 1 + 1, 2, none⟩ (.slice yb mb qb)).setCell ⟨w.heap.size + 1 + 1 + 1, 0, none⟩ (.slice xa na pa)).setCell ⟨w.heap.size + 1 + 1 + 1, 1, none⟩ (.string (E ca))).setCell ⟨w.heap.size + 1 + 1 + 1, 2, none⟩ (.slice ya ma qa)) = w9 at hA9 hB9 hP9 hD9 hBWn ⊢
   have hA := hA9
   have hB := hB9
   have hP := hP9
   have hD := hD9
   have hBW := hBWn
   clear hA9 hB9 hP9 hD9 hBWn
   have hAl := hA.lt
   have hBl := hB.lt
   have hDl := hD.lt
   refine (subV_c cb ca (cb - ca) _ HCB.out HGE.out rfl).mono ?_
   rintro e w10 ⟨rfl, hb10⟩
   replace hP := hP.after hb10
   replace hA := hA.after hb10
   replace hB := hB.after hb10
   replace hD := hD.after hb10
   replace hBW := bt hBW hb10
   clear hb10
   obtain ⟨cd, hcd⟩ : ∃ c, c = cb - ca := ⟨_, rfl⟩
   rw [← hcd]
   have HCD := Lib.hid hcd
   clear hcd
   clear hAl hBl hDl
   have hPl := hP.lt
   have hPc0 := hP.cell 0
   have hPf0 := hP.free 0
   have hPc1 := hP.cell 1
   have hPf1 := hP.free 1
   have hPc2 := hP.cell 2
   have hPf2 := hP.free 2
   go_wp2
   clear hPc0 hPf0 hPc1 hPf1 hPc2 hPf2
   clear hPl
   have hFn := Blk.new w10 #[.func (.func 31) #[] #[], .func (.func 32) #[] #[]] 77
   have hbF0 := b1 w10 (.cells #[.func (.func 31) #[] #[], .func (.func 32) #[] #[]] 77)
   replace hP := hP.after hbF0
   replace hA := hA.after hbF0
   replace hB := hB.after hbF0
   replace hD := hD.after hbF0
   replace hBW := bt hBW hbF0
   obtain ⟨g16, hg16⟩ : ∃ g, w10.heap.size = g := ⟨_, rfl⟩
   rw [hg16] at hFn ⊢
   clear hg16 hbF0
   generalize w10.alloc (.cells #[.func (.func 31) #[] #[], .func (.func 32) #[] #[]] 77) = wF at hFn hP hA hB hD hBW ⊢
   replace hFn : Blk wF g16 77 [.func (.func 31) #[] #[], .func (.func 32) #[] #[]] := hFn
   go_loopw [17, 73] (fun v17 i wr => ∃ k : Nat, k ≤ m2 ∧ i = .int .i64 k ∧ ZOwn wr wF.heap.size v17 ((N.difs Xb Xa).take k) ∧ Below wF.heap.size wF wr) (fun _ i _ => m2 - (intOf i).toNat)
   case atStart => exact ⟨0, by omega, rfl, World.ownsRow_nil _ _ _ _, Below.refl _ _⟩
   case round =>
    obtain ⟨k, hk, rfl, hO, hbr⟩ := hrel
    obtain ⟨wq, hwq⟩ : ∃ wq, wq = wr := ⟨_, rfl⟩
    subst hwq
    have hBW1 := bt hBW hbr
    by_cases hlt : k < m2
    ·have hkl : k < N.vars.length := by rw [← HN2.out]; exact hlt
     have hkx : k < Xb.length := by rw [HLX.out]; exact hkl
     have hky : k < Xa.length := by rw [HLY.out]; exact hkl
     have HST := Lib.hid (difs_step N Xb Xa k hkl hkx hky)
     have HMD := Lib.hid (HMOD.out k hkl hkx hky)
     have HZX := Lib.hid (HZX0.out _ (List.getElem_mem hkx))
     have HZY := Lib.hid (HZY0.out _ (List.getElem_mem hky))
     have hS1 := HS0.out.after hBW1
     obtain ⟨b0, o0, rfl, hbl, vx1⟩ := NAt.vat hS1 hkl
     obtain ⟨bx, ox, rfl, hbx, x1⟩ := (HXB.out.after hBW1).at_ hkx
     obtain ⟨by', oy, rfl, hby, y1⟩ := (HXA.out.after hBW1).at_ hky
     obtain ⟨x1, x2⟩ := x1
     obtain ⟨y1, y2⟩ := y1
     generalize (N.vars[k]'hkl) = vb at vx1 HST HMD
     generalize (Xb[k]'hkx) = zx at x1 x2 HST HMD HZX
     generalize (Xa[k]'hky) = zy at y1 y2 HST HMD HZY
     obtain ⟨dz, hdz⟩ : ∃ z, z = difI N.ord vb zx zy := ⟨_, rfl⟩
     have HDZ := Lib.hid hdz
     clear hdz
     have h0k : (0 : Int) ≤ (k : Int) := by omega
     have h1k : (k : Int) < (m2 : Int) := by omega
     have h1x : (k : Int) < (mb : Int) := by rw [HLXM.out]; omega
     have h1y : (k : Int) < (ma : Int) := by rw [HLYM.out]; omega
     have h19 := Blk.new wq #[.string (E vb)] 67
     have hb19 := b1 wq (.cells #[.string (E vb)] 67)
     have hO1 := own_after hO hb19
     have hFn1 := (hFn.after hbr).after hb19
     have hP1 := (hP.after hbr).after hb19
     have hA1 := (hA.after hbr).after hb19
     have hB1 := (hB.after hbr).after hb19
     have hbr1 := bt hbr hb19
     have hBW2 := bt hBW1 hb19
     replace x1 := (hb19.cell (p := ⟨bx, ox + k * 2, none⟩) hbx).trans x1
     replace x2 := (hb19.cell (p := ⟨bx, ox + k * 2 + 1, none⟩) hbx).trans x2
     replace y1 := (hb19.cell (p := ⟨by', oy + k * 2, none⟩) hby).trans y1
     replace y2 := (hb19.cell (p := ⟨by', oy + k * 2 + 1, none⟩) hby).trans y2
     replace hbx := Nat.lt_of_lt_of_le hbx hb19.size
     replace hby := Nat.lt_of_lt_of_le hby hb19.size
     have hLE : Hid (((N.difs Xb Xa).take k).length = k) := by rw [Hid, List.length_take, NSta.difs, List.length_map, List.length_range]; omega
     clear hO hS1
     go_wp2_with fail
     clear vx1 hbl
     generalize wq.alloc (.cells #[.string (E vb)] 67) = wA at h19 hO1 hFn1 hP1 hA1 hB1 hbr1 hBW2 x1 x2 y1 y2 hbx hby
     obtain ⟨g19, hg19⟩ : ∃ g, wq.heap.size = g := ⟨_, rfl⟩
     rw [hg19] at h19 ⊢
     clear hg19 hb19
     replace h19 : Blk wA g19 67 [.string (E vb)] := h19
     have HORD : Hid (∀ w', Below wA.heap.size wA w' → Calls Tryz.prog 34 #[.agg #[.slice s1 m1 d1, .slice (some ⟨b0, o0, none⟩) m2 d2, .slice s3 m3 d3]] w' fun e w'' => e = .returned (.string (E N.ord)) ∧ Below w'.heap.size w' w'') := fun w' hb' => eorder_c N _ _ _ w' HM.out (HS0.out.after (bt hBW2 hb'))
     by_cases hv0 : vb = 0
     ·have HKD : Hid (∀ w, Calls Tryz.prog 33 #[.agg #[.string (E vb)]] w fun e w' => e = .returned (.int .i64 0) ∧ Below w.heap.size w w') := fun w => ekindV_c vb 0 w (if_pos hv0)
      have HDY : Hid (∀ w, Calls Tryz.prog 31 #[.string (E N.ord), .agg #[.bool (sg (zx)), .string (E (zx).natAbs)], .agg #[.bool (sg (zy)), .string (E (zy).natAbs)]] w fun e w' => e = .returned (.tuple #[.agg #[.bool (sg (dz)), .string (E (dz).natAbs)], .int .i64 0]) ∧ Below w.heap.size w w') := fun w => by
       rw [HDZ.out, hv0]; exact mdif_c N.ord zx zy w (ord_lt HM.out) (HMD.out hv0).1 (HMD.out hv0).2.1 (HMD.out hv0).2.2
      clear hv0
      obtain ⟨cl, hcl⟩ : ∃ l : List (Addr × Value), l = [(⟨g19, 0, none⟩, .string (E vb)), (⟨g16, 0, none⟩, .func (.func 31) #[] #[]), (⟨g16, 1, none⟩, .func (.func 32) #[] #[]), (⟨w.heap.size + 1, 0, none⟩, .slice s1 m1 d1), (⟨w.heap.size + 1, 1, none⟩, .slice (some ⟨b0, o0, none⟩) m2 d2), (⟨w.heap.size + 1, 2, none⟩, .slice s3 m3 d3), (⟨w.heap.size + 1 + 1, 2, none⟩, .slice (some ⟨bx, ox, none⟩) mb qb), (⟨w.heap.size + 1 + 1 + 1, 2, none⟩, .slice (some ⟨by', oy, none⟩) ma qa), (⟨bx, ox + k * 2, none⟩, .bool (sg zx)), (⟨bx, ox + k * 2 + 1, none⟩, .string (E zx.natAbs)), (⟨by', oy + k * 2, none⟩, .bool (sg zy)), (⟨by', oy + k * 2 + 1, none⟩, .string (E zy.natAbs))] := ⟨_, rfl⟩
      have HCL := Lib.hid hcl
      clear hcl
      have hC : CA wA cl := by
       rw [HCL.out]
       exact CA.cons h19.lt (h19.cell 0) (CA.cons hFn1.lt (hFn1.cell 0) (CA.cons hFn1.lt (hFn1.cell 1) (CA.cons hP1.lt (hP1.cell 0) (CA.cons hP1.lt (hP1.cell 1) (CA.cons hP1.lt (hP1.cell 2) (CA.cons hA1.lt (hA1.cell 2) (CA.cons hB1.lt (hB1.cell 2) (CA.cons hbx x1 (CA.cons hbx x2 (CA.cons hby y1 (CA.cons hby y2 (CA.nil _))))))))))))
      have hneA := fun x hx => Nat.ne_of_lt (hC x hx).1
      clear h19 hFn1 hP1 hA1 hB1 x1 x2 y1 y2 hbx hby
      go_upto_region 18 with fail
      go_cut [20, 21] (fun s20 s21 wx => ZBox wA dz s20 s21 wx)
      case first =>
       go_region_held3 (fun w' => w'.cell? ⟨g19, 0, none⟩ = some (.string (E vb)) ∧ w'.cell? ⟨g16, 0, none⟩ = some (.func (.func 31) #[] #[]) ∧ w'.cell? ⟨g16, 1, none⟩ = some (.func (.func 32) #[] #[]) ∧ w'.cell? ⟨w.heap.size + 1, 0, none⟩ = some (.slice s1 m1 d1) ∧ w'.cell? ⟨w.heap.size + 1, 1, none⟩ = some (.slice (some ⟨b0, o0, none⟩) m2 d2) ∧ w'.cell? ⟨w.heap.size + 1, 2, none⟩ = some (.slice s3 m3 d3) ∧ w'.cell? ⟨w.heap.size + 1 + 1, 2, none⟩ = some (.slice (some ⟨bx, ox, none⟩) mb qb) ∧ w'.cell? ⟨w.heap.size + 1 + 1 + 1, 2, none⟩ = some (.slice (some ⟨by', oy, none⟩) ma qa) ∧ w'.cell? ⟨bx, ox + k * 2, none⟩ = some (.bool (sg zx)) ∧ w'.cell? ⟨bx, ox + k * 2 + 1, none⟩ = some (.string (E zx.natAbs)) ∧ w'.cell? ⟨by', oy + k * 2, none⟩ = some (.bool (sg zy)) ∧ w'.cell? ⟨by', oy + k * 2 + 1, none⟩ = some (.string (E zy.natAbs))) ((refine CA.k12 ?_; rw [← HCL.out]; repeat (first | (with_reducible exact hCd) | (with_reducible exact hCo) | (with_reducible exact hCf) | (with_reducible exact hC) | (with_reducible refine CA.drew ?_) | (with_reducible refine CA.alloc ?_ _) | (refine CA.set ?_ _ _ _ hneA) | (refine CA.set ?_ _ _ _ (fun x hx => Nat.ne_of_lt (hCf x hx).1)) | (refine CA.set ?_ _ _ _ (fun x hx => Nat.ne_of_lt (hCo x hx).1)))))
        (first | (go_at_call 33; refine (HKD.out _).mono ?_; rintro e wf ⟨rfl, hbf⟩; have hCf : CA wf cl := (by first | exact hC.drew.after hbf | exact (hC.alloc _).drew.after hbf | exact (hC.drew.alloc _).after hbf); (try (have hbF : Below wA.heap.size wA wf := (Below.drew (Below.refl _ _)).trans hbf)); (try (have hbF : Below wA.heap.size wA wf := bt ((b1 wA _).drew) hbf)); (try (have kA := (Blk.new wA #[.bool false, .string { data := #[] }] 39).drew.after hbf))) | (go_at_call 34; refine (HORD.out _ (by first | exact hbF | exact ba hbF _)).mono ?_; rintro e wo ⟨rfl, hbo⟩; have hCo : CA wo cl := (by first | exact hCf.after hbo | exact (hCf.alloc _).after hbo); (try (have hbO : Below wA.heap.size wA wo := bt hbF hbo)); (try (have hbO : Below wA.heap.size wA wo := bt (ba hbF _) hbo)); (try (have kAo := kA.after hbo)); (try (have kB := (Blk.new wf #[.bool false, .string { data := #[] }] 39).after hbo))) | (go_at_call 31; refine (HDY.out _).mono ?_; rintro e wd ⟨rfl, hbd⟩; have hCd : CA wd cl := (by first | exact hCo.after hbd | exact (hCo.alloc _).after hbd); (try (have hbD : Below wA.heap.size wA wd := bt hbO hbd)); (try (have hbD : Below wA.heap.size wA wd := bt (ba hbO _) hbd)); (try (have kD := kAo.after hbd; have kd0 := kD.cell 0; have kd1 := kD.cell 1; have kd2 := kD.free 0; have kd3 := kD.free 1; have kdl := kD.lt)); (try (have kE := kB.after hbd; have ke0 := kE.cell 0; have ke1 := kE.cell 1; have ke2 := kE.free 0; have ke3 := kE.free 1; have kel := kE.lt)); (try (have kF := (Blk.new wo #[.bool false, .string { data := #[] }] 39).after hbd; have kf0 := kF.cell 0; have kf1 := kF.cell 1; have kf2 := kF.free 0; have kf3 := kF.free 1; have kfl := kF.lt))))
       all_goals
        go_wp2_with fail
        go_meet
        first
         | exact ⟨_, rfl, rfl, Blk.new _ _ _, hbD.size, ba hbD _⟩
         | exact ⟨_, rfl, rfl, (kD.set 0 _).set 1 _, Nat.le_refl _, (hbD.setCell (by simp) _).setCell (by simp) _⟩
         | exact ⟨_, rfl, rfl, (kE.set 0 _).set 1 _, hbF.size, (hbD.setCell (by have := hbF.size; simp; omega) _).setCell (by have := hbF.size; simp; omega) _⟩
         | exact ⟨_, rfl, rfl, (kF.set 0 _).set 1 _, hbO.size, (hbD.setCell (by have := hbO.size; simp; omega) _).setCell (by have := hbO.size; simp; omega) _⟩
      case rest =>
       obtain ⟨g20, rfl, rfl, h20, hg20, hbz⟩ := hcut
       obtain ⟨wy, hwy⟩ : ∃ wy, wy = wc := ⟨_, rfl⟩
       subst hwy
       clear hC hneA
       have hO2 := own_after hO1 hbz
       have hbr2 := bt hbr1 hbz
       have h20l := h20.lt
       rw [hLE.out] at hO2
       clear hbz hO1
       have hszy := hbr2.size
       generalize (N.difs Xb Xa).take k = LI at hO2 HST hLE
       have h20c0 := h20.cell 0
       have h20f0 := h20.free 0
       have h20c1 := h20.cell 1
       have h20f1 := h20.free 1
       go_wp2_with (at_builtin; refine wpList_append_lies _ rfl (.tmp 102) (.tmp 104) _ rfl wF.heap.size 39 i1 _ 2 24 Tryz.underlying31 HI1.out HA1.out HB1.out HC1.out rfl (by omega) u17 k (ics (LI.map zI)) rfl (own_after hO2 (b1 _ (.cells #[.bool (sg dz), .string (E dz.natAbs)] 39))) ⟨wy.heap.size, 0, none⟩ 1 1 [.bool (sg dz), .string (E dz.natAbs)] rfl rfl (Blk.new wy #[.bool (sg dz), .string (E dz.natAbs)] 39).cells (by simp [Value.oneCell']) (by omega) (by simp only [maxLen]; omega) (by omega) (by rw [World.size_alloc]; omega) (wy.heap.size + 1) (by simp) ?_; intro ga ca' wa hown hgrow hat hlt2)
       have hOA : ZOwn wa wF.heap.size (.slice (some ⟨ga, 0, none⟩) (k + 1) ca') (LI ++ [dz]) := by rw [ZOwn, List.length_append, hLE.out, ← ics_app]; exact hown
       rw [HDZ.out, ← HST.out] at hOA
       have hbA := (ba hbr2 (.cells #[.bool (sg dz), .string (E dz.natAbs)] 39)).grown hgrow (by rw [World.size_alloc]; omega) (fun x hx => (own_lt hO2 hx).2)
       clear hown hgrow hat hlt2 hO2 hbr2
       go_wp2
       go_roundw
       case rel => exact ⟨k + 1, by omega, by go_num, hOA, hbA⟩
       case measure => simp [intOf]; omega
     ·have HKD : Hid (∀ w, Calls Tryz.prog 33 #[.agg #[.string (E vb)]] w fun e w' => e = .returned (.int .i64 1) ∧ Below w.heap.size w w') := fun w => ekindV_c vb 1 w (if_neg hv0)
      have HDY : Hid (∀ w, Calls Tryz.prog 32 #[.string (E N.ord), .agg #[.bool (sg (zx)), .string (E (zx).natAbs)], .agg #[.bool (sg (zy)), .string (E (zy).natAbs)]] w fun e w' => e = .returned (.tuple #[.agg #[.bool (sg (dz)), .string (E (dz).natAbs)], .int .i64 0]) ∧ Below w.heap.size w w') := fun w => by
       have h := idif_c (E N.ord) vb zx zy w hv0 HZX.out HZY.out
       rw [show difI 0 vb zx zy = dz by rw [HDZ.out, difI, difI, if_neg hv0, if_neg hv0]] at h
       exact h
      clear hv0
      obtain ⟨cl, hcl⟩ : ∃ l : List (Addr × Value), l = [(⟨g19, 0, none⟩, .string (E vb)), (⟨g16, 0, none⟩, .func (.func 31) #[] #[]), (⟨g16, 1, none⟩, .func (.func 32) #[] #[]), (⟨w.heap.size + 1, 0, none⟩, .slice s1 m1 d1), (⟨w.heap.size + 1, 1, none⟩, .slice (some ⟨b0, o0, none⟩) m2 d2), (⟨w.heap.size + 1, 2, none⟩, .slice s3 m3 d3), (⟨w.heap.size + 1 + 1, 2, none⟩, .slice (some ⟨bx, ox, none⟩) mb qb), (⟨w.heap.size + 1 + 1 + 1, 2, none⟩, .slice (some ⟨by', oy, none⟩) ma qa), (⟨bx, ox + k * 2, none⟩, .bool (sg zx)), (⟨bx, ox + k * 2 + 1, none⟩, .string (E zx.natAbs)), (⟨by', oy + k * 2, none⟩, .bool (sg zy)), (⟨by', oy + k * 2 + 1, none⟩, .string (E zy.natAbs))] := ⟨_, rfl⟩
      have HCL := Lib.hid hcl
      clear hcl
      have hC : CA wA cl := by
       rw [HCL.out]
       exact CA.cons h19.lt (h19.cell 0) (CA.cons hFn1.lt (hFn1.cell 0) (CA.cons hFn1.lt (hFn1.cell 1) (CA.cons hP1.lt (hP1.cell 0) (CA.cons hP1.lt (hP1.cell 1) (CA.cons hP1.lt (hP1.cell 2) (CA.cons hA1.lt (hA1.cell 2) (CA.cons hB1.lt (hB1.cell 2) (CA.cons hbx x1 (CA.cons hbx x2 (CA.cons hby y1 (CA.cons hby y2 (CA.nil _))))))))))))
      have hneA := fun x hx => Nat.ne_of_lt (hC x hx).1
      clear h19 hFn1 hP1 hA1 hB1 x1 x2 y1 y2 hbx hby
      go_upto_region 18 with fail
      go_cut [20, 21] (fun s20 s21 wx => ZBox wA dz s20 s21 wx)
      case first =>
       go_region_held3 (fun w' => w'.cell? ⟨g19, 0, none⟩ = some (.string (E vb)) ∧ w'.cell? ⟨g16, 0, none⟩ = some (.func (.func 31) #[] #[]) ∧ w'.cell? ⟨g16, 1, none⟩ = some (.func (.func 32) #[] #[]) ∧ w'.cell? ⟨w.heap.size + 1, 0, none⟩ = some (.slice s1 m1 d1) ∧ w'.cell? ⟨w.heap.size + 1, 1, none⟩ = some (.slice (some ⟨b0, o0, none⟩) m2 d2) ∧ w'.cell? ⟨w.heap.size + 1, 2, none⟩ = some (.slice s3 m3 d3) ∧ w'.cell? ⟨w.heap.size + 1 + 1, 2, none⟩ = some (.slice (some ⟨bx, ox, none⟩) mb qb) ∧ w'.cell? ⟨w.heap.size + 1 + 1 + 1, 2, none⟩ = some (.slice (some ⟨by', oy, none⟩) ma qa) ∧ w'.cell? ⟨bx, ox + k * 2, none⟩ = some (.bool (sg zx)) ∧ w'.cell? ⟨bx, ox + k * 2 + 1, none⟩ = some (.string (E zx.natAbs)) ∧ w'.cell? ⟨by', oy + k * 2, none⟩ = some (.bool (sg zy)) ∧ w'.cell? ⟨by', oy + k * 2 + 1, none⟩ = some (.string (E zy.natAbs))) ((refine CA.k12 ?_; rw [← HCL.out]; repeat (first | (with_reducible exact hCd) | (with_reducible exact hCo) | (with_reducible exact hCf) | (with_reducible exact hC) | (with_reducible refine CA.drew ?_) | (with_reducible refine CA.alloc ?_ _) | (refine CA.set ?_ _ _ _ hneA) | (refine CA.set ?_ _ _ _ (fun x hx => Nat.ne_of_lt (hCf x hx).1)) | (refine CA.set ?_ _ _ _ (fun x hx => Nat.ne_of_lt (hCo x hx).1)))))
        (first | (go_at_call 33; refine (HKD.out _).mono ?_; rintro e wf ⟨rfl, hbf⟩; have hCf : CA wf cl := (by first | exact hC.drew.after hbf | exact (hC.alloc _).drew.after hbf | exact (hC.drew.alloc _).after hbf); (try (have hbF : Below wA.heap.size wA wf := (Below.drew (Below.refl _ _)).trans hbf)); (try (have hbF : Below wA.heap.size wA wf := bt ((b1 wA _).drew) hbf)); (try (have kA := (Blk.new wA #[.bool false, .string { data := #[] }] 39).drew.after hbf))) | (go_at_call 34; refine (HORD.out _ (by first | exact hbF | exact ba hbF _)).mono ?_; rintro e wo ⟨rfl, hbo⟩; have hCo : CA wo cl := (by first | exact hCf.after hbo | exact (hCf.alloc _).after hbo); (try (have hbO : Below wA.heap.size wA wo := bt hbF hbo)); (try (have hbO : Below wA.heap.size wA wo := bt (ba hbF _) hbo)); (try (have kAo := kA.after hbo)); (try (have kB := (Blk.new wf #[.bool false, .string { data := #[] }] 39).after hbo))) | (go_at_call 32; refine (HDY.out _).mono ?_; rintro e wd ⟨rfl, hbd⟩; have hCd : CA wd cl := (by first | exact hCo.after hbd | exact (hCo.alloc _).after hbd); (try (have hbD : Below wA.heap.size wA wd := bt hbO hbd)); (try (have hbD : Below wA.heap.size wA wd := bt (ba hbO _) hbd)); (try (have kD := kAo.after hbd; have kd0 := kD.cell 0; have kd1 := kD.cell 1; have kd2 := kD.free 0; have kd3 := kD.free 1; have kdl := kD.lt)); (try (have kE := kB.after hbd; have ke0 := kE.cell 0; have ke1 := kE.cell 1; have ke2 := kE.free 0; have ke3 := kE.free 1; have kel := kE.lt)); (try (have kF := (Blk.new wo #[.bool false, .string { data := #[] }] 39).after hbd; have kf0 := kF.cell 0; have kf1 := kF.cell 1; have kf2 := kF.free 0; have kf3 := kF.free 1; have kfl := kF.lt))))
       all_goals
        go_wp2_with fail
        go_meet
        first
         | exact ⟨_, rfl, rfl, Blk.new _ _ _, hbD.size, ba hbD _⟩
         | exact ⟨_, rfl, rfl, (kD.set 0 _).set 1 _, Nat.le_refl _, (hbD.setCell (by simp) _).setCell (by simp) _⟩
         | exact ⟨_, rfl, rfl, (kE.set 0 _).set 1 _, hbF.size, (hbD.setCell (by have := hbF.size; simp; omega) _).setCell (by have := hbF.size; simp; omega) _⟩
         | exact ⟨_, rfl, rfl, (kF.set 0 _).set 1 _, hbO.size, (hbD.setCell (by have := hbO.size; simp; omega) _).setCell (by have := hbO.size; simp; omega) _⟩
      case rest =>
       obtain ⟨g20, rfl, rfl, h20, hg20, hbz⟩ := hcut
       obtain ⟨wy, hwy⟩ : ∃ wy, wy = wc := ⟨_, rfl⟩
       subst hwy
       clear hC hneA
       have hO2 := own_after hO1 hbz
       have hbr2 := bt hbr1 hbz
       have h20l := h20.lt
       rw [hLE.out] at hO2
       clear hbz hO1
       have hszy := hbr2.size
       generalize (N.difs Xb Xa).take k = LI at hO2 HST hLE
       have h20c0 := h20.cell 0
       have h20f0 := h20.free 0
       have h20c1 := h20.cell 1
       have h20f1 := h20.free 1
       go_wp2_with (at_builtin; refine wpList_append_lies _ rfl (.tmp 102) (.tmp 104) _ rfl wF.heap.size 39 i1 _ 2 24 Tryz.underlying31 HI1.out HA1.out HB1.out HC1.out rfl (by omega) u17 k (ics (LI.map zI)) rfl (own_after hO2 (b1 _ (.cells #[.bool (sg dz), .string (E dz.natAbs)] 39))) ⟨wy.heap.size, 0, none⟩ 1 1 [.bool (sg dz), .string (E dz.natAbs)] rfl rfl (Blk.new wy #[.bool (sg dz), .string (E dz.natAbs)] 39).cells (by simp [Value.oneCell']) (by omega) (by simp only [maxLen]; omega) (by omega) (by rw [World.size_alloc]; omega) (wy.heap.size + 1) (by simp) ?_; intro ga ca' wa hown hgrow hat hlt2)
       have hOA : ZOwn wa wF.heap.size (.slice (some ⟨ga, 0, none⟩) (k + 1) ca') (LI ++ [dz]) := by rw [ZOwn, List.length_append, hLE.out, ← ics_app]; exact hown
       rw [HDZ.out, ← HST.out] at hOA
       have hbA := (ba hbr2 (.cells #[.bool (sg dz), .string (E dz.natAbs)] 39)).grown hgrow (by rw [World.size_alloc]; omega) (fun x hx => (own_lt hO2 hx).2)
       clear hown hgrow hat hlt2 hO2 hbr2
       go_wp2
       go_roundw
       case rel => exact ⟨k + 1, by omega, by go_num, hOA, hbA⟩
       case measure => simp [intOf]; omega
    ·have HTK : Hid ((N.difs Xb Xa).take k = N.difs Xb Xa) := List.take_of_length_le (by rw [NSta.difs, List.length_map, List.length_range, ← HN2.out]; omega)
     rw [HTK.out] at hO
     have hs1 := hBW.size
     have hDlF := hD.lt
     replace hD := hD.after hbr
     have hDl := hD.lt
     have hneD : u17.ownBlock ≠ some (w.heap.size + 1 + 1 + 1 + 1) := fun e => by have := (own_lt hO e).2; omega
     have hO9 := own_set (i := 1) (u := .string (E cd)) (own_set (i := 0) (u := .bool false) hO hneD) hneD
     have hDc0 := hD.cell 0
     have hDf0 := hD.free 0
     have hDc1 := hD.cell 1
     have hDf1 := hD.free 1
     go_wp2
     refine bodyPost_ret (v := .tuple #[.agg #[.bool false, .string (E cd)], u17, .int .i64 0]) ?_ rfl ⟨u17, by rw [HCD.out], ?_, ?_⟩
     ·simp [results, Tryz.results10, go_sem, hDc0, hDc1, hDl]
     ·exact own_mono hO9 hs1
     ·exact (hBW1.setCell (by first | (simp; omega) | simp) _).setCell (by first | (simp; omega) | simp) _

end Go.Proofs.YtbcgimgkcdpjcaaGreat
end

section
namespace Go.Proofs.YtbcgimgkcdpjcaaGreat
open Go.RowKit Go.Shelf

set_option maxHeartbeats 2000000 in
theorem rdiff_err1 (C K cha chb : ByteArray) (s1 s2 s3 xa ya xb yb : Option Addr) (m1 m2 m3 d1 d2 d3 na pa ma qa nb pb mb qb : Nat) (k : Nat) (w : World) (hk : k ≠ 0)
  (hva : ∀ w', Below w.heap.size w w' → Calls Tryz.prog 35 #[.agg #[.string C, .string K], .agg #[.slice s1 m1 d1, .slice s2 m2 d2, .slice s3 m3 d3], .agg #[.slice xa na pa, .string cha, .slice ya ma qa]] w' fun e w'' => e = .returned (.int .i64 k) ∧ Below w'.heap.size w' w'') :
  Calls Tryz.prog 11 #[.agg #[.string C, .string K], .agg #[.slice s1 m1 d1, .slice s2 m2 d2, .slice s3 m3 d3], .agg #[.slice xa na pa, .string cha, .slice ya ma qa], .agg #[.slice xb nb pb, .string chb, .slice yb mb qb]] w fun e w' => e = .returned (.tuple #[.agg #[.bool false, .string { data := #[] }], .slice none 0 0, .int .i64 k]) ∧ Below w.heap.size w w' := by
 have HVA := Lib.hid hva
 have hkb : ((k : Int) != 0) = true := by rw [bne_iff_ne]; omega
 have hR := ((((Blk.new w #[.string C, .string K] 24).alloc (.cells #[.slice s1 m1 d1, .slice s2 m2 d2, .slice s3 m3 d3] 29)).alloc (.cells #[.slice xa na pa, .string cha, .slice ya ma qa] 33)).alloc (.cells #[.slice xb nb pb, .string chb, .slice yb mb qb] 33)).alloc (.cells #[.bool false, .string { data := #[] }] 39)
 have hP := (((blkN (w := w.alloc (.cells #[.string C, .string K] 24)) (cs := #[.slice s1 m1 d1, .slice s2 m2 d2, .slice s3 m3 d3]) (T := 29) (g := w.heap.size + 1) (by simp)).alloc (.cells #[.slice xa na pa, .string cha, .slice ya ma qa] 33)).alloc (.cells #[.slice xb nb pb, .string chb, .slice yb mb qb] 33)).alloc (.cells #[.bool false, .string { data := #[] }] 39)
 have hA := ((blkN (w := (w.alloc (.cells #[.string C, .string K] 24)).alloc (.cells #[.slice s1 m1 d1, .slice s2 m2 d2, .slice s3 m3 d3] 29)) (cs := #[.slice xa na pa, .string cha, .slice ya ma qa]) (T := 33) (g := w.heap.size + 1 + 1) (by simp)).alloc (.cells #[.slice xb nb pb, .string chb, .slice yb mb qb] 33)).alloc (.cells #[.bool false, .string { data := #[] }] 39)
 have hB := (blkN (w := ((w.alloc (.cells #[.string C, .string K] 24)).alloc (.cells #[.slice s1 m1 d1, .slice s2 m2 d2, .slice s3 m3 d3] 29)).alloc (.cells #[.slice xa na pa, .string cha, .slice ya ma qa] 33)) (cs := #[.slice xb nb pb, .string chb, .slice yb mb qb]) (T := 33) (g := w.heap.size + 1 + 1 + 1) (by simp)).alloc (.cells #[.bool false, .string { data := #[] }] 39)
 have hD := blkN (w := (((w.alloc (.cells #[.string C, .string K] 24)).alloc (.cells #[.slice s1 m1 d1, .slice s2 m2 d2, .slice s3 m3 d3] 29)).alloc (.cells #[.slice xa na pa, .string cha, .slice ya ma qa] 33)).alloc (.cells #[.slice xb nb pb, .string chb, .slice yb mb qb] 33)) (cs := #[.bool false, .string { data := #[] }]) (T := 39) (g := w.heap.size + 1 + 1 + 1 + 1) (by simp)
 have hBW := ba (ba (b3 w (.cells #[.string C, .string K] 24) (.cells #[.slice s1 m1 d1, .slice s2 m2 d2, .slice s3 m3 d3] 29) (.cells #[.slice xa na pa, .string cha, .slice ya ma qa] 33)) (.cells #[.slice xb nb pb, .string chb, .slice yb mb qb] 33)) (.cells #[.bool false, .string { data := #[] }] 39)
 clear hva hk
 have hRc0 := hR.cell 0
 have hRf0 := hR.free 0
 have hRc1 := hR.cell 1
 have hRf1 := hR.free 1
 have hPc0 := hP.cell 0
 have hPf0 := hP.free 0
 have hPc1 := hP.cell 1
 have hPf1 := hP.free 1
 have hPc2 := hP.cell 2
 have hPf2 := hP.free 2
 have hAc0 := hA.cell 0
 have hAf0 := hA.free 0
 have hAc1 := hA.cell 1
 have hAf1 := hA.free 1
 have hAc2 := hA.cell 2
 have hAf2 := hA.free 2
 have hBc0 := hB.cell 0
 have hBf0 := hB.free 0
 have hBc1 := hB.cell 1
 have hBf1 := hB.free 1
 have hBc2 := hB.cell 2
 have hBf2 := hB.free 2
 go_enter Tryz.func11, Tryz.ntmps11
 go_wp2_with fail
 refine (HVA.out _ hBW).mono ?_
 rintro e w7 ⟨rfl, hb7⟩
 clear hRc0 hRf0 hRc1 hRf1
 clear hPc0 hPf0 hPc1 hPf1 hPc2 hPf2
 clear hAc0 hAf0 hAc1 hAf1 hAc2 hAf2
 clear hBc0 hBf0 hBc1 hBf1 hBc2 hBf2
 replace hR := hR.after hb7
 replace hP := hP.after hb7
 replace hA := hA.after hb7
 replace hB := hB.after hb7
 replace hD := hD.after hb7
 replace hBW := bt hBW hb7
 clear hb7
 have hRl := hR.lt
 have hPl := hP.lt
 have hAl := hA.lt
 have hBl := hB.lt
 have hDl := hD.lt
 have hDc0 := hD.cell 0
 have hDf0 := hD.free 0
 have hDc1 := hD.cell 1
 have hDf1 := hD.free 1
 go_wp2
 refine bodyPost_ret (v := .tuple #[.agg #[.bool false, .string { data := #[] }], .slice none 0 0, .int .i64 k]) ?_ rfl ⟨rfl, ?_⟩
 ·simp [results, Tryz.results11, go_sem, hDc0, hDc1, hDl]
 ·exact (hBW.setCell (by first | (simp; omega) | simp) _).setCell (by first | (simp; omega) | simp) _

set_option maxHeartbeats 2000000 in
theorem rdiff_err2 (C K cha chb : ByteArray) (s1 s2 s3 xa ya xb yb : Option Addr) (m1 m2 m3 d1 d2 d3 na pa ma qa nb pb mb qb : Nat) (k : Nat) (w : World) (hk : k ≠ 0)
  (hva : ∀ w', Below w.heap.size w w' → Calls Tryz.prog 35 #[.agg #[.string C, .string K], .agg #[.slice s1 m1 d1, .slice s2 m2 d2, .slice s3 m3 d3], .agg #[.slice xa na pa, .string cha, .slice ya ma qa]] w' fun e w'' => e = .returned (.int .i64 0) ∧ Below w'.heap.size w' w'')
  (hvb : ∀ w', Below w.heap.size w w' → Calls Tryz.prog 35 #[.agg #[.string C, .string K], .agg #[.slice s1 m1 d1, .slice s2 m2 d2, .slice s3 m3 d3], .agg #[.slice xb nb pb, .string chb, .slice yb mb qb]] w' fun e w'' => e = .returned (.int .i64 k) ∧ Below w'.heap.size w' w'') :
  Calls Tryz.prog 11 #[.agg #[.string C, .string K], .agg #[.slice s1 m1 d1, .slice s2 m2 d2, .slice s3 m3 d3], .agg #[.slice xa na pa, .string cha, .slice ya ma qa], .agg #[.slice xb nb pb, .string chb, .slice yb mb qb]] w fun e w' => e = .returned (.tuple #[.agg #[.bool false, .string { data := #[] }], .slice none 0 0, .int .i64 k]) ∧ Below w.heap.size w w' := by
 have HVA := Lib.hid hva
 have HVB := Lib.hid hvb
 have hkb : ((k : Int) != 0) = true := by rw [bne_iff_ne]; omega
 have hR := ((((Blk.new w #[.string C, .string K] 24).alloc (.cells #[.slice s1 m1 d1, .slice s2 m2 d2, .slice s3 m3 d3] 29)).alloc (.cells #[.slice xa na pa, .string cha, .slice ya ma qa] 33)).alloc (.cells #[.slice xb nb pb, .string chb, .slice yb mb qb] 33)).alloc (.cells #[.bool false, .string { data := #[] }] 39)
 have hP := (((blkN (w := w.alloc (.cells #[.string C, .string K] 24)) (cs := #[.slice s1 m1 d1, .slice s2 m2 d2, .slice s3 m3 d3]) (T := 29) (g := w.heap.size + 1) (by simp)).alloc (.cells #[.slice xa na pa, .string cha, .slice ya ma qa] 33)).alloc (.cells #[.slice xb nb pb, .string chb, .slice yb mb qb] 33)).alloc (.cells #[.bool false, .string { data := #[] }] 39)
 have hA := ((blkN (w := (w.alloc (.cells #[.string C, .string K] 24)).alloc (.cells #[.slice s1 m1 d1, .slice s2 m2 d2, .slice s3 m3 d3] 29)) (cs := #[.slice xa na pa, .string cha, .slice ya ma qa]) (T := 33) (g := w.heap.size + 1 + 1) (by simp)).alloc (.cells #[.slice xb nb pb, .string chb, .slice yb mb qb] 33)).alloc (.cells #[.bool false, .string { data := #[] }] 39)
 have hB := (blkN (w := ((w.alloc (.cells #[.string C, .string K] 24)).alloc (.cells #[.slice s1 m1 d1, .slice s2 m2 d2, .slice s3 m3 d3] 29)).alloc (.cells #[.slice xa na pa, .string cha, .slice ya ma qa] 33)) (cs := #[.slice xb nb pb, .string chb, .slice yb mb qb]) (T := 33) (g := w.heap.size + 1 + 1 + 1) (by simp)).alloc (.cells #[.bool false, .string { data := #[] }] 39)
 have hD := blkN (w := (((w.alloc (.cells #[.string C, .string K] 24)).alloc (.cells #[.slice s1 m1 d1, .slice s2 m2 d2, .slice s3 m3 d3] 29)).alloc (.cells #[.slice xa na pa, .string cha, .slice ya ma qa] 33)).alloc (.cells #[.slice xb nb pb, .string chb, .slice yb mb qb] 33)) (cs := #[.bool false, .string { data := #[] }]) (T := 39) (g := w.heap.size + 1 + 1 + 1 + 1) (by simp)
 have hBW := ba (ba (b3 w (.cells #[.string C, .string K] 24) (.cells #[.slice s1 m1 d1, .slice s2 m2 d2, .slice s3 m3 d3] 29) (.cells #[.slice xa na pa, .string cha, .slice ya ma qa] 33)) (.cells #[.slice xb nb pb, .string chb, .slice yb mb qb] 33)) (.cells #[.bool false, .string { data := #[] }] 39)
 clear hva hvb hk
 have hRc0 := hR.cell 0
 have hRf0 := hR.free 0
 have hRc1 := hR.cell 1
 have hRf1 := hR.free 1
 have hPc0 := hP.cell 0
 have hPf0 := hP.free 0
 have hPc1 := hP.cell 1
 have hPf1 := hP.free 1
 have hPc2 := hP.cell 2
 have hPf2 := hP.free 2
 have hAc0 := hA.cell 0
 have hAf0 := hA.free 0
 have hAc1 := hA.cell 1
 have hAf1 := hA.free 1
 have hAc2 := hA.cell 2
 have hAf2 := hA.free 2
 have hBc0 := hB.cell 0
 have hBf0 := hB.free 0
 have hBc1 := hB.cell 1
 have hBf1 := hB.free 1
 have hBc2 := hB.cell 2
 have hBf2 := hB.free 2
 go_enter Tryz.func11, Tryz.ntmps11
 go_wp2_with fail
 refine (HVA.out _ hBW).mono ?_
 rintro e w7 ⟨rfl, hb7⟩
 clear hRc0 hRf0 hRc1 hRf1
 clear hPc0 hPf0 hPc1 hPf1 hPc2 hPf2
 clear hAc0 hAf0 hAc1 hAf1 hAc2 hAf2
 clear hBc0 hBf0 hBc1 hBf1 hBc2 hBf2
 replace hR := hR.after hb7
 replace hP := hP.after hb7
 replace hA := hA.after hb7
 replace hB := hB.after hb7
 replace hD := hD.after hb7
 replace hBW := bt hBW hb7
 clear hb7
 have hRl := hR.lt
 have hPl := hP.lt
 have hAl := hA.lt
 have hBl := hB.lt
 have hDl := hD.lt
 have hRc0 := hR.cell 0
 have hRf0 := hR.free 0
 have hRc1 := hR.cell 1
 have hRf1 := hR.free 1
 have hPc0 := hP.cell 0
 have hPf0 := hP.free 0
 have hPc1 := hP.cell 1
 have hPf1 := hP.free 1
 have hPc2 := hP.cell 2
 have hPf2 := hP.free 2
 have hAc0 := hA.cell 0
 have hAf0 := hA.free 0
 have hAc1 := hA.cell 1
 have hAf1 := hA.free 1
 have hAc2 := hA.cell 2
 have hAf2 := hA.free 2
 have hBc0 := hB.cell 0
 have hBf0 := hB.free 0
 have hBc1 := hB.cell 1
 have hBf1 := hB.free 1
 have hBc2 := hB.cell 2
 have hBf2 := hB.free 2
 go_wp2_with fail
 refine (HVB.out _ hBW).mono ?_
 rintro e w8 ⟨rfl, hb8⟩
 clear hRc0 hRf0 hRc1 hRf1
 clear hPc0 hPf0 hPc1 hPf1 hPc2 hPf2
 clear hAc0 hAf0 hAc1 hAf1 hAc2 hAf2
 clear hBc0 hBf0 hBc1 hBf1 hBc2 hBf2
 replace hR := hR.after hb8
 replace hP := hP.after hb8
 replace hA := hA.after hb8
 replace hB := hB.after hb8
 replace hD := hD.after hb8
 replace hBW := bt hBW hb8
 clear hb8
 clear hRl hPl hAl hBl hDl
 have hRl := hR.lt
 have hPl := hP.lt
 have hAl := hA.lt
 have hBl := hB.lt
 have hDl := hD.lt
 have hDc0 := hD.cell 0
 have hDf0 := hD.free 0
 have hDc1 := hD.cell 1
 have hDf1 := hD.free 1
 go_wp2
 refine bodyPost_ret (v := .tuple #[.agg #[.bool false, .string { data := #[] }], .slice none 0 0, .int .i64 k]) ?_ rfl ⟨rfl, ?_⟩
 ·simp [results, Tryz.results11, go_sem, hDc0, hDc1, hDl]
 ·exact (hBW.setCell (by first | (simp; omega) | simp) _).setCell (by first | (simp; omega) | simp) _

theorem cmpN_eq {a b : Nat} (h : a = b) : (cmpN a b == 0) = true := by subst h; simp [cmpN]
theorem cmpN_ne {a b : Nat} (h : a ≠ b) : (cmpN a b == 0) = false := by
 unfold cmpN
 split
 ·rfl
 ·rw [if_pos (by omega)]; rfl

set_option maxHeartbeats 4000000 in
theorem rdiff_arg (N : NSta) (C K ca cb : Nat) (Fa Fb : List Nat) (Xa Xb : List Int) (s1 s2 s3 xa ya xb yb : Option Addr) (m1 m2 m3 d1 d2 d3 na pa ma qa nb pb mb qb : Nat) (w : World)
  (hm : NOk N) (hS : NAt w (.slice s1 m1 d1) (.slice s2 m2 d2) (.slice s3 m3 d3) N) (hfa : SsAt w (.slice xa na pa) (Fa.map E)) (hfb : SsAt w (.slice xb nb pb) (Fb.map E)) (hla : Fa.length ≤ 1000) (hlb : Fb.length ≤ 1000) (hca : ca < 256 ^ 128) (hcb : cb < 256 ^ 128)
  (hva : ∀ w', Below w.heap.size w w' → Calls Tryz.prog 35 #[.agg #[.string (E C), .string (E K)], .agg #[.slice s1 m1 d1, .slice s2 m2 d2, .slice s3 m3 d3], .agg #[.slice xa na pa, .string (E ca), .slice ya ma qa]] w' fun e w'' => e = .returned (.int .i64 0) ∧ Below w'.heap.size w' w'')
  (hvb : ∀ w', Below w.heap.size w w' → Calls Tryz.prog 35 #[.agg #[.string (E C), .string (E K)], .agg #[.slice s1 m1 d1, .slice s2 m2 d2, .slice s3 m3 d3], .agg #[.slice xb nb pb, .string (E cb), .slice yb mb qb]] w' fun e w'' => e = .returned (.int .i64 0) ∧ Below w'.heap.size w' w'')
  (hne : Fa ≠ Fb ∨ ca = cb) :
  Calls Tryz.prog 11 #[.agg #[.string (E C), .string (E K)], .agg #[.slice s1 m1 d1, .slice s2 m2 d2, .slice s3 m3 d3], .agg #[.slice xa na pa, .string (E ca), .slice ya ma qa], .agg #[.slice xb nb pb, .string (E cb), .slice yb mb qb]] w fun e w' => e = .returned (.tuple #[.agg #[.bool false, .string { data := #[] }], .slice none 0 0, .int .i64 1]) ∧ Below w.heap.size w w' := by
 have HVA := Lib.hid hva
 have HVB := Lib.hid hvb
 have HFA := Lib.hid hfa
 have HFB := Lib.hid hfb
 have HLA := Lib.hid hla
 have HLB := Lib.hid hlb
 have HCA := Lib.hid hca
 have HCB := Lib.hid hcb
 have HS0 := Lib.hid hS
 have HM := Lib.hid hm
 have hR := ((((Blk.new w #[.string (E C), .string (E K)] 24).alloc (.cells #[.slice s1 m1 d1, .slice s2 m2 d2, .slice s3 m3 d3] 29)).alloc (.cells #[.slice xa na pa, .string (E ca), .slice ya ma qa] 33)).alloc (.cells #[.slice xb nb pb, .string (E cb), .slice yb mb qb] 33)).alloc (.cells #[.bool false, .string { data := #[] }] 39)
 have hP := (((blkN (w := w.alloc (.cells #[.string (E C), .string (E K)] 24)) (cs := #[.slice s1 m1 d1, .slice s2 m2 d2, .slice s3 m3 d3]) (T := 29) (g := w.heap.size + 1) (by simp)).alloc (.cells #[.slice xa na pa, .string (E ca), .slice ya ma qa] 33)).alloc (.cells #[.slice xb nb pb, .string (E cb), .slice yb mb qb] 33)).alloc (.cells #[.bool false, .string { data := #[] }] 39)
 have hA := ((blkN (w := (w.alloc (.cells #[.string (E C), .string (E K)] 24)).alloc (.cells #[.slice s1 m1 d1, .slice s2 m2 d2, .slice s3 m3 d3] 29)) (cs := #[.slice xa na pa, .string (E ca), .slice ya ma qa]) (T := 33) (g := w.heap.size + 1 + 1) (by simp)).alloc (.cells #[.slice xb nb pb, .string (E cb), .slice yb mb qb] 33)).alloc (.cells #[.bool false, .string { data := #[] }] 39)
 have hB := (blkN (w := ((w.alloc (.cells #[.string (E C), .string (E K)] 24)).alloc (.cells #[.slice s1 m1 d1, .slice s2 m2 d2, .slice s3 m3 d3] 29)).alloc (.cells #[.slice xa na pa, .string (E ca), .slice ya ma qa] 33)) (cs := #[.slice xb nb pb, .string (E cb), .slice yb mb qb]) (T := 33) (g := w.heap.size + 1 + 1 + 1) (by simp)).alloc (.cells #[.bool false, .string { data := #[] }] 39)
 have hD := blkN (w := (((w.alloc (.cells #[.string (E C), .string (E K)] 24)).alloc (.cells #[.slice s1 m1 d1, .slice s2 m2 d2, .slice s3 m3 d3] 29)).alloc (.cells #[.slice xa na pa, .string (E ca), .slice ya ma qa] 33)).alloc (.cells #[.slice xb nb pb, .string (E cb), .slice yb mb qb] 33)) (cs := #[.bool false, .string { data := #[] }]) (T := 39) (g := w.heap.size + 1 + 1 + 1 + 1) (by simp)
 have hBW := ba (ba (b3 w (.cells #[.string (E C), .string (E K)] 24) (.cells #[.slice s1 m1 d1, .slice s2 m2 d2, .slice s3 m3 d3] 29) (.cells #[.slice xa na pa, .string (E ca), .slice ya ma qa] 33)) (.cells #[.slice xb nb pb, .string (E cb), .slice yb mb qb] 33)) (.cells #[.bool false, .string { data := #[] }] 39)
 clear hva hvb hfa hfb hla hlb hca hcb hS hm
 by_cases hf : Fa = Fb
 ·have HEQ := Lib.hid (decide_eq_true hf)
  have hce : ca = cb := by rcases hne with h | h; exact absurd hf h; exact h
  have hx1 := cmpN_eq hce
  clear hf hne hce
  have hRc0 := hR.cell 0
  have hRf0 := hR.free 0
  have hRc1 := hR.cell 1
  have hRf1 := hR.free 1
  have hPc0 := hP.cell 0
  have hPf0 := hP.free 0
  have hPc1 := hP.cell 1
  have hPf1 := hP.free 1
  have hPc2 := hP.cell 2
  have hPf2 := hP.free 2
  have hAc0 := hA.cell 0
  have hAf0 := hA.free 0
  have hAc1 := hA.cell 1
  have hAf1 := hA.free 1
  have hAc2 := hA.cell 2
  have hAf2 := hA.free 2
  have hBc0 := hB.cell 0
  have hBf0 := hB.free 0
  have hBc1 := hB.cell 1
  have hBf1 := hB.free 1
  have hBc2 := hB.cell 2
  have hBf2 := hB.free 2
  go_enter Tryz.func11, Tryz.ntmps11
  go_wp2_with fail
  refine (HVA.out _ hBW).mono ?_
  rintro e w7 ⟨rfl, hb7⟩
  clear hRc0 hRf0 hRc1 hRf1
  clear hPc0 hPf0 hPc1 hPf1 hPc2 hPf2
  clear hAc0 hAf0 hAc1 hAf1 hAc2 hAf2
  clear hBc0 hBf0 hBc1 hBf1 hBc2 hBf2
  replace hR := hR.after hb7
  replace hP := hP.after hb7
  replace hA := hA.after hb7
  replace hB := hB.after hb7
  replace hD := hD.after hb7
  replace hBW := bt hBW hb7
  clear hb7
  have hRl := hR.lt
  have hPl := hP.lt
  have hAl := hA.lt
  have hBl := hB.lt
  have hDl := hD.lt
  have hRc0 := hR.cell 0
  have hRf0 := hR.free 0
  have hRc1 := hR.cell 1
  have hRf1 := hR.free 1
  have hPc0 := hP.cell 0
  have hPf0 := hP.free 0
  have hPc1 := hP.cell 1
  have hPf1 := hP.free 1
  have hPc2 := hP.cell 2
  have hPf2 := hP.free 2
  have hAc0 := hA.cell 0
  have hAf0 := hA.free 0
  have hAc1 := hA.cell 1
  have hAf1 := hA.free 1
  have hAc2 := hA.cell 2
  have hAf2 := hA.free 2
  have hBc0 := hB.cell 0
  have hBf0 := hB.free 0
  have hBc1 := hB.cell 1
  have hBf1 := hB.free 1
  have hBc2 := hB.cell 2
  have hBf2 := hB.free 2
  go_wp2_with fail
  refine (HVB.out _ hBW).mono ?_
  rintro e w8 ⟨rfl, hb8⟩
  clear hRc0 hRf0 hRc1 hRf1
  clear hPc0 hPf0 hPc1 hPf1 hPc2 hPf2
  clear hAc0 hAf0 hAc1 hAf1 hAc2 hAf2
  clear hBc0 hBf0 hBc1 hBf1 hBc2 hBf2
  replace hR := hR.after hb8
  replace hP := hP.after hb8
  replace hA := hA.after hb8
  replace hB := hB.after hb8
  replace hD := hD.after hb8
  replace hBW := bt hBW hb8
  clear hb8
  clear hRl hPl hAl hBl hDl
  have hRl := hR.lt
  have hPl := hP.lt
  have hAl := hA.lt
  have hBl := hB.lt
  have hDl := hD.lt
  have hAc0 := hA.cell 0
  have hAf0 := hA.free 0
  have hAc1 := hA.cell 1
  have hAf1 := hA.free 1
  have hAc2 := hA.cell 2
  have hAf2 := hA.free 2
  have hBc0 := hB.cell 0
  have hBf0 := hB.free 0
  have hBc1 := hB.cell 1
  have hBf1 := hB.free 1
  have hBc2 := hB.cell 2
  have hBf2 := hB.free 2
  go_wp2_with fail
  refine (rcmp_c ca cb _ HCA.out HCB.out).mono ?_
  rintro e w9 ⟨rfl, hb9⟩
  clear hAc0 hAf0 hAc1 hAf1 hAc2 hAf2
  clear hBc0 hBf0 hBc1 hBf1 hBc2 hBf2
  replace hR := hR.after hb9
  replace hP := hP.after hb9
  replace hA := hA.after hb9
  replace hB := hB.after hb9
  replace hD := hD.after hb9
  replace hBW := bt hBW hb9
  clear hb9 hRl hPl hAl hBl hDl
  have hAl := hA.lt
  have hBl := hB.lt
  have hAc0 := hA.cell 0
  have hAf0 := hA.free 0
  have hAc1 := hA.cell 1
  have hAf1 := hA.free 1
  have hAc2 := hA.cell 2
  have hAf2 := hA.free 2
  have hBc0 := hB.cell 0
  have hBf0 := hB.free 0
  have hBc1 := hB.cell 1
  have hBf1 := hB.free 1
  have hBc2 := hB.cell 2
  have hBf2 := hB.free 2
  go_wp2_with fail
  refine (sameNats_cV Fa Fb _ _ true _ HLA.out HLB.out (SsAt.after HFA.out hBW) (SsAt.after HFB.out hBW) HEQ.out).mono ?_
  rintro e w8' ⟨rfl, hb8⟩
  clear hAc0 hAf0 hAc1 hAf1 hAc2 hAf2
  clear hBc0 hBf0 hBc1 hBf1 hBc2 hBf2
  replace hR := hR.after hb8
  replace hP := hP.after hb8
  replace hA := hA.after hb8
  replace hB := hB.after hb8
  replace hD := hD.after hb8
  replace hBW := bt hBW hb8
  clear hb8 hAl hBl
  have hAl := hA.lt
  have hBl := hB.lt
  have hDl := hD.lt
  have hDc0 := hD.cell 0
  have hDf0 := hD.free 0
  have hDc1 := hD.cell 1
  have hDf1 := hD.free 1
  go_wp2
  refine bodyPost_ret (v := .tuple #[.agg #[.bool false, .string { data := #[] }], .slice none 0 0, .int .i64 1]) ?_ rfl ⟨rfl, ?_⟩
  ·simp [results, Tryz.results11, go_sem, hDc0, hDc1, hDl]
  ·exact (hBW.setCell (by first | (simp; omega) | simp) _).setCell (by first | (simp; omega) | simp) _
 ·have HEQ := Lib.hid (decide_eq_false hf)
  clear hf hne
  have hRc0 := hR.cell 0
  have hRf0 := hR.free 0
  have hRc1 := hR.cell 1
  have hRf1 := hR.free 1
  have hPc0 := hP.cell 0
  have hPf0 := hP.free 0
  have hPc1 := hP.cell 1
  have hPf1 := hP.free 1
  have hPc2 := hP.cell 2
  have hPf2 := hP.free 2
  have hAc0 := hA.cell 0
  have hAf0 := hA.free 0
  have hAc1 := hA.cell 1
  have hAf1 := hA.free 1
  have hAc2 := hA.cell 2
  have hAf2 := hA.free 2
  have hBc0 := hB.cell 0
  have hBf0 := hB.free 0
  have hBc1 := hB.cell 1
  have hBf1 := hB.free 1
  have hBc2 := hB.cell 2
  have hBf2 := hB.free 2
  go_enter Tryz.func11, Tryz.ntmps11
  go_wp2_with fail
  refine (HVA.out _ hBW).mono ?_
  rintro e w7 ⟨rfl, hb7⟩
  clear hRc0 hRf0 hRc1 hRf1
  clear hPc0 hPf0 hPc1 hPf1 hPc2 hPf2
  clear hAc0 hAf0 hAc1 hAf1 hAc2 hAf2
  clear hBc0 hBf0 hBc1 hBf1 hBc2 hBf2
  replace hR := hR.after hb7
  replace hP := hP.after hb7
  replace hA := hA.after hb7
  replace hB := hB.after hb7
  replace hD := hD.after hb7
  replace hBW := bt hBW hb7
  clear hb7
  have hRl := hR.lt
  have hPl := hP.lt
  have hAl := hA.lt
  have hBl := hB.lt
  have hDl := hD.lt
  have hRc0 := hR.cell 0
  have hRf0 := hR.free 0
  have hRc1 := hR.cell 1
  have hRf1 := hR.free 1
  have hPc0 := hP.cell 0
  have hPf0 := hP.free 0
  have hPc1 := hP.cell 1
  have hPf1 := hP.free 1
  have hPc2 := hP.cell 2
  have hPf2 := hP.free 2
  have hAc0 := hA.cell 0
  have hAf0 := hA.free 0
  have hAc1 := hA.cell 1
  have hAf1 := hA.free 1
  have hAc2 := hA.cell 2
  have hAf2 := hA.free 2
  have hBc0 := hB.cell 0
  have hBf0 := hB.free 0
  have hBc1 := hB.cell 1
  have hBf1 := hB.free 1
  have hBc2 := hB.cell 2
  have hBf2 := hB.free 2
  go_wp2_with fail
  refine (HVB.out _ hBW).mono ?_
  rintro e w8 ⟨rfl, hb8⟩
  clear hRc0 hRf0 hRc1 hRf1
  clear hPc0 hPf0 hPc1 hPf1 hPc2 hPf2
  clear hAc0 hAf0 hAc1 hAf1 hAc2 hAf2
  clear hBc0 hBf0 hBc1 hBf1 hBc2 hBf2
  replace hR := hR.after hb8
  replace hP := hP.after hb8
  replace hA := hA.after hb8
  replace hB := hB.after hb8
  replace hD := hD.after hb8
  replace hBW := bt hBW hb8
  clear hb8
  clear hRl hPl hAl hBl hDl
  have hRl := hR.lt
  have hPl := hP.lt
  have hAl := hA.lt
  have hBl := hB.lt
  have hDl := hD.lt
  have hAc0 := hA.cell 0
  have hAf0 := hA.free 0
  have hAc1 := hA.cell 1
  have hAf1 := hA.free 1
  have hAc2 := hA.cell 2
  have hAf2 := hA.free 2
  have hBc0 := hB.cell 0
  have hBf0 := hB.free 0
  have hBc1 := hB.cell 1
  have hBf1 := hB.free 1
  have hBc2 := hB.cell 2
  have hBf2 := hB.free 2
  go_wp2_with fail
  refine (rcmp_c ca cb _ HCA.out HCB.out).mono ?_
  rintro e w9 ⟨rfl, hb9⟩
  clear hAc0 hAf0 hAc1 hAf1 hAc2 hAf2
  clear hBc0 hBf0 hBc1 hBf1 hBc2 hBf2
  replace hR := hR.after hb9
  replace hP := hP.after hb9
  replace hA := hA.after hb9
  replace hB := hB.after hb9
  replace hD := hD.after hb9
  replace hBW := bt hBW hb9
  clear hb9 hRl hPl hAl hBl hDl
  have hAl := hA.lt
  have hBl := hB.lt
  have hAc0 := hA.cell 0
  have hAf0 := hA.free 0
  have hAc1 := hA.cell 1
  have hAf1 := hA.free 1
  have hAc2 := hA.cell 2
  have hAf2 := hA.free 2
  have hBc0 := hB.cell 0
  have hBf0 := hB.free 0
  have hBc1 := hB.cell 1
  have hBf1 := hB.free 1
  have hBc2 := hB.cell 2
  have hBf2 := hB.free 2
  go_wp2_with fail
  refine (sameNats_cV Fa Fb _ _ false _ HLA.out HLB.out (SsAt.after HFA.out hBW) (SsAt.after HFB.out hBW) HEQ.out).mono ?_
  rintro e w8' ⟨rfl, hb8⟩
  clear hAc0 hAf0 hAc1 hAf1 hAc2 hAf2
  clear hBc0 hBf0 hBc1 hBf1 hBc2 hBf2
  replace hR := hR.after hb8
  replace hP := hP.after hb8
  replace hA := hA.after hb8
  replace hB := hB.after hb8
  replace hD := hD.after hb8
  replace hBW := bt hBW hb8
  clear hb8 hAl hBl
  have hAl := hA.lt
  have hBl := hB.lt
  have hDl := hD.lt
  have hDc0 := hD.cell 0
  have hDf0 := hD.free 0
  have hDc1 := hD.cell 1
  have hDf1 := hD.free 1
  go_wp2
  refine bodyPost_ret (v := .tuple #[.agg #[.bool false, .string { data := #[] }], .slice none 0 0, .int .i64 1]) ?_ rfl ⟨rfl, ?_⟩
  ·simp [results, Tryz.results11, go_sem, hDc0, hDc1, hDl]
  ·exact (hBW.setCell (by first | (simp; omega) | simp) _).setCell (by first | (simp; omega) | simp) _

theorem rsubV_c (a b r : Nat) (w : World) (ha : a < 256 ^ 128) (hb : b ≤ a) (hr : a - b = r) :
  Calls Tryz.prog 37 #[.string (E a), .string (E b)] w fun e w' => e = .returned (.tuple #[.string (E r), .int .i64 0]) ∧ Below w.heap.size w w' := by
 rw [← hr]; exact rsub_c a b w ha hb

theorem sub_fit {x y : Int} (hx : x.natAbs < 256 ^ 64) (hy : y.natAbs < 256 ^ 64) : (x - y).natAbs < 256 ^ 128 := by
 have h1 := Int.natAbs_sub_le x y
 have h2 : (256 : Nat) ^ 64 + 256 ^ 64 ≤ 256 ^ 128 := by decide
 omega

theorem emod_lt' (z : Int) {q : Nat} (h : 0 < q) : (z % (q : Int)).toNat < q := by
 have h1 := Int.emod_lt_of_pos z (show (0 : Int) < q by omega)
 have h2 := Int.emod_nonneg z (show (q : Int) ≠ 0 by omega)
 omega

theorem difI_mod {q : Nat} {x y : Int} (h0 : 0 < q) (hx : 0 ≤ x) (hy : 0 ≤ y) : difI q 0 x y = (((x - y) % (q : Int)).toNat : Int) := by
 obtain ⟨a, rfl⟩ := Int.eq_ofNat_of_zero_le hx
 obtain ⟨b, rfl⟩ := Int.eq_ofNat_of_zero_le hy
 unfold difI
 rw [if_pos rfl, Int.natAbs_natCast, Int.natAbs_natCast]
 have h2 := Int.emod_nonneg ((a : Int) - b) (show (q : Int) ≠ 0 by omega)
 rw [Int.toNat_of_nonneg h2]
 unfold subM
 have hb := Nat.mod_lt b h0
 have e1 := Nat.div_add_mod a q
 have e2 := Nat.div_add_mod b q
 rw [Int.natCast_emod, show (((a % q + q - b % q : Nat)) : Int) = ((a % q : Nat) : Int) + q - ((b % q : Nat) : Int) by omega]
 rw [show ((a : Int) - b) = (((a % q : Nat) : Int) + q - ((b % q : Nat) : Int)) + (q : Int) * ((a / q : Nat) - (b / q : Nat) - 1) by
  have h3 : (a : Int) = (q : Int) * (a / q : Nat) + (a % q : Nat) := by rw [← Int.natCast_mul, ← Int.natCast_add, e1]
  have h4 : (b : Int) = (q : Int) * (b / q : Nat) + (b % q : Nat) := by rw [← Int.natCast_mul, ← Int.natCast_add, e2]
  rw [Int.mul_sub, Int.mul_sub, Int.mul_one]
  omega]
 rw [Int.add_mul_emod_self_left]

/-- what the reference needs of the responses of variables modulo the order -/
def ModOkR (N : NSta) (X Y : List Int) : Prop := ∀ (k : Nat) (h : k < N.vars.length) (hx : k < X.length) (hy : k < Y.length), N.vars[k] = 0 → 0 < N.ord ∧ X[k].natAbs < 256 ^ 8 ∧ Y[k].natAbs < 256 ^ 8 ∧ 0 ≤ X[k] ∧ 0 ≤ Y[k]

set_option maxHeartbeats 8000000 in
theorem rdiff_ok1 (N : NSta) (C K ca cb : Nat) (Fa Fb : List Nat) (Xa Xb : List Int) (s1 s2 s3 xa ya xb yb : Option Addr) (m1 m2 m3 d1 d2 d3 na pa ma qa nb pb mb qb : Nat) (w : World)
  (hm : NOk N) (hS : NAt w (.slice s1 m1 d1) (.slice s2 m2 d2) (.slice s3 m3 d3) N) (hfa : SsAt w (.slice xa na pa) (Fa.map E)) (hfb : SsAt w (.slice xb nb pb) (Fb.map E)) (hla : Fa.length ≤ 1000) (hlb : Fb.length ≤ 1000) (hca : ca < 256 ^ 128) (hcb : cb < 256 ^ 128)
  (hva : ∀ w', Below w.heap.size w w' → Calls Tryz.prog 35 #[.agg #[.string (E C), .string (E K)], .agg #[.slice s1 m1 d1, .slice s2 m2 d2, .slice s3 m3 d3], .agg #[.slice xa na pa, .string (E ca), .slice ya ma qa]] w' fun e w'' => e = .returned (.int .i64 0) ∧ Below w'.heap.size w' w'')
  (hvb : ∀ w', Below w.heap.size w w' → Calls Tryz.prog 35 #[.agg #[.string (E C), .string (E K)], .agg #[.slice s1 m1 d1, .slice s2 m2 d2, .slice s3 m3 d3], .agg #[.slice xb nb pb, .string (E cb), .slice yb mb qb]] w' fun e w'' => e = .returned (.int .i64 0) ∧ Below w'.heap.size w' w'')
  (hxa : ZsAt w (.slice ya ma qa) Xa) (hxb : ZsAt w (.slice yb mb qb) Xb) (hlxa : Xa.length = N.vars.length) (hlxb : Xb.length = N.vars.length) (hza : ∀ z ∈ Xa, z.natAbs < 256 ^ 64) (hzb : ∀ z ∈ Xb, z.natAbs < 256 ^ 64)
  (hmo : ModOkR N Xa Xb) (hf : Fa = Fb) (hcc : cb < ca) :
  Calls Tryz.prog 11 #[.agg #[.string (E C), .string (E K)], .agg #[.slice s1 m1 d1, .slice s2 m2 d2, .slice s3 m3 d3], .agg #[.slice xa na pa, .string (E ca), .slice ya ma qa], .agg #[.slice xb nb pb, .string (E cb), .slice yb mb qb]] w (DPost w (ca - cb) (N.difs Xa Xb)) := by
 have HVA := Lib.hid hva
 have HVB := Lib.hid hvb
 have HFA := Lib.hid hfa
 have HFB := Lib.hid hfb
 have HLA := Lib.hid hla
 have HLB := Lib.hid hlb
 have HCA := Lib.hid hca
 have HCB := Lib.hid hcb
 have HS0 := Lib.hid hS
 have HM := Lib.hid hm
 obtain ⟨i1, hi1, hz10, hz11, hz12⟩ := info_parts info_Int
 have HI1 := Lib.hid hi1
 have HA1 := Lib.hid hz10
 have HB1 := Lib.hid hz11
 have HC1 := Lib.hid hz12
 clear hi1 hz10 hz11 hz12
 have HXA := Lib.hid hxa
 have HXB := Lib.hid hxb
 have HLXA := Lib.hid hlxa
 have HLXB := Lib.hid hlxb
 have HMA : Hid (ma = N.vars.length) := by have h := RAt.len hxa; rw [List.length_map] at h; rw [Hid, h, hlxa]
 have HMB : Hid (mb = N.vars.length) := by have h := RAt.len hxb; rw [List.length_map] at h; rw [Hid, h, hlxb]
 have HN2 : Hid (m2 = N.vars.length) := by have h := RAt.len hS.v; rw [Hid, h]; simp [NSta.s]
 rw [← HN2.out] at HMA HMB
 have l2 : m2 ≤ 6 := by rw [HN2.out]; exact hm.nv
 have HZA := Lib.hid hza
 have HZB := Lib.hid hzb
 have HMODAB := Lib.hid hmo
 have HMODBA := Lib.hid hmo
 have HEQ := Lib.hid (decide_eq_true hf)
 have HGE : Hid (cb ≤ ca) := Nat.le_of_lt hcc
 have hcn := cmp_nneg ca cb (Nat.le_of_lt hcc)
 have hx1 := cmpN_ne (show ca ≠ cb by omega)
 have hR := ((((Blk.new w #[.string (E C), .string (E K)] 24).alloc (.cells #[.slice s1 m1 d1, .slice s2 m2 d2, .slice s3 m3 d3] 29)).alloc (.cells #[.slice xa na pa, .string (E ca), .slice ya ma qa] 33)).alloc (.cells #[.slice xb nb pb, .string (E cb), .slice yb mb qb] 33)).alloc (.cells #[.bool false, .string { data := #[] }] 39)
 have hP := (((blkN (w := w.alloc (.cells #[.string (E C), .string (E K)] 24)) (cs := #[.slice s1 m1 d1, .slice s2 m2 d2, .slice s3 m3 d3]) (T := 29) (g := w.heap.size + 1) (by simp)).alloc (.cells #[.slice xa na pa, .string (E ca), .slice ya ma qa] 33)).alloc (.cells #[.slice xb nb pb, .string (E cb), .slice yb mb qb] 33)).alloc (.cells #[.bool false, .string { data := #[] }] 39)
 have hA := ((blkN (w := (w.alloc (.cells #[.string (E C), .string (E K)] 24)).alloc (.cells #[.slice s1 m1 d1, .slice s2 m2 d2, .slice s3 m3 d3] 29)) (cs := #[.slice xa na pa, .string (E ca), .slice ya ma qa]) (T := 33) (g := w.heap.size + 1 + 1) (by simp)).alloc (.cells #[.slice xb nb pb, .string (E cb), .slice yb mb qb] 33)).alloc (.cells #[.bool false, .string { data := #[] }] 39)
 have hB := (blkN (w := ((w.alloc (.cells #[.string (E C), .string (E K)] 24)).alloc (.cells #[.slice s1 m1 d1, .slice s2 m2 d2, .slice s3 m3 d3] 29)).alloc (.cells #[.slice xa na pa, .string (E ca), .slice ya ma qa] 33)) (cs := #[.slice xb nb pb, .string (E cb), .slice yb mb qb]) (T := 33) (g := w.heap.size + 1 + 1 + 1) (by simp)).alloc (.cells #[.bool false, .string { data := #[] }] 39)
 have hD := blkN (w := (((w.alloc (.cells #[.string (E C), .string (E K)] 24)).alloc (.cells #[.slice s1 m1 d1, .slice s2 m2 d2, .slice s3 m3 d3] 29)).alloc (.cells #[.slice xa na pa, .string (E ca), .slice ya ma qa] 33)).alloc (.cells #[.slice xb nb pb, .string (E cb), .slice yb mb qb] 33)) (cs := #[.bool false, .string { data := #[] }]) (T := 39) (g := w.heap.size + 1 + 1 + 1 + 1) (by simp)
 have hBW := ba (ba (b3 w (.cells #[.string (E C), .string (E K)] 24) (.cells #[.slice s1 m1 d1, .slice s2 m2 d2, .slice s3 m3 d3] 29) (.cells #[.slice xa na pa, .string (E ca), .slice ya ma qa] 33)) (.cells #[.slice xb nb pb, .string (E cb), .slice yb mb qb] 33)) (.cells #[.bool false, .string { data := #[] }] 39)
 clear hva hvb hfa hfb hla hlb hca hcb hS hm hxa hxb hlxa hlxb hza hzb hmo hf hcc
 have hRc0 := hR.cell 0
 have hRf0 := hR.free 0
 have hRc1 := hR.cell 1
 have hRf1 := hR.free 1
 have hPc0 := hP.cell 0
 have hPf0 := hP.free 0
 have hPc1 := hP.cell 1
 have hPf1 := hP.free 1
 have hPc2 := hP.cell 2
 have hPf2 := hP.free 2
 have hAc0 := hA.cell 0
 have hAf0 := hA.free 0
 have hAc1 := hA.cell 1
 have hAf1 := hA.free 1
 have hAc2 := hA.cell 2
 have hAf2 := hA.free 2
 have hBc0 := hB.cell 0
 have hBf0 := hB.free 0
 have hBc1 := hB.cell 1
 have hBf1 := hB.free 1
 have hBc2 := hB.cell 2
 have hBf2 := hB.free 2
 go_enter Tryz.func11, Tryz.ntmps11
 go_wp2_with fail
 refine (HVA.out _ hBW).mono ?_
 rintro e w7 ⟨rfl, hb7⟩
 clear hRc0 hRf0 hRc1 hRf1
 clear hPc0 hPf0 hPc1 hPf1 hPc2 hPf2
 clear hAc0 hAf0 hAc1 hAf1 hAc2 hAf2
 clear hBc0 hBf0 hBc1 hBf1 hBc2 hBf2
 replace hR := hR.after hb7
 replace hP := hP.after hb7
 replace hA := hA.after hb7
 replace hB := hB.after hb7
 replace hD := hD.after hb7
 replace hBW := bt hBW hb7
 clear hb7
 have hRl := hR.lt
 have hPl := hP.lt
 have hAl := hA.lt
 have hBl := hB.lt
 have hDl := hD.lt
 have hRc0 := hR.cell 0
 have hRf0 := hR.free 0
 have hRc1 := hR.cell 1
 have hRf1 := hR.free 1
 have hPc0 := hP.cell 0
 have hPf0 := hP.free 0
 have hPc1 := hP.cell 1
 have hPf1 := hP.free 1
 have hPc2 := hP.cell 2
 have hPf2 := hP.free 2
 have hAc0 := hA.cell 0
 have hAf0 := hA.free 0
 have hAc1 := hA.cell 1
 have hAf1 := hA.free 1
 have hAc2 := hA.cell 2
 have hAf2 := hA.free 2
 have hBc0 := hB.cell 0
 have hBf0 := hB.free 0
 have hBc1 := hB.cell 1
 have hBf1 := hB.free 1
 have hBc2 := hB.cell 2
 have hBf2 := hB.free 2
 go_wp2_with fail
 refine (HVB.out _ hBW).mono ?_
 rintro e w8 ⟨rfl, hb8⟩
 clear hRc0 hRf0 hRc1 hRf1
 clear hPc0 hPf0 hPc1 hPf1 hPc2 hPf2
 clear hAc0 hAf0 hAc1 hAf1 hAc2 hAf2
 clear hBc0 hBf0 hBc1 hBf1 hBc2 hBf2
 replace hR := hR.after hb8
 replace hP := hP.after hb8
 replace hA := hA.after hb8
 replace hB := hB.after hb8
 replace hD := hD.after hb8
 replace hBW := bt hBW hb8
 clear hb8
 clear hRl hPl hAl hBl hDl
 have hRl := hR.lt
 have hPl := hP.lt
 have hAl := hA.lt
 have hBl := hB.lt
 have hDl := hD.lt
 have hAc0 := hA.cell 0
 have hAf0 := hA.free 0
 have hAc1 := hA.cell 1
 have hAf1 := hA.free 1
 have hAc2 := hA.cell 2
 have hAf2 := hA.free 2
 have hBc0 := hB.cell 0
 have hBf0 := hB.free 0
 have hBc1 := hB.cell 1
 have hBf1 := hB.free 1
 have hBc2 := hB.cell 2
 have hBf2 := hB.free 2
 go_wp2_with fail
 refine (rcmp_c ca cb _ HCA.out HCB.out).mono ?_
 rintro e w9 ⟨rfl, hb9⟩
 clear hAc0 hAf0 hAc1 hAf1 hAc2 hAf2
 clear hBc0 hBf0 hBc1 hBf1 hBc2 hBf2
 replace hR := hR.after hb9
 replace hP := hP.after hb9
 replace hA := hA.after hb9
 replace hB := hB.after hb9
 replace hD := hD.after hb9
 replace hBW := bt hBW hb9
 clear hb9 hRl hPl hAl hBl hDl
 have hAl := hA.lt
 have hBl := hB.lt
 have hAc0 := hA.cell 0
 have hAf0 := hA.free 0
 have hAc1 := hA.cell 1
 have hAf1 := hA.free 1
 have hAc2 := hA.cell 2
 have hAf2 := hA.free 2
 have hBc0 := hB.cell 0
 have hBf0 := hB.free 0
 have hBc1 := hB.cell 1
 have hBf1 := hB.free 1
 have hBc2 := hB.cell 2
 have hBf2 := hB.free 2
 go_wp2_with fail
 refine (sameNats_cV Fa Fb _ _ true _ HLA.out HLB.out (SsAt.after HFA.out hBW) (SsAt.after HFB.out hBW) HEQ.out).mono ?_
 rintro e w8' ⟨rfl, hb8⟩
 clear hAc0 hAf0 hAc1 hAf1 hAc2 hAf2
 clear hBc0 hBf0 hBc1 hBf1 hBc2 hBf2
 replace hR := hR.after hb8
 replace hP := hP.after hb8
 replace hA := hA.after hb8
 replace hB := hB.after hb8
 replace hD := hD.after hb8
 replace hBW := bt hBW hb8
 clear hb8 hAl hBl
 have hAl := hA.lt
 have hBl := hB.lt
 have hDl := hD.lt
 have HLX : Hid (Xa.length = N.vars.length) := HLXA.out
 have HLY : Hid (Xb.length = N.vars.length) := HLXB.out
 have HLXM := HMA
 have HLYM := HMB
 have HZX0 := HZA
 have HZY0 := HZB
 have HMOD := HMODAB
 have hAc0 := hA.cell 0
 have hAf0 := hA.free 0
 have hAc1 := hA.cell 1
 have hAf1 := hA.free 1
 have hAc2 := hA.cell 2
 have hAf2 := hA.free 2
 have hBc0 := hB.cell 0
 have hBf0 := hB.free 0
 have hBc1 := hB.cell 1
 have hBf1 := hB.free 1
 have hBc2 := hB.cell 2
 have hBf2 := hB.free 2
 go_wp2_with fail
 clear hAc0 hAf0 hAc1 hAf1 hAc2 hAf2
 clear hBc0 hBf0 hBc1 hBf1 hBc2 hBf2
 refine (rsubV_c ca cb (ca - cb) _ HCA.out HGE.out rfl).mono ?_
 rintro e w10 ⟨rfl, hb10⟩
 replace hP := hP.after hb10
 replace hA := hA.after hb10
 replace hB := hB.after hb10
 replace hD := hD.after hb10
 replace hBW := bt hBW hb10
 clear hb10
 obtain ⟨cd, hcd⟩ : ∃ c, c = ca - cb := ⟨_, rfl⟩
 rw [← hcd]
 have HCD := Lib.hid hcd
 have HCD2 : Hid (cd < 256 ^ 128) := by rw [Hid, hcd]; exact Nat.lt_of_le_of_lt (Nat.sub_le _ _) HCA.out
 clear hcd
 clear hAl hBl hDl
 go_wp2
 obtain ⟨wF, hwF⟩ : ∃ wF, wF = w10 := ⟨_, rfl⟩
 subst hwF
 go_loopw [16, 17] (fun v17 i wr => ∃ k : Nat, k ≤ m2 ∧ i = .int .i64 k ∧ ZOwn wr wF.heap.size v17 ((N.difs Xa Xb).take k) ∧ Below wF.heap.size wF wr) (fun _ i _ => m2 - (intOf i).toNat)
 case atStart => exact ⟨0, by omega, rfl, World.ownsRow_nil _ _ _ _, Below.refl _ _⟩
 case round =>
  obtain ⟨k, hk, rfl, hO, hbr⟩ := hrel
  obtain ⟨wq, hwq⟩ : ∃ wq, wq = wr := ⟨_, rfl⟩
  subst hwq
  have hBW1 := bt hBW hbr
  have hP1 := hP.after hbr
  have hA1 := hA.after hbr
  have hB1 := hB.after hbr
  have hPl := hP1.lt
  by_cases hlt : k < m2
  ·have hkl : k < N.vars.length := by rw [← HN2.out]; exact hlt
   have hkx : k < Xa.length := by rw [HLX.out]; exact hkl
   have hky : k < Xb.length := by rw [HLY.out]; exact hkl
   have HST := Lib.hid (difs_step N Xa Xb k hkl hkx hky)
   have HMD := Lib.hid (HMOD.out k hkl hkx hky)
   have HZX := Lib.hid (HZX0.out _ (List.getElem_mem hkx))
   have HZY := Lib.hid (HZY0.out _ (List.getElem_mem hky))
   have hS1 := HS0.out.after hBW1
   obtain ⟨b0, o0, rfl, hbl, vx1⟩ := NAt.vat hS1 hkl
   obtain ⟨bx, ox, rfl, hbx, x1⟩ := (HXA.out.after hBW1).at_ hkx
   obtain ⟨by', oy, rfl, hby, y1⟩ := (HXB.out.after hBW1).at_ hky
   obtain ⟨x1, x2⟩ := x1
   obtain ⟨y1, y2⟩ := y1
   generalize (N.vars[k]'hkl) = vb at vx1 HST HMD
   generalize (Xa[k]'hkx) = zx at x1 x2 HST HMD HZX
   generalize (Xb[k]'hky) = zy at y1 y2 HST HMD HZY
   obtain ⟨sz, hsz'⟩ : ∃ z, z = zx - zy := ⟨_, rfl⟩
   have HSZ := Lib.hid hsz'
   have HSB : Hid (sz.natAbs < 256 ^ 128) := by rw [Hid, hsz']; exact sub_fit HZX.out HZY.out
   have HSU : Hid (∀ w, Calls Tryz.prog 38 #[.agg #[.bool (sg (zx)), .string (E (zx).natAbs)], .agg #[.bool (sg (zy)), .string (E (zy).natAbs)]] w fun e w' => e = .returned (.tuple #[.agg #[.bool (sg (sz)), .string (E (sz).natAbs)], .int .i64 0]) ∧ Below w.heap.size w w') := fun w => by
    rw [hsz']; exact risub_c zx zy w (lt64 HZX.out) (lt64 HZY.out) (sub_fit HZX.out HZY.out)
   clear hsz'
   have h0k : (0 : Int) ≤ (k : Int) := by omega
   have h1k : (k : Int) < (m2 : Int) := by omega
   have h1x : (k : Int) < (ma : Int) := by rw [HLXM.out]; omega
   have h1y : (k : Int) < (mb : Int) := by rw [HLYM.out]; omega
   have hLE : Hid (((N.difs Xa Xb).take k).length = k) := by rw [Hid, List.length_take, NSta.difs, List.length_map, List.length_range]; omega
   obtain ⟨cl, hcl⟩ : ∃ l : List (Addr × Value), l = [(⟨w.heap.size + 1 + 1, 2, none⟩, .slice (some ⟨bx, ox, none⟩) ma qa), (⟨w.heap.size + 1 + 1 + 1, 2, none⟩, .slice (some ⟨by', oy, none⟩) mb qb), (⟨bx, ox + k * 2, none⟩, .bool (sg zx)), (⟨bx, ox + k * 2 + 1, none⟩, .string (E zx.natAbs)), (⟨by', oy + k * 2, none⟩, .bool (sg zy)), (⟨by', oy + k * 2 + 1, none⟩, .string (E zy.natAbs))] := ⟨_, rfl⟩
   have HCL := Lib.hid hcl
   clear hcl
   have hC : CA wq cl := by
    rw [HCL.out]
    exact CA.cons hA1.lt (hA1.cell 2) (CA.cons hB1.lt (hB1.cell 2) (CA.cons hbx x1 (CA.cons hbx x2 (CA.cons hby y1 (CA.cons hby y2 (CA.nil _))))))
   have hneA := fun x hx => Nat.ne_of_lt (hC x hx).1
   clear hS1 x1 x2 y1 y2 hbx hby hA1 hB1
   have hP1c0 := hP1.cell 0
   have hP1f0 := hP1.free 0
   have hP1c1 := hP1.cell 1
   have hP1f1 := hP1.free 1
   have hP1c2 := hP1.cell 2
   have hP1f2 := hP1.free 2
   go_upto_region 17 with fail
   clear hP1c0 hP1f0 hP1c1 hP1f1 hP1c2 hP1f2
   go_cut [18, 19] (fun s18 s19 wx => ZBox wq sz s18 s19 wx)
   case first =>
    go_region_held3 (fun w' => w'.cell? ⟨w.heap.size + 1 + 1, 2, none⟩ = some (.slice (some ⟨bx, ox, none⟩) ma qa) ∧ w'.cell? ⟨w.heap.size + 1 + 1 + 1, 2, none⟩ = some (.slice (some ⟨by', oy, none⟩) mb qb) ∧ w'.cell? ⟨bx, ox + k * 2, none⟩ = some (.bool (sg zx)) ∧ w'.cell? ⟨bx, ox + k * 2 + 1, none⟩ = some (.string (E zx.natAbs)) ∧ w'.cell? ⟨by', oy + k * 2, none⟩ = some (.bool (sg zy)) ∧ w'.cell? ⟨by', oy + k * 2 + 1, none⟩ = some (.string (E zy.natAbs))) ((refine CA.k6 ?_; rw [← HCL.out]; repeat (first | (with_reducible exact hCf) | (with_reducible exact hC) | (with_reducible refine CA.drew ?_) | (with_reducible refine CA.alloc ?_ _) | (refine CA.set ?_ _ _ _ hneA))))
     ((go_at_call 38; refine (HSU.out _).mono ?_; rintro e wf ⟨rfl, hbf⟩; have hCf : CA wf cl := (by first | exact hC.drew.after hbf | exact (hC.alloc _).drew.after hbf | exact (hC.drew.alloc _).after hbf); (try (have kA := (Blk.new wq #[.bool false, .string { data := #[] }] 39).drew.after hbf; have kA0 := kA.cell 0; have kA1 := kA.cell 1; have kA2 := kA.free 0; have kA3 := kA.free 1))))
    all_goals
     go_wp2_with fail
     go_meet
     first
      | exact ⟨_, rfl, rfl, Blk.new _ _ _, hbf.size, ba ((Below.drew (Below.refl _ _)).trans hbf) _⟩
      | exact ⟨_, rfl, rfl, (kA.set 0 _).set 1 _, Nat.le_refl _, ((bt ((b1 wq _).drew) hbf).setCell (by simp) _).setCell (by simp) _⟩
   case rest =>
    obtain ⟨g18, rfl, rfl, h18, hg18, hbz⟩ := hcut
    obtain ⟨wy0, hwy⟩ : ∃ wy, wy = wc := ⟨_, rfl⟩
    subst hwy
    clear hC hneA hPl
    have hO2 := own_after hO hbz
    have hbr2 := bt hbr hbz
    have hBW2 := bt hBW1 hbz
    have hP2 := hP1.after hbz
    replace vx1 := (hbz.cell (p := ⟨b0, o0 + k, none⟩) hbl).trans vx1
    replace hbl := Nat.lt_of_lt_of_le hbl hbz.size
    have hrow : ∀ g, u16.ownBlock = some g → g ≠ g18 := fun g hg e => by have := (own_lt hO hg).1; omega
    have h18l := h18.lt
    have hPl := hP2.lt
    rw [hLE.out] at hO2
    clear hbz hO hP1
    generalize (N.difs Xa Xb).take k = LI at hO2 HST hLE
    obtain ⟨dz, hdz⟩ : ∃ z, z = difI N.ord vb zx zy := ⟨_, rfl⟩
    have HDZ := Lib.hid hdz
    clear hdz
    rcases Nat.eq_zero_or_pos vb with rfl | h0
    ·have hz := zE (n := 0) rfl
     have HQ0 : Hid (0 < N.ord) := (HMD.out rfl).1
     have HDN : Hid (dz = ((sz % (N.ord : Int)).toNat : Int)) := by rw [Hid, HDZ.out, HSZ.out]; exact difI_mod (HMD.out rfl).1 (HMD.out rfl).2.2.2.1 (HMD.out rfl).2.2.2.2
     have HORD : Hid (∀ w', Below wy0.heap.size wy0 w' → Calls Tryz.prog 40 #[.agg #[.slice s1 m1 d1, .slice (some ⟨b0, o0, none⟩) m2 d2, .slice s3 m3 d3]] w' fun e w'' => e = .returned (.string (E N.ord)) ∧ Below w'.heap.size w' w'') := fun w' hb' => rorder15_c N _ _ _ w' HM.out (HS0.out.after (bt hBW2 hb'))
     obtain ⟨md, hmd⟩ : ∃ n, n = (sz % (N.ord : Int)).toNat := ⟨_, rfl⟩
     have HMDC : Hid (∀ w, Calls Tryz.prog 39 #[.agg #[.bool (sg (sz)), .string (E (sz).natAbs)], .string (E N.ord)] w fun e w' => e = .returned (.tuple #[.string (E md), .int .i64 0]) ∧ Below w.heap.size w w') := fun w => by
      rw [hmd]; exact rimod_c sz N.ord w HSB.out (lt128 (ord_lt HM.out)) HQ0.out
     have HMB : Hid (md < 256 ^ 128) := by rw [Hid, hmd]; exact Nat.lt_trans (emod_lt' sz HQ0.out) (lt128 (ord_lt HM.out))
     have HDM : Hid (dz = (md : Int)) := by rw [Hid, HDN.out, hmd]
     clear hmd
     have HFR : Hid (∀ w, Calls Tryz.prog 41 #[.string (E md)] w fun e w' => e = .returned (.agg #[.bool (sg (dz)), .string (E (dz).natAbs)]) ∧ Below w.heap.size w w') := fun w => by rw [HDM.out]; exact rifrom_c md w HMB.out
     have hP2c0 := hP2.cell 0
     have hP2f0 := hP2.free 0
     have hP2c1 := hP2.cell 1
     have hP2f1 := hP2.free 1
     have hP2c2 := hP2.cell 2
     have hP2f2 := hP2.free 2
     go_wp2_with fail
     clear hP2c0 hP2f0 hP2c1 hP2f1 hP2c2 hP2f2
     have h18c0 := h18.cell 0
     have h18f0 := h18.free 0
     have h18c1 := h18.cell 1
     have h18f1 := h18.free 1
     have hP2c0 := hP2.cell 0
     have hP2f0 := hP2.free 0
     have hP2c1 := hP2.cell 1
     have hP2f1 := hP2.free 1
     have hP2c2 := hP2.cell 2
     have hP2f2 := hP2.free 2
     have h18g0 := h18.gcell 0
     have h18g1 := h18.gcell 1
     have hP2g0 := hP2.gcell 0
     have hP2g1 := hP2.gcell 1
     have hP2g2 := hP2.gcell 2
     go_wp2_with fail
     refine wp_region_gw (by kernel_rfl) (by kernel_rfl) ?_
     repeat (go_big_quiet_step (first | (go_at_call 40; exact gw_of (HORD.out _ (gw_below _))) | (go_at_call 39; exact gw_of (HMDC.out _))))
     refine wpQuiet_nil ?_
     rintro w9 ⟨xw9, rfl⟩
     have hb9 := gw_below xw9
     generalize gw xw9 = w9 at hb9
     clear h18c0 h18f0 h18c1 h18f1
     clear hP2c0 hP2f0 hP2c1 hP2f1 hP2c2 hP2f2
     clear h18g0 h18g1
     clear hP2g0 hP2g1 hP2g2
     replace h18 := h18.after hb9
     replace hO2 := own_after hO2 hb9
     replace hbr2 := bt hbr2 hb9
     clear h18l hPl hP2 vx1 hbl hb9
     have h18l := h18.lt
     have h18c0 := h18.cell 0
     have h18f0 := h18.free 0
     have h18c1 := h18.cell 1
     have h18f1 := h18.free 1
     go_wp2_with fail
     refine (HFR.out _).mono ?_
     rintro e w11 ⟨rfl, hb11⟩
     clear h18c0 h18f0 h18c1 h18f1
     replace h18 := h18.after hb11
     replace hO2 := own_after hO2 hb11
     replace hbr2 := bt hbr2 hb11
     clear h18l hb11
     have h18l := h18.lt
     have hn18 : u16.ownBlock ≠ some g18 := fun e => hrow _ e rfl
     have h18b := (h18.set 0 (.bool (sg dz))).set 1 (.string (E dz.natAbs))
     have hO3 := own_set (i := 1) (u := .string (E dz.natAbs)) (own_set (i := 0) (u := .bool (sg dz)) hO2 hn18) hn18
     have hbr3 := (hbr2.setCell (p := ⟨g18, 0, none⟩) (by have := hbr.size; show _ ≤ g18; omega) (.bool (sg dz))).setCell (p := ⟨g18, 1, none⟩) (by have := hbr.size; show _ ≤ g18; omega) (.string (E dz.natAbs))
     have h18c0 := h18.cell 0
     have h18f0 := h18.free 0
     have h18c1 := h18.cell 1
     have h18f1 := h18.free 1
     go_upto_region 23 with fail
     clear h18c0 h18f0 h18c1 h18f1
     clear hO2 hbr2 h18 h18l
     generalize (w11.setCell ⟨g18, 0, none⟩ (.bool (sg dz))).setCell ⟨g18, 1, none⟩ (.string (E dz.natAbs)) = wy at h18b hO3 hbr3 ⊢
     have hO2 := hO3
     have hbr2 := hbr3
     replace h18b : Blk wy g18 39 [.bool (sg dz), .string (E dz.natAbs)] := h18b
     clear hO3 hbr3
     have h18l := h18b.lt
     have hszy := hbr2.size
     have h18bc0 := h18b.cell 0
     have h18bf0 := h18b.free 0
     have h18bc1 := h18b.cell 1
     have h18bf1 := h18b.free 1
     go_wp2_with (at_builtin; refine wpList_append_lies _ rfl (.tmp 106) (.tmp 108) _ rfl wF.heap.size 39 i1 _ 2 24 Tryz.underlying31 HI1.out HA1.out HB1.out HC1.out rfl (by omega) u16 k (ics (LI.map zI)) rfl (own_after hO2 (b1 _ (.cells #[.bool (sg dz), .string (E dz.natAbs)] 39))) ⟨wy.heap.size, 0, none⟩ 1 1 [.bool (sg dz), .string (E dz.natAbs)] rfl rfl (Blk.new wy #[.bool (sg dz), .string (E dz.natAbs)] 39).cells (by simp [Value.oneCell']) (by omega) (by simp only [maxLen]; omega) (by omega) (by rw [World.size_alloc]; omega) (wy.heap.size + 1) (by simp) ?_; intro ga ca' wa hown hgrow hat hlt2)
     have hOA : ZOwn wa wF.heap.size (.slice (some ⟨ga, 0, none⟩) (k + 1) ca') (LI ++ [dz]) := by rw [ZOwn, List.length_append, hLE.out, ← ics_app]; exact hown
     rw [HDZ.out, ← HST.out] at hOA
     have hbA := (ba hbr2 (.cells #[.bool (sg dz), .string (E dz.natAbs)] 39)).grown hgrow (by rw [World.size_alloc]; omega) (fun x hx => (own_lt hO2 hx).2)
     clear hown hgrow hat hlt2 hO2 hbr2
     go_wp2
     go_roundw
     case rel => exact ⟨k + 1, by omega, by go_num, hOA, hbA⟩
     case measure => simp [intOf]; omega
    ·have hz := nzE h0
     have HDN : Hid (dz = sz) := by rw [Hid, HDZ.out, HSZ.out, difI, if_neg (by omega)]
     clear h0
     rw [← HDN.out] at h18
     obtain ⟨wy, hwy⟩ : ∃ wy, wy = wy0 := ⟨_, rfl⟩
     subst hwy
     have hszy := hbr2.size
     have hP2c0 := hP2.cell 0
     have hP2f0 := hP2.free 0
     have hP2c1 := hP2.cell 1
     have hP2f1 := hP2.free 1
     have hP2c2 := hP2.cell 2
     have hP2f2 := hP2.free 2
     have h18c0 := h18.cell 0
     have h18f0 := h18.free 0
     have h18c1 := h18.cell 1
     have h18f1 := h18.free 1
     go_wp2_with (at_builtin; refine wpList_append_lies _ rfl (.tmp 106) (.tmp 108) _ rfl wF.heap.size 39 i1 _ 2 24 Tryz.underlying31 HI1.out HA1.out HB1.out HC1.out rfl (by omega) u16 k (ics (LI.map zI)) rfl (own_after hO2 (b1 _ (.cells #[.bool (sg dz), .string (E dz.natAbs)] 39))) ⟨wy.heap.size, 0, none⟩ 1 1 [.bool (sg dz), .string (E dz.natAbs)] rfl rfl (Blk.new wy #[.bool (sg dz), .string (E dz.natAbs)] 39).cells (by simp [Value.oneCell']) (by omega) (by simp only [maxLen]; omega) (by omega) (by rw [World.size_alloc]; omega) (wy.heap.size + 1) (by simp) ?_; intro ga ca' wa hown hgrow hat hlt2)
     have hOA : ZOwn wa wF.heap.size (.slice (some ⟨ga, 0, none⟩) (k + 1) ca') (LI ++ [dz]) := by rw [ZOwn, List.length_append, hLE.out, ← ics_app]; exact hown
     rw [HDZ.out, ← HST.out] at hOA
     have hbA := (ba hbr2 (.cells #[.bool (sg dz), .string (E dz.natAbs)] 39)).grown hgrow (by rw [World.size_alloc]; omega) (fun x hx => (own_lt hO2 hx).2)
     clear hown hgrow hat hlt2 hO2 hbr2
     go_wp2
     go_roundw
     case rel => exact ⟨k + 1, by omega, by go_num, hOA, hbA⟩
     case measure => simp [intOf]; omega
  ·have HTK : Hid ((N.difs Xa Xb).take k = N.difs Xa Xb) := List.take_of_length_le (by rw [NSta.difs, List.length_map, List.length_range, ← HN2.out]; omega)
   rw [HTK.out] at hO
   have hs1 := hBW.size
   have hDlF := hD.lt
   replace hD := hD.after hbr
   have hneD : u16.ownBlock ≠ some (w.heap.size + 1 + 1 + 1 + 1) := fun e => by have := (own_lt hO e).2; omega
   have hP1c0 := hP1.cell 0
   have hP1f0 := hP1.free 0
   have hP1c1 := hP1.cell 1
   have hP1f1 := hP1.free 1
   have hP1c2 := hP1.cell 2
   have hP1f2 := hP1.free 2
   go_wp2_with fail
   refine (rifromS_c cd _ HCD2.out).mono ?_
   rintro e w12 ⟨rfl, hb12⟩
   clear hP1c0 hP1f0 hP1c1 hP1f1 hP1c2 hP1f2
   replace hD := hD.after hb12
   replace hO := own_after hO hb12
   replace hBW1 := bt hBW1 hb12
   clear hb12
   have hDl := hD.lt
   have hO9 := own_set (i := 1) (u := .string (E cd)) (own_set (i := 0) (u := .bool (sg (cd : Int))) hO hneD) hneD
   have hDc0 := hD.cell 0
   have hDf0 := hD.free 0
   have hDc1 := hD.cell 1
   have hDf1 := hD.free 1
   go_wp2
   refine bodyPost_ret (v := .tuple #[.agg #[.bool (sg (cd : Int)), .string (E cd)], u16, .int .i64 0]) ?_ rfl ⟨u16, by rw [sg_nat, HCD.out], ?_, ?_⟩
   ·simp [results, Tryz.results11, go_sem, hDc0, hDc1, hDl]
   ·exact own_mono hO9 hs1
   ·exact (hBW1.setCell (by first | (simp; omega) | simp) _).setCell (by first | (simp; omega) | simp) _

set_option maxHeartbeats 8000000 in
theorem rdiff_ok2 (N : NSta) (C K ca cb : Nat) (Fa Fb : List Nat) (Xa Xb : List Int) (s1 s2 s3 xa ya xb yb : Option Addr) (m1 m2 m3 d1 d2 d3 na pa ma qa nb pb mb qb : Nat) (w : World)
  (hm : NOk N) (hS : NAt w (.slice s1 m1 d1) (.slice s2 m2 d2) (.slice s3 m3 d3) N) (hfa : SsAt w (.slice xa na pa) (Fa.map E)) (hfb : SsAt w (.slice xb nb pb) (Fb.map E)) (hla : Fa.length ≤ 1000) (hlb : Fb.length ≤ 1000) (hca : ca < 256 ^ 128) (hcb : cb < 256 ^ 128)
  (hva : ∀ w', Below w.heap.size w w' → Calls Tryz.prog 35 #[.agg #[.string (E C), .string (E K)], .agg #[.slice s1 m1 d1, .slice s2 m2 d2, .slice s3 m3 d3], .agg #[.slice xa na pa, .string (E ca), .slice ya ma qa]] w' fun e w'' => e = .returned (.int .i64 0) ∧ Below w'.heap.size w' w'')
  (hvb : ∀ w', Below w.heap.size w w' → Calls Tryz.prog 35 #[.agg #[.string (E C), .string (E K)], .agg #[.slice s1 m1 d1, .slice s2 m2 d2, .slice s3 m3 d3], .agg #[.slice xb nb pb, .string (E cb), .slice yb mb qb]] w' fun e w'' => e = .returned (.int .i64 0) ∧ Below w'.heap.size w' w'')
  (hxa : ZsAt w (.slice ya ma qa) Xa) (hxb : ZsAt w (.slice yb mb qb) Xb) (hlxa : Xa.length = N.vars.length) (hlxb : Xb.length = N.vars.length) (hza : ∀ z ∈ Xa, z.natAbs < 256 ^ 64) (hzb : ∀ z ∈ Xb, z.natAbs < 256 ^ 64)
  (hmo : ModOkR N Xb Xa) (hf : Fa = Fb) (hcc : ca < cb) :
  Calls Tryz.prog 11 #[.agg #[.string (E C), .string (E K)], .agg #[.slice s1 m1 d1, .slice s2 m2 d2, .slice s3 m3 d3], .agg #[.slice xa na pa, .string (E ca), .slice ya ma qa], .agg #[.slice xb nb pb, .string (E cb), .slice yb mb qb]] w (DPost w (cb - ca) (N.difs Xb Xa)) := by
 have HVA := Lib.hid hva
 have HVB := Lib.hid hvb
 have HFA := Lib.hid hfa
 have HFB := Lib.hid hfb
 have HLA := Lib.hid hla
 have HLB := Lib.hid hlb
 have HCA := Lib.hid hca
 have HCB := Lib.hid hcb
 have HS0 := Lib.hid hS
 have HM := Lib.hid hm
 obtain ⟨i1, hi1, hz10, hz11, hz12⟩ := info_parts info_Int
 have HI1 := Lib.hid hi1
 have HA1 := Lib.hid hz10
 have HB1 := Lib.hid hz11
 have HC1 := Lib.hid hz12
 clear hi1 hz10 hz11 hz12
 have HXA := Lib.hid hxa
 have HXB := Lib.hid hxb
 have HLXA := Lib.hid hlxa
 have HLXB := Lib.hid hlxb
 have HMA : Hid (ma = N.vars.length) := by have h := RAt.len hxa; rw [List.length_map] at h; rw [Hid, h, hlxa]
 have HMB : Hid (mb = N.vars.length) := by have h := RAt.len hxb; rw [List.length_map] at h; rw [Hid, h, hlxb]
 have HN2 : Hid (m2 = N.vars.length) := by have h := RAt.len hS.v; rw [Hid, h]; simp [NSta.s]
 rw [← HN2.out] at HMA HMB
 have l2 : m2 ≤ 6 := by rw [HN2.out]; exact hm.nv
 have HZA := Lib.hid hza
 have HZB := Lib.hid hzb
 have HMODAB := Lib.hid hmo
 have HMODBA := Lib.hid hmo
 have HEQ := Lib.hid (decide_eq_true hf)
 have HGE : Hid (ca ≤ cb) := Nat.le_of_lt hcc
 have hcn := cmp_neg ca cb hcc
 have hx1 := cmpN_ne (show ca ≠ cb by omega)
 have hR := ((((Blk.new w #[.string (E C), .string (E K)] 24).alloc (.cells #[.slice s1 m1 d1, .slice s2 m2 d2, .slice s3 m3 d3] 29)).alloc (.cells #[.slice xa na pa, .string (E ca), .slice ya ma qa] 33)).alloc (.cells #[.slice xb nb pb, .string (E cb), .slice yb mb qb] 33)).alloc (.cells #[.bool false, .string { data := #[] }] 39)
 have hP := (((blkN (w := w.alloc (.cells #[.string (E C), .string (E K)] 24)) (cs := #[.slice s1 m1 d1, .slice s2 m2 d2, .slice s3 m3 d3]) (T := 29) (g := w.heap.size + 1) (by simp)).alloc (.cells #[.slice xa na pa, .string (E ca), .slice ya ma qa] 33)).alloc (.cells #[.slice xb nb pb, .string (E cb), .slice yb mb qb] 33)).alloc (.cells #[.bool false, .string { data := #[] }] 39)
 have hA := ((blkN (w := (w.alloc (.cells #[.string (E C), .string (E K)] 24)).alloc (.cells #[.slice s1 m1 d1, .slice s2 m2 d2, .slice s3 m3 d3] 29)) (cs := #[.slice xa na pa, .string (E ca), .slice ya ma qa]) (T := 33) (g := w.heap.size + 1 + 1) (by simp)).alloc (.cells #[.slice xb nb pb, .string (E cb), .slice yb mb qb] 33)).alloc (.cells #[.bool false, .string { data := #[] }] 39)
 have hB := (blkN (w := ((w.alloc (.cells #[.string (E C), .string (E K)] 24)).alloc (.cells #[.slice s1 m1 d1, .slice s2 m2 d2, .slice s3 m3 d3] 29)).alloc (.cells #[.slice xa na pa, .string (E ca), .slice ya ma qa] 33)) (cs := #[.slice xb nb pb, .string (E cb), .slice yb mb qb]) (T := 33) (g := w.heap.size + 1 + 1 + 1) (by simp)).alloc (.cells #[.bool false, .string { data := #[] }] 39)
 have hD := blkN (w := (((w.alloc (.cells #[.string (E C), .string (E K)] 24)).alloc (.cells #[.slice s1 m1 d1, .slice s2 m2 d2, .slice s3 m3 d3] 29)).alloc (.cells #[.slice xa na pa, .string (E ca), .slice ya ma qa] 33)).alloc (.cells #[.slice xb nb pb, .string (E cb), .slice yb mb qb] 33)) (cs := #[.bool false, .string { data := #[] }]) (T := 39) (g := w.heap.size + 1 + 1 + 1 + 1) (by simp)
 have hBW := ba (ba (b3 w (.cells #[.string (E C), .string (E K)] 24) (.cells #[.slice s1 m1 d1, .slice s2 m2 d2, .slice s3 m3 d3] 29) (.cells #[.slice xa na pa, .string (E ca), .slice ya ma qa] 33)) (.cells #[.slice xb nb pb, .string (E cb), .slice yb mb qb] 33)) (.cells #[.bool false, .string { data := #[] }] 39)
 clear hva hvb hfa hfb hla hlb hca hcb hS hm hxa hxb hlxa hlxb hza hzb hmo hf hcc
 have hRc0 := hR.cell 0
 have hRf0 := hR.free 0
 have hRc1 := hR.cell 1
 have hRf1 := hR.free 1
 have hPc0 := hP.cell 0
 have hPf0 := hP.free 0
 have hPc1 := hP.cell 1
 have hPf1 := hP.free 1
 have hPc2 := hP.cell 2
 have hPf2 := hP.free 2
 have hAc0 := hA.cell 0
 have hAf0 := hA.free 0
 have hAc1 := hA.cell 1
 have hAf1 := hA.free 1
 have hAc2 := hA.cell 2
 have hAf2 := hA.free 2
 have hBc0 := hB.cell 0
 have hBf0 := hB.free 0
 have hBc1 := hB.cell 1
 have hBf1 := hB.free 1
 have hBc2 := hB.cell 2
 have hBf2 := hB.free 2
 go_enter Tryz.func11, Tryz.ntmps11
 go_wp2_with fail
 refine (HVA.out _ hBW).mono ?_
 rintro e w7 ⟨rfl, hb7⟩
 clear hRc0 hRf0 hRc1 hRf1
 clear hPc0 hPf0 hPc1 hPf1 hPc2 hPf2
 clear hAc0 hAf0 hAc1 hAf1 hAc2 hAf2
 clear hBc0 hBf0 hBc1 hBf1 hBc2 hBf2
 replace hR := hR.after hb7
 replace hP := hP.after hb7
 replace hA := hA.after hb7
 replace hB := hB.after hb7
 replace hD := hD.after hb7
 replace hBW := bt hBW hb7
 clear hb7
 have hRl := hR.lt
 have hPl := hP.lt
 have hAl := hA.lt
 have hBl := hB.lt
 have hDl := hD.lt
 have hRc0 := hR.cell 0
 have hRf0 := hR.free 0
 have hRc1 := hR.cell 1
 have hRf1 := hR.free 1
 have hPc0 := hP.cell 0
 have hPf0 := hP.free 0
 have hPc1 := hP.cell 1
 have hPf1 := hP.free 1
 have hPc2 := hP.cell 2
 have hPf2 := hP.free 2
 have hAc0 := hA.cell 0
 have hAf0 := hA.free 0
 have hAc1 := hA.cell 1
 have hAf1 := hA.free 1
 have hAc2 := hA.cell 2
 have hAf2 := hA.free 2
 have hBc0 := hB.cell 0
 have hBf0 := hB.free 0
 have hBc1 := hB.cell 1
 have hBf1 := hB.free 1
 have hBc2 := hB.cell 2
 have hBf2 := hB.free 2
 go_wp2_with fail
 refine (HVB.out _ hBW).mono ?_
 rintro e w8 ⟨rfl, hb8⟩
 clear hRc0 hRf0 hRc1 hRf1
 clear hPc0 hPf0 hPc1 hPf1 hPc2 hPf2
 clear hAc0 hAf0 hAc1 hAf1 hAc2 hAf2
 clear hBc0 hBf0 hBc1 hBf1 hBc2 hBf2
 replace hR := hR.after hb8
 replace hP := hP.after hb8
 replace hA := hA.after hb8
 replace hB := hB.after hb8
 replace hD := hD.after hb8
 replace hBW := bt hBW hb8
 clear hb8
 clear hRl hPl hAl hBl hDl
 have hRl := hR.lt
 have hPl := hP.lt
 have hAl := hA.lt
 have hBl := hB.lt
 have hDl := hD.lt
 have hAc0 := hA.cell 0
 have hAf0 := hA.free 0
 have hAc1 := hA.cell 1
 have hAf1 := hA.free 1
 have hAc2 := hA.cell 2
 have hAf2 := hA.free 2
 have hBc0 := hB.cell 0
 have hBf0 := hB.free 0
 have hBc1 := hB.cell 1
 have hBf1 := hB.free 1
 have hBc2 := hB.cell 2
 have hBf2 := hB.free 2
 go_wp2_with fail
 refine (rcmp_c ca cb _ HCA.out HCB.out).mono ?_
 rintro e w9 ⟨rfl, hb9⟩
 clear hAc0 hAf0 hAc1 hAf1 hAc2 hAf2
 clear hBc0 hBf0 hBc1 hBf1 hBc2 hBf2
 replace hR := hR.after hb9
 replace hP := hP.after hb9
 replace hA := hA.after hb9
 replace hB := hB.after hb9
 replace hD := hD.after hb9
 replace hBW := bt hBW hb9
 clear hb9 hRl hPl hAl hBl hDl
 have hAl := hA.lt
 have hBl := hB.lt
 have hAc0 := hA.cell 0
 have hAf0 := hA.free 0
 have hAc1 := hA.cell 1
 have hAf1 := hA.free 1
 have hAc2 := hA.cell 2
 have hAf2 := hA.free 2
 have hBc0 := hB.cell 0
 have hBf0 := hB.free 0
 have hBc1 := hB.cell 1
 have hBf1 := hB.free 1
 have hBc2 := hB.cell 2
 have hBf2 := hB.free 2
 go_wp2_with fail
 refine (sameNats_cV Fa Fb _ _ true _ HLA.out HLB.out (SsAt.after HFA.out hBW) (SsAt.after HFB.out hBW) HEQ.out).mono ?_
 rintro e w8' ⟨rfl, hb8⟩
 clear hAc0 hAf0 hAc1 hAf1 hAc2 hAf2
 clear hBc0 hBf0 hBc1 hBf1 hBc2 hBf2
 replace hR := hR.after hb8
 replace hP := hP.after hb8
 replace hA := hA.after hb8
 replace hB := hB.after hb8
 replace hD := hD.after hb8
 replace hBW := bt hBW hb8
 clear hb8 hAl hBl
 have hAl := hA.lt
 have hBl := hB.lt
 have hDl := hD.lt
 have HLX : Hid (Xb.length = N.vars.length) := HLXB.out
 have HLY : Hid (Xa.length = N.vars.length) := HLXA.out
 have HLXM := HMB
 have HLYM := HMA
 have HZX0 := HZB
 have HZY0 := HZA
 have HMOD := HMODBA
 have nPA : w.heap.size + 1 ≠ w.heap.size + 1 + 1 := by omega
 have nPB : w.heap.size + 1 ≠ w.heap.size + 1 + 1 + 1 := by omega
 have nAB : w.heap.size + 1 + 1 ≠ w.heap.size + 1 + 1 + 1 := by omega
 have nBA : w.heap.size + 1 + 1 + 1 ≠ w.heap.size + 1 + 1 := by omega
 have nDA : w.heap.size + 1 + 1 + 1 + 1 ≠ w.heap.size + 1 + 1 := by omega
 have nDB : w.heap.size + 1 + 1 + 1 + 1 ≠ w.heap.size + 1 + 1 + 1 := by omega
 have lwA : w.heap.size ≤ w.heap.size + 1 + 1 := by omega
 have lwB : w.heap.size ≤ w.heap.size + 1 + 1 + 1 := by omega
 have hA9 : Blk ((((((w8'.setCell ⟨w.heap.size + 1 + 1, 0, none⟩ (.slice xb nb pb)).setCell ⟨w.heap.size + 1 + 1, 1, none⟩ (.string (E cb))).setCell ⟨w.heap.size + 1 + 1, 2, none⟩ (.slice yb mb qb)).setCell ⟨w.heap.size + 1 + 1 + 1, 0, none⟩ (.slice xa na pa)).setCell ⟨w.heap.size + 1 + 1 + 1, 1, none⟩ (.string (E ca))).setCell ⟨w.heap.size + 1 + 1 + 1, 2, none⟩ (.slice ya ma qa)) (w.heap.size + 1 + 1) 33 [.slice xb nb pb, .string (E cb), .slice yb mb qb] := (((((hA.set 0 _).set 1 _).set 2 _).other ⟨w.heap.size + 1 + 1 + 1, 0, none⟩ _ nAB).other ⟨w.heap.size + 1 + 1 + 1, 1, none⟩ _ nAB).other ⟨w.heap.size + 1 + 1 + 1, 2, none⟩ _ nAB
 have hB9 : Blk ((((((w8'.setCell ⟨w.heap.size + 1 + 1, 0, none⟩ (.slice xb nb pb)).setCell ⟨w.heap.size + 1 + 1, 1, none⟩ (.string (E cb))).setCell ⟨w.heap.size + 1 + 1, 2, none⟩ (.slice yb mb qb)).setCell ⟨w.heap.size + 1 + 1 + 1, 0, none⟩ (.slice xa na pa)).setCell ⟨w.heap.size + 1 + 1 + 1, 1, none⟩ (.string (E ca))).setCell ⟨w.heap.size + 1 + 1 + 1, 2, none⟩ (.slice ya ma qa)) (w.heap.size + 1 + 1 + 1) 33 [.slice xa na pa, .string (E ca), .slice ya ma qa] := (((((hB.other ⟨w.heap.size + 1 + 1, 0, none⟩ _ nBA).other ⟨w.heap.size + 1 + 1, 1, none⟩ _ nBA).other ⟨w.heap.size + 1 + 1, 2, none⟩ _ nBA).set 0 _).set 1 _).set 2 _
 have hP9 : Blk ((((((w8'.setCell ⟨w.heap.size + 1 + 1, 0, none⟩ (.slice xb nb pb)).setCell ⟨w.heap.size + 1 + 1, 1, none⟩ (.string (E cb))).setCell ⟨w.heap.size + 1 + 1, 2, none⟩ (.slice yb mb qb)).setCell ⟨w.heap.size + 1 + 1 + 1, 0, none⟩ (.slice xa na pa)).setCell ⟨w.heap.size + 1 + 1 + 1, 1, none⟩ (.string (E ca))).setCell ⟨w.heap.size + 1 + 1 + 1, 2, none⟩ (.slice ya ma qa)) (w.heap.size + 1) 29 [.slice s1 m1 d1, .slice s2 m2 d2, .slice s3 m3 d3] := (((((hP.other ⟨w.heap.size + 1 + 1, 0, none⟩ _ nPA).other ⟨w.heap.size + 1 + 1, 1, none⟩ _ nPA).other ⟨w.heap.size + 1 + 1, 2, none⟩ _ nPA).other ⟨w.heap.size + 1 + 1 + 1, 0, none⟩ _ nPB).other ⟨w.heap.size + 1 + 1 + 1, 1, none⟩ _ nPB).other ⟨w.heap.size + 1 + 1 + 1, 2, none⟩ _ nPB
 have hD9 : Blk ((((((w8'.setCell ⟨w.heap.size + 1 + 1, 0, none⟩ (.slice xb nb pb)).setCell ⟨w.heap.size + 1 + 1, 1, none⟩ (.string (E cb))).setCell ⟨w.heap.size + 1 + 1, 2, none⟩ (.slice yb mb qb)).setCell ⟨w.heap.size + 1 + 1 + 1, 0, none⟩ (.slice xa na pa)).setCell ⟨w.heap.size + 1 + 1 + 1, 1, none⟩ (.string (E ca))).setCell ⟨w.heap.size + 1 + 1 + 1, 2, none⟩ (.slice ya ma qa)) (w.heap.size + 1 + 1 + 1 + 1) 39 [.bool false, .string { data := #[] }] := (((((hD.other ⟨w.heap.size + 1 + 1, 0, none⟩ _ nDA).other ⟨w.heap.size + 1 + 1, 1, none⟩ _ nDA).other ⟨w.heap.size + 1 + 1, 2, none⟩ _ nDA).other ⟨w.heap.size + 1 + 1 + 1, 0, none⟩ _ nDB).other ⟨w.heap.size + 1 + 1 + 1, 1, none⟩ _ nDB).other ⟨w.heap.size + 1 + 1 + 1, 2, none⟩ _ nDB
 have hBWn : Below w.heap.size w ((((((w8'.setCell ⟨w.heap.size + 1 + 1, 0, none⟩ (.slice xb nb pb)).setCell ⟨w.heap.size + 1 + 1, 1, none⟩ (.string (E cb))).setCell ⟨w.heap.size + 1 + 1, 2, none⟩ (.slice yb mb qb)).setCell ⟨w.heap.size + 1 + 1 + 1, 0, none⟩ (.slice xa na pa)).setCell ⟨w.heap.size + 1 + 1 + 1, 1, none⟩ (.string (E ca))).setCell ⟨w.heap.size + 1 + 1 + 1, 2, none⟩ (.slice ya ma qa)) := (((((hBW.setCell (p := ⟨w.heap.size + 1 + 1, 0, none⟩) lwA _).setCell (p := ⟨w.heap.size + 1 + 1, 1, none⟩) lwA _).setCell (p := ⟨w.heap.size + 1 + 1, 2, none⟩) lwA _).setCell (p := ⟨w.heap.size + 1 + 1 + 1, 0, none⟩) lwB _).setCell (p := ⟨w.heap.size + 1 + 1 + 1, 1, none⟩) lwB _).setCell (p := ⟨w.heap.size + 1 + 1 + 1, 2, none⟩) lwB _
 clear nPA nPB nAB nBA nDA nDB lwA lwB
 have hAc0 := hA.cell 0
 have hAf0 := hA.free 0
 have hAc1 := hA.cell 1
 have hAf1 := hA.free 1
 have hAc2 := hA.cell 2
 have hAf2 := hA.free 2
 have hBc0 := hB.cell 0
 have hBf0 := hB.free 0
 have hBc1 := hB.cell 1
 have hBf1 := hB.free 1
 have hBc2 := hB.cell 2
 have hBf2 := hB.free 2
 go_wp2_with fail
 clear hAc0 hAf0 hAc1 hAf1 hAc2 hAf2
 clear hBc0 hBf0 hBc1 hBf1 hBc2 hBf2
 clear hA hB hP hD hBW hR hAl hBl hDl
 generalize ((((((w8'.setCell ⟨w.heap.size + 1 + 1, 0, none⟩ (.slice xb nb pb)).setCell ⟨w.heap.size + 1 + 1, 1, none⟩ (.string (E cb))).setCell ⟨w.heap.size + 1 + 1, 2, none⟩ (.slice yb mb qb)).setCell ⟨w.heap.size + 1 + 1 + 1, 0, none⟩ (.slice xa na pa)).setCell ⟨w.heap.size + 1 + 1 + 1, 1, none⟩ (.string (E ca))).setCell ⟨w.heap.size + 1 + 1 + 1, 2, none⟩ (.slice ya ma qa)) = w9x at hA9 hB9 hP9 hD9 hBWn ⊢
 have hA := hA9
 have hB := hB9
 have hP := hP9
 have hD := hD9
 have hBW := hBWn
 clear hA9 hB9 hP9 hD9 hBWn
 have hAl := hA.lt
 have hBl := hB.lt
 have hDl := hD.lt
 refine (rsubV_c cb ca (cb - ca) _ HCB.out HGE.out rfl).mono ?_
 rintro e w10 ⟨rfl, hb10⟩
 replace hP := hP.after hb10
 replace hA := hA.after hb10
 replace hB := hB.after hb10
 replace hD := hD.after hb10
 replace hBW := bt hBW hb10
 clear hb10
 obtain ⟨cd, hcd⟩ : ∃ c, c = cb - ca := ⟨_, rfl⟩
 rw [← hcd]
 have HCD := Lib.hid hcd
 have HCD2 : Hid (cd < 256 ^ 128) := by rw [Hid, hcd]; exact Nat.lt_of_le_of_lt (Nat.sub_le _ _) HCB.out
 clear hcd
 clear hAl hBl hDl
 go_wp2
 obtain ⟨wF, hwF⟩ : ∃ wF, wF = w10 := ⟨_, rfl⟩
 subst hwF
 go_loopw [16, 17] (fun v17 i wr => ∃ k : Nat, k ≤ m2 ∧ i = .int .i64 k ∧ ZOwn wr wF.heap.size v17 ((N.difs Xb Xa).take k) ∧ Below wF.heap.size wF wr) (fun _ i _ => m2 - (intOf i).toNat)
 case atStart => exact ⟨0, by omega, rfl, World.ownsRow_nil _ _ _ _, Below.refl _ _⟩
 case round =>
  obtain ⟨k, hk, rfl, hO, hbr⟩ := hrel
  obtain ⟨wq, hwq⟩ : ∃ wq, wq = wr := ⟨_, rfl⟩
  subst hwq
  have hBW1 := bt hBW hbr
  have hP1 := hP.after hbr
  have hA1 := hA.after hbr
  have hB1 := hB.after hbr
  have hPl := hP1.lt
  by_cases hlt : k < m2
  ·have hkl : k < N.vars.length := by rw [← HN2.out]; exact hlt
   have hkx : k < Xb.length := by rw [HLX.out]; exact hkl
   have hky : k < Xa.length := by rw [HLY.out]; exact hkl
   have HST := Lib.hid (difs_step N Xb Xa k hkl hkx hky)
   have HMD := Lib.hid (HMOD.out k hkl hkx hky)
   have HZX := Lib.hid (HZX0.out _ (List.getElem_mem hkx))
   have HZY := Lib.hid (HZY0.out _ (List.getElem_mem hky))
   have hS1 := HS0.out.after hBW1
   obtain ⟨b0, o0, rfl, hbl, vx1⟩ := NAt.vat hS1 hkl
   obtain ⟨bx, ox, rfl, hbx, x1⟩ := (HXB.out.after hBW1).at_ hkx
   obtain ⟨by', oy, rfl, hby, y1⟩ := (HXA.out.after hBW1).at_ hky
   obtain ⟨x1, x2⟩ := x1
   obtain ⟨y1, y2⟩ := y1
   generalize (N.vars[k]'hkl) = vb at vx1 HST HMD
   generalize (Xb[k]'hkx) = zx at x1 x2 HST HMD HZX
   generalize (Xa[k]'hky) = zy at y1 y2 HST HMD HZY
   obtain ⟨sz, hsz'⟩ : ∃ z, z = zx - zy := ⟨_, rfl⟩
   have HSZ := Lib.hid hsz'
   have HSB : Hid (sz.natAbs < 256 ^ 128) := by rw [Hid, hsz']; exact sub_fit HZX.out HZY.out
   have HSU : Hid (∀ w, Calls Tryz.prog 38 #[.agg #[.bool (sg (zx)), .string (E (zx).natAbs)], .agg #[.bool (sg (zy)), .string (E (zy).natAbs)]] w fun e w' => e = .returned (.tuple #[.agg #[.bool (sg (sz)), .string (E (sz).natAbs)], .int .i64 0]) ∧ Below w.heap.size w w') := fun w => by
    rw [hsz']; exact risub_c zx zy w (lt64 HZX.out) (lt64 HZY.out) (sub_fit HZX.out HZY.out)
   clear hsz'
   have h0k : (0 : Int) ≤ (k : Int) := by omega
   have h1k : (k : Int) < (m2 : Int) := by omega
   have h1x : (k : Int) < (mb : Int) := by rw [HLXM.out]; omega
   have h1y : (k : Int) < (ma : Int) := by rw [HLYM.out]; omega
   have hLE : Hid (((N.difs Xb Xa).take k).length = k) := by rw [Hid, List.length_take, NSta.difs, List.length_map, List.length_range]; omega
   obtain ⟨cl, hcl⟩ : ∃ l : List (Addr × Value), l = [(⟨w.heap.size + 1 + 1, 2, none⟩, .slice (some ⟨bx, ox, none⟩) mb qb), (⟨w.heap.size + 1 + 1 + 1, 2, none⟩, .slice (some ⟨by', oy, none⟩) ma qa), (⟨bx, ox + k * 2, none⟩, .bool (sg zx)), (⟨bx, ox + k * 2 + 1, none⟩, .string (E zx.natAbs)), (⟨by', oy + k * 2, none⟩, .bool (sg zy)), (⟨by', oy + k * 2 + 1, none⟩, .string (E zy.natAbs))] := ⟨_, rfl⟩
   have HCL := Lib.hid hcl
   clear hcl
   have hC : CA wq cl := by
    rw [HCL.out]
    exact CA.cons hA1.lt (hA1.cell 2) (CA.cons hB1.lt (hB1.cell 2) (CA.cons hbx x1 (CA.cons hbx x2 (CA.cons hby y1 (CA.cons hby y2 (CA.nil _))))))
   have hneA := fun x hx => Nat.ne_of_lt (hC x hx).1
   clear hS1 x1 x2 y1 y2 hbx hby hA1 hB1
   have hP1c0 := hP1.cell 0
   have hP1f0 := hP1.free 0
   have hP1c1 := hP1.cell 1
   have hP1f1 := hP1.free 1
   have hP1c2 := hP1.cell 2
   have hP1f2 := hP1.free 2
   go_upto_region 17 with fail
   clear hP1c0 hP1f0 hP1c1 hP1f1 hP1c2 hP1f2
   go_cut [18, 19] (fun s18 s19 wx => ZBox wq sz s18 s19 wx)
   case first =>
    go_region_held3 (fun w' => w'.cell? ⟨w.heap.size + 1 + 1, 2, none⟩ = some (.slice (some ⟨bx, ox, none⟩) mb qb) ∧ w'.cell? ⟨w.heap.size + 1 + 1 + 1, 2, none⟩ = some (.slice (some ⟨by', oy, none⟩) ma qa) ∧ w'.cell? ⟨bx, ox + k * 2, none⟩ = some (.bool (sg zx)) ∧ w'.cell? ⟨bx, ox + k * 2 + 1, none⟩ = some (.string (E zx.natAbs)) ∧ w'.cell? ⟨by', oy + k * 2, none⟩ = some (.bool (sg zy)) ∧ w'.cell? ⟨by', oy + k * 2 + 1, none⟩ = some (.string (E zy.natAbs))) ((refine CA.k6 ?_; rw [← HCL.out]; repeat (first | (with_reducible exact hCf) | (with_reducible exact hC) | (with_reducible refine CA.drew ?_) | (with_reducible refine CA.alloc ?_ _) | (refine CA.set ?_ _ _ _ hneA))))
     ((go_at_call 38; refine (HSU.out _).mono ?_; rintro e wf ⟨rfl, hbf⟩; have hCf : CA wf cl := (by first | exact hC.drew.after hbf | exact (hC.alloc _).drew.after hbf | exact (hC.drew.alloc _).after hbf); (try (have kA := (Blk.new wq #[.bool false, .string { data := #[] }] 39).drew.after hbf; have kA0 := kA.cell 0; have kA1 := kA.cell 1; have kA2 := kA.free 0; have kA3 := kA.free 1))))
    all_goals
     go_wp2_with fail
     go_meet
     first
      | exact ⟨_, rfl, rfl, Blk.new _ _ _, hbf.size, ba ((Below.drew (Below.refl _ _)).trans hbf) _⟩
      | exact ⟨_, rfl, rfl, (kA.set 0 _).set 1 _, Nat.le_refl _, ((bt ((b1 wq _).drew) hbf).setCell (by simp) _).setCell (by simp) _⟩
   case rest =>
    obtain ⟨g18, rfl, rfl, h18, hg18, hbz⟩ := hcut
    obtain ⟨wy0, hwy⟩ : ∃ wy, wy = wc := ⟨_, rfl⟩
    subst hwy
    clear hC hneA hPl
    have hO2 := own_after hO hbz
    have hbr2 := bt hbr hbz
    have hBW2 := bt hBW1 hbz
    have hP2 := hP1.after hbz
    replace vx1 := (hbz.cell (p := ⟨b0, o0 + k, none⟩) hbl).trans vx1
    replace hbl := Nat.lt_of_lt_of_le hbl hbz.size
    have hrow : ∀ g, u16.ownBlock = some g → g ≠ g18 := fun g hg e => by have := (own_lt hO hg).1; omega
    have h18l := h18.lt
    have hPl := hP2.lt
    rw [hLE.out] at hO2
    clear hbz hO hP1
    generalize (N.difs Xb Xa).take k = LI at hO2 HST hLE
    obtain ⟨dz, hdz⟩ : ∃ z, z = difI N.ord vb zx zy := ⟨_, rfl⟩
    have HDZ := Lib.hid hdz
    clear hdz
    rcases Nat.eq_zero_or_pos vb with rfl | h0
    ·have hz := zE (n := 0) rfl
     have HQ0 : Hid (0 < N.ord) := (HMD.out rfl).1
     have HDN : Hid (dz = ((sz % (N.ord : Int)).toNat : Int)) := by rw [Hid, HDZ.out, HSZ.out]; exact difI_mod (HMD.out rfl).1 (HMD.out rfl).2.2.2.1 (HMD.out rfl).2.2.2.2
     have HORD : Hid (∀ w', Below wy0.heap.size wy0 w' → Calls Tryz.prog 40 #[.agg #[.slice s1 m1 d1, .slice (some ⟨b0, o0, none⟩) m2 d2, .slice s3 m3 d3]] w' fun e w'' => e = .returned (.string (E N.ord)) ∧ Below w'.heap.size w' w'') := fun w' hb' => rorder15_c N _ _ _ w' HM.out (HS0.out.after (bt hBW2 hb'))
     obtain ⟨md, hmd⟩ : ∃ n, n = (sz % (N.ord : Int)).toNat := ⟨_, rfl⟩
     have HMDC : Hid (∀ w, Calls Tryz.prog 39 #[.agg #[.bool (sg (sz)), .string (E (sz).natAbs)], .string (E N.ord)] w fun e w' => e = .returned (.tuple #[.string (E md), .int .i64 0]) ∧ Below w.heap.size w w') := fun w => by
      rw [hmd]; exact rimod_c sz N.ord w HSB.out (lt128 (ord_lt HM.out)) HQ0.out
     have HMB : Hid (md < 256 ^ 128) := by rw [Hid, hmd]; exact Nat.lt_trans (emod_lt' sz HQ0.out) (lt128 (ord_lt HM.out))
     have HDM : Hid (dz = (md : Int)) := by rw [Hid, HDN.out, hmd]
     clear hmd
     have HFR : Hid (∀ w, Calls Tryz.prog 41 #[.string (E md)] w fun e w' => e = .returned (.agg #[.bool (sg (dz)), .string (E (dz).natAbs)]) ∧ Below w.heap.size w w') := fun w => by rw [HDM.out]; exact rifrom_c md w HMB.out
     have hP2c0 := hP2.cell 0
     have hP2f0 := hP2.free 0
     have hP2c1 := hP2.cell 1
     have hP2f1 := hP2.free 1
     have hP2c2 := hP2.cell 2
     have hP2f2 := hP2.free 2
     go_wp2_with fail
     clear hP2c0 hP2f0 hP2c1 hP2f1 hP2c2 hP2f2
     have h18c0 := h18.cell 0
     have h18f0 := h18.free 0
     have h18c1 := h18.cell 1
     have h18f1 := h18.free 1
     have hP2c0 := hP2.cell 0
     have hP2f0 := hP2.free 0
     have hP2c1 := hP2.cell 1
     have hP2f1 := hP2.free 1
     have hP2c2 := hP2.cell 2
     have hP2f2 := hP2.free 2
     have h18g0 := h18.gcell 0
     have h18g1 := h18.gcell 1
     have hP2g0 := hP2.gcell 0
     have hP2g1 := hP2.gcell 1
     have hP2g2 := hP2.gcell 2
     go_wp2_with fail
     refine wp_region_gw (by kernel_rfl) (by kernel_rfl) ?_
     repeat (go_big_quiet_step (first | (go_at_call 40; exact gw_of (HORD.out _ (gw_below _))) | (go_at_call 39; exact gw_of (HMDC.out _))))
     refine wpQuiet_nil ?_
     rintro w9 ⟨xw9, rfl⟩
     have hb9 := gw_below xw9
     generalize gw xw9 = w9 at hb9
     clear h18c0 h18f0 h18c1 h18f1
     clear hP2c0 hP2f0 hP2c1 hP2f1 hP2c2 hP2f2
     clear h18g0 h18g1
     clear hP2g0 hP2g1 hP2g2
     replace h18 := h18.after hb9
     replace hO2 := own_after hO2 hb9
     replace hbr2 := bt hbr2 hb9
     clear h18l hPl hP2 vx1 hbl hb9
     have h18l := h18.lt
     have h18c0 := h18.cell 0
     have h18f0 := h18.free 0
     have h18c1 := h18.cell 1
     have h18f1 := h18.free 1
     go_wp2_with fail
     refine (HFR.out _).mono ?_
     rintro e w11 ⟨rfl, hb11⟩
     clear h18c0 h18f0 h18c1 h18f1
     replace h18 := h18.after hb11
     replace hO2 := own_after hO2 hb11
     replace hbr2 := bt hbr2 hb11
     clear h18l hb11
     have h18l := h18.lt
     have hn18 : u16.ownBlock ≠ some g18 := fun e => hrow _ e rfl
     have h18b := (h18.set 0 (.bool (sg dz))).set 1 (.string (E dz.natAbs))
     have hO3 := own_set (i := 1) (u := .string (E dz.natAbs)) (own_set (i := 0) (u := .bool (sg dz)) hO2 hn18) hn18
     have hbr3 := (hbr2.setCell (p := ⟨g18, 0, none⟩) (by have := hbr.size; show _ ≤ g18; omega) (.bool (sg dz))).setCell (p := ⟨g18, 1, none⟩) (by have := hbr.size; show _ ≤ g18; omega) (.string (E dz.natAbs))
     have h18c0 := h18.cell 0
     have h18f0 := h18.free 0
     have h18c1 := h18.cell 1
     have h18f1 := h18.free 1
     go_upto_region 23 with fail
     clear h18c0 h18f0 h18c1 h18f1
     clear hO2 hbr2 h18 h18l
     generalize (w11.setCell ⟨g18, 0, none⟩ (.bool (sg dz))).setCell ⟨g18, 1, none⟩ (.string (E dz.natAbs)) = wy at h18b hO3 hbr3 ⊢
     have hO2 := hO3
     have hbr2 := hbr3
     replace h18b : Blk wy g18 39 [.bool (sg dz), .string (E dz.natAbs)] := h18b
     clear hO3 hbr3
     have h18l := h18b.lt
     have hszy := hbr2.size
     have h18bc0 := h18b.cell 0
     have h18bf0 := h18b.free 0
     have h18bc1 := h18b.cell 1
     have h18bf1 := h18b.free 1
     go_wp2_with (at_builtin; refine wpList_append_lies _ rfl (.tmp 106) (.tmp 108) _ rfl wF.heap.size 39 i1 _ 2 24 Tryz.underlying31 HI1.out HA1.out HB1.out HC1.out rfl (by omega) u16 k (ics (LI.map zI)) rfl (own_after hO2 (b1 _ (.cells #[.bool (sg dz), .string (E dz.natAbs)] 39))) ⟨wy.heap.size, 0, none⟩ 1 1 [.bool (sg dz), .string (E dz.natAbs)] rfl rfl (Blk.new wy #[.bool (sg dz), .string (E dz.natAbs)] 39).cells (by simp [Value.oneCell']) (by omega) (by simp only [maxLen]; omega) (by omega) (by rw [World.size_alloc]; omega) (wy.heap.size + 1) (by simp) ?_; intro ga ca' wa hown hgrow hat hlt2)
     have hOA : ZOwn wa wF.heap.size (.slice (some ⟨ga, 0, none⟩) (k + 1) ca') (LI ++ [dz]) := by rw [ZOwn, List.length_append, hLE.out, ← ics_app]; exact hown
     rw [HDZ.out, ← HST.out] at hOA
     have hbA := (ba hbr2 (.cells #[.bool (sg dz), .string (E dz.natAbs)] 39)).grown hgrow (by rw [World.size_alloc]; omega) (fun x hx => (own_lt hO2 hx).2)
     clear hown hgrow hat hlt2 hO2 hbr2
     go_wp2
     go_roundw
     case rel => exact ⟨k + 1, by omega, by go_num, hOA, hbA⟩
     case measure => simp [intOf]; omega
    ·have hz := nzE h0
     have HDN : Hid (dz = sz) := by rw [Hid, HDZ.out, HSZ.out, difI, if_neg (by omega)]
     clear h0
     rw [← HDN.out] at h18
     obtain ⟨wy, hwy⟩ : ∃ wy, wy = wy0 := ⟨_, rfl⟩
     subst hwy
     have hszy := hbr2.size
     have hP2c0 := hP2.cell 0
     have hP2f0 := hP2.free 0
     have hP2c1 := hP2.cell 1
     have hP2f1 := hP2.free 1
     have hP2c2 := hP2.cell 2
     have hP2f2 := hP2.free 2
     have h18c0 := h18.cell 0
     have h18f0 := h18.free 0
     have h18c1 := h18.cell 1
     have h18f1 := h18.free 1
     go_wp2_with (at_builtin; refine wpList_append_lies _ rfl (.tmp 106) (.tmp 108) _ rfl wF.heap.size 39 i1 _ 2 24 Tryz.underlying31 HI1.out HA1.out HB1.out HC1.out rfl (by omega) u16 k (ics (LI.map zI)) rfl (own_after hO2 (b1 _ (.cells #[.bool (sg dz), .string (E dz.natAbs)] 39))) ⟨wy.heap.size, 0, none⟩ 1 1 [.bool (sg dz), .string (E dz.natAbs)] rfl rfl (Blk.new wy #[.bool (sg dz), .string (E dz.natAbs)] 39).cells (by simp [Value.oneCell']) (by omega) (by simp only [maxLen]; omega) (by omega) (by rw [World.size_alloc]; omega) (wy.heap.size + 1) (by simp) ?_; intro ga ca' wa hown hgrow hat hlt2)
     have hOA : ZOwn wa wF.heap.size (.slice (some ⟨ga, 0, none⟩) (k + 1) ca') (LI ++ [dz]) := by rw [ZOwn, List.length_append, hLE.out, ← ics_app]; exact hown
     rw [HDZ.out, ← HST.out] at hOA
     have hbA := (ba hbr2 (.cells #[.bool (sg dz), .string (E dz.natAbs)] 39)).grown hgrow (by rw [World.size_alloc]; omega) (fun x hx => (own_lt hO2 hx).2)
     clear hown hgrow hat hlt2 hO2 hbr2
     go_wp2
     go_roundw
     case rel => exact ⟨k + 1, by omega, by go_num, hOA, hbA⟩
     case measure => simp [intOf]; omega
  ·have HTK : Hid ((N.difs Xb Xa).take k = N.difs Xb Xa) := List.take_of_length_le (by rw [NSta.difs, List.length_map, List.length_range, ← HN2.out]; omega)
   rw [HTK.out] at hO
   have hs1 := hBW.size
   have hDlF := hD.lt
   replace hD := hD.after hbr
   have hneD : u16.ownBlock ≠ some (w.heap.size + 1 + 1 + 1 + 1) := fun e => by have := (own_lt hO e).2; omega
   have hP1c0 := hP1.cell 0
   have hP1f0 := hP1.free 0
   have hP1c1 := hP1.cell 1
   have hP1f1 := hP1.free 1
   have hP1c2 := hP1.cell 2
   have hP1f2 := hP1.free 2
   go_wp2_with fail
   refine (rifromS_c cd _ HCD2.out).mono ?_
   rintro e w12 ⟨rfl, hb12⟩
   clear hP1c0 hP1f0 hP1c1 hP1f1 hP1c2 hP1f2
   replace hD := hD.after hb12
   replace hO := own_after hO hb12
   replace hBW1 := bt hBW1 hb12
   clear hb12
   have hDl := hD.lt
   have hO9 := own_set (i := 1) (u := .string (E cd)) (own_set (i := 0) (u := .bool (sg (cd : Int))) hO hneD) hneD
   have hDc0 := hD.cell 0
   have hDf0 := hD.free 0
   have hDc1 := hD.cell 1
   have hDf1 := hD.free 1
   go_wp2
   refine bodyPost_ret (v := .tuple #[.agg #[.bool (sg (cd : Int)), .string (E cd)], u16, .int .i64 0]) ?_ rfl ⟨u16, by rw [sg_nat, HCD.out], ?_, ?_⟩
   ·simp [results, Tryz.results11, go_sem, hDc0, hDc1, hDl]
   ·exact own_mono hO9 hs1
   ·exact (hBW1.setCell (by first | (simp; omega) | simp) _).setCell (by first | (simp; omega) | simp) _

end Go.Proofs.YtbcgimgkcdpjcaaGreat
end
