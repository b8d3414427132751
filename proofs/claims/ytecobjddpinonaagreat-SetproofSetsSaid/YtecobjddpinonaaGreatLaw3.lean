import Derived.Test.YtecobjddpinonaaGreatSet5
section
set_option linter.unusedVariables false
set_option linter.unusedSimpArgs false
set_option maxRecDepth 100000
namespace Go.Proofs.YtecobjddpinonaaGreat
open Go.RowKit

/-- the value of an opening minus another value, modulo the order -/
def distN (q : Nat) (a : Nat) (v : Int) : Nat := subM a (v % (q : Int)).toNat q

theorem strs0 (w : World) (ao : Option Addr) : StrsAt w ao ([] : List ByteArray) := .inl rfl

theorem emod_lt' (v : Int) (q : Nat) (h : 0 < q) : (v % (q : Int)).toNat < q := by
  have h1 := Int.emod_lt_of_pos v (show (0 : Int) < (q : Int) by omega)
  have h2 := Int.emod_nonneg v (show (q : Int) ≠ 0 by omega)
  omega

theorem i64_8 {v : Int} (h1 : -9223372036854775808 ≤ v) (h2 : v ≤ 9223372036854775807) : v.natAbs < 256 ^ 8 :=
  Nat.lt_of_le_of_lt (show v.natAbs ≤ 9223372036854775808 by omega) (by decide)

theorem subM_lt (a b m : Nat) (h : 0 < m) : subM a b m < m := Nat.mod_lt _ h

set_option maxHeartbeats 1600000 in
theorem distance_c (p q g h a : Nat) (sn sm : Bool) (r : ByteArray) (v : Int) (w : World) (hq : q < 256 ^ 8) (hq0 : 0 < q) (ha : a < 256 ^ 8) (h1 : -9223372036854775808 ≤ v) (h2 : v ≤ 9223372036854775807) :
    Calls Tryz.prog 42 #[.agg #[.string (E p), .string (E q), .string (E g), .string (E h)], .agg #[.bool sn, .string (E a), .bool sm, .string r], .int .i64 v] w fun e w' => e = .returned (.string (E (distN q a v))) ∧ Below w.heap.size w w' := by
  have HO := Lib.hid (fun w => iof_c v w h1 h2)
  have HM := Lib.hid (fun w => imod_c v q w (i64_8 h1 h2) (lt128 hq) hq0)
  have HS := Lib.hid (fun w => msub_c a (v % (q : Int)).toNat q w ha (Nat.lt_trans (emod_lt' v q hq0) hq) hq hq0)
  have HD : Hid (distN q a v = subM a (v % (q : Int)).toNat q) := rfl
  have hB := blk2a w #[Value.string (E p), Value.string (E q), Value.string (E g), Value.string (E h)] #[.bool sn, .string (E a), .bool sm, .string r] 26 47
  have hI := blk2b w #[Value.string (E p), Value.string (E q), Value.string (E g), Value.string (E h)] #[.bool sn, .string (E a), .bool sm, .string r] 26 47
  clear hq hq0 ha
  generalize (v % (q : Int)).toNat = vm at HM HS HD
  have hBg0 := hB.gcell 0
  have hBg1 := hB.gcell 1
  have hBg2 := hB.gcell 2
  have hBg3 := hB.gcell 3
  have hIg0 := hI.gcell 0
  have hIg1 := hI.gcell 1
  have hIg2 := hI.gcell 2
  have hIg3 := hI.gcell 3
  go_enter Tryz.func42, Tryz.ntmps42
  go_wp2_with fail
  refine wp_region_gw (by kernel_rfl) (by kernel_rfl) ?_
  repeat (go_big_quiet_step (first | (go_at_call 62; exact gw_of (HO.out _)) | (go_at_call 77; exact gw_of (HM.out _))))
  refine wpQuiet_nil ?_
  rintro w1 ⟨xw1, rfl⟩
  have hb1 := gw_below xw1
  generalize gw xw1 = w1 at hb1
  clear hBg0 hBg1 hBg2 hBg3
  clear hIg0 hIg1 hIg2 hIg3
  replace hB := hB.after hb1
  replace hI := hI.after hb1
  have hBc0 := hB.cell 0
  have hBf0 := hB.free 0
  have hBc1 := hB.cell 1
  have hBf1 := hB.free 1
  have hBc2 := hB.cell 2
  have hBf2 := hB.free 2
  have hBc3 := hB.cell 3
  have hBf3 := hB.free 3
  have hIc0 := hI.cell 0
  have hIf0 := hI.free 0
  have hIc1 := hI.cell 1
  have hIf1 := hI.free 1
  have hIc2 := hI.cell 2
  have hIf2 := hI.free 2
  have hIc3 := hI.cell 3
  have hIf3 := hI.free 3
  go_wp2_with fail
  refine (HS.out _).mono ?_
  rintro e w2 ⟨rfl, hb2⟩
  go_wp2
  go_ret
  exact ⟨rE HD.out.symm, bt (bt (b2 _ _ _) hb1) hb2⟩

set_option maxHeartbeats 1600000 in
theorem reduced_ok (p q g h a r : Nat) (w : World) (hp : p < 256 ^ 8) (hq : q < 256 ^ 8) (hgb : g < 256 ^ 128) (hhb : h < 256 ^ 128) (ha : a < q) (hr : r < q) (he : readyN p q g h [] = 0) :
    Calls Tryz.prog 41 #[.agg #[.string (E p), .string (E q), .string (E g), .string (E h)], .agg #[.bool false, .string (E a), .bool false, .string (E r)]] w fun e w' => e = .returned (.int .i64 0) ∧ Below w.heap.size w w' := by
  have HR := Lib.hid (fun (w' : World) => ready_num p q g h [] none 0 w' rfl (by omega) (by simp) (strs0 w' none) hp (lt128 hq) hgb hhb)
  rw [he] at HR
  have ha1 := lt128 (Nat.lt_trans ha hq)
  have hr1 := lt128 (Nat.lt_trans hr hq)
  have HVA := Lib.hid (fun w => ivalidT_c false a w ha1 (by have := ivB_I (a : Int) (by simpa using ha1); rwa [sg_nat, Int.natAbs_natCast] at this))
  have HVR := Lib.hid (fun w => ivalidT_c false r w hr1 (by have := ivB_I (r : Int) (by simpa using hr1); rwa [sg_nat, Int.natAbs_natCast] at this))
  have HCA := Lib.hid (fun w => cmp_c a q w ha1 (lt128 hq))
  have HCR := Lib.hid (fun w => cmp_c r q w hr1 (lt128 hq))
  have c1 := cmp_neg a q ha
  have c2 := cmp_neg r q hr
  have hB := blk2a w #[Value.string (E p), Value.string (E q), Value.string (E g), Value.string (E h)] #[.bool false, .string (E a), .bool false, .string (E r)] 26 47
  have hI := blk2b w #[Value.string (E p), Value.string (E q), Value.string (E g), Value.string (E h)] #[.bool false, .string (E a), .bool false, .string (E r)] 26 47
  have hBW := b2 w (.cells #[Value.string (E p), Value.string (E q), Value.string (E g), Value.string (E h)] 26) (.cells #[.bool false, .string (E a), .bool false, .string (E r)] 47)
  have i0 : ∀ w, (Instr.index 119 (.agg #[.bool false, .string (E a), .bool false, .string (E r)]) (.int .i64 0)).run Tryz.prog w = .ok (.agg #[.bool false, .string (E a)]) w := fun _ => by kernel_rfl
  have i1 : ∀ w, (Instr.index 119 (.agg #[.bool false, .string (E a), .bool false, .string (E r)]) (.int .i64 1)).run Tryz.prog w = .ok (.agg #[.bool false, .string (E r)]) w := fun _ => by kernel_rfl
  clear hp hq hgb hhb ha hr he ha1 hr1
  have hBc0 := hB.cell 0
  have hBf0 := hB.free 0
  have hBc1 := hB.cell 1
  have hBf1 := hB.free 1
  have hBc2 := hB.cell 2
  have hBf2 := hB.free 2
  have hBc3 := hB.cell 3
  have hBf3 := hB.free 3
  have hIc0 := hI.cell 0
  have hIf0 := hI.free 0
  have hIc1 := hI.cell 1
  have hIf1 := hI.free 1
  have hIc2 := hI.cell 2
  have hIf2 := hI.free 2
  have hIc3 := hI.cell 3
  have hIf3 := hI.free 3
  go_enter Tryz.func41, Tryz.ntmps41
  go_wp2_with fail
  refine (HVA.out _).mono ?_
  rintro e w1 ⟨rfl, hb1⟩
  clear hBc0 hBf0 hBc1 hBf1 hBc2 hBf2 hBc3 hBf3
  clear hIc0 hIf0 hIc1 hIf1 hIc2 hIf2 hIc3 hIf3
  replace hB := hB.after hb1
  replace hI := hI.after hb1
  have hBc0 := hB.cell 0
  have hBf0 := hB.free 0
  have hBc1 := hB.cell 1
  have hBf1 := hB.free 1
  have hBc2 := hB.cell 2
  have hBf2 := hB.free 2
  have hBc3 := hB.cell 3
  have hBf3 := hB.free 3
  have hIc0 := hI.cell 0
  have hIf0 := hI.free 0
  have hIc1 := hI.cell 1
  have hIf1 := hI.free 1
  have hIc2 := hI.cell 2
  have hIf2 := hI.free 2
  have hIc3 := hI.cell 3
  have hIf3 := hI.free 3
  go_wp2_with fail
  refine (HVR.out _).mono ?_
  rintro e w2 ⟨rfl, hb2⟩
  clear hBc0 hBf0 hBc1 hBf1 hBc2 hBf2 hBc3 hBf3
  clear hIc0 hIf0 hIc1 hIf1 hIc2 hIf2 hIc3 hIf3
  replace hB := hB.after hb2
  replace hI := hI.after hb2
  have hBc0 := hB.cell 0
  have hBf0 := hB.free 0
  have hBc1 := hB.cell 1
  have hBf1 := hB.free 1
  have hBc2 := hB.cell 2
  have hBf2 := hB.free 2
  have hBc3 := hB.cell 3
  have hBf3 := hB.free 3
  have hIc0 := hI.cell 0
  have hIf0 := hI.free 0
  have hIc1 := hI.cell 1
  have hIf1 := hI.free 1
  have hIc2 := hI.cell 2
  have hIf2 := hI.free 2
  have hIc3 := hI.cell 3
  have hIf3 := hI.free 3
  go_wp2_with fail
  refine (HR.out _).mono ?_
  rintro e w3 ⟨rfl, hb3⟩
  clear hBc0 hBf0 hBc1 hBf1 hBc2 hBf2 hBc3 hBf3
  clear hIc0 hIf0 hIc1 hIf1 hIc2 hIf2 hIc3 hIf3
  replace hB := hB.after hb3
  replace hI := hI.after hb3
  replace hBW := bt (bt (bt hBW hb1) hb2) hb3
  clear hb1 hb2 hb3
  have hBc0 := hB.cell 0
  have hBf0 := hB.free 0
  have hBc1 := hB.cell 1
  have hBf1 := hB.free 1
  have hBc2 := hB.cell 2
  have hBf2 := hB.free 2
  have hBc3 := hB.cell 3
  have hBf3 := hB.free 3
  have hIc0 := hI.cell 0
  have hIf0 := hI.free 0
  have hIc1 := hI.cell 1
  have hIf1 := hI.free 1
  have hIc2 := hI.cell 2
  have hIf2 := hI.free 2
  have hIc3 := hI.cell 3
  have hIf3 := hI.free 3
  go_wp2
  clear hBc0 hBf0 hBc1 hBf1 hBc2 hBf2 hBc3 hBf3
  clear hIc0 hIf0 hIc1 hIf1 hIc2 hIf2 hIc3 hIf3
  go_loopw [28, 7] (fun i _ wr => (i = .int .i64 0 ∨ i = .int .i64 1 ∨ i = .int .i64 2) ∧ Below w3.heap.size w3 wr) (fun i _ _ => 2 - (intOf i).toNat)
  case atStart => exact ⟨.inl rfl, Below.refl _ _⟩
  case round =>
    obtain ⟨hi, hbr⟩ := hrel
    obtain ⟨wp, hwp⟩ : ∃ wp, wp = wr := ⟨_, rfl⟩
    subst hwp
    replace hB := hB.after hbr
    have hl : w.heap.size < wp.heap.size := hB.lt
    have hBc0 := hB.cell 0
    have hBf0 := hB.free 0
    have hBc1 := hB.cell 1
    have hBf1 := hB.free 1
    have hBc2 := hB.cell 2
    have hBf2 := hB.free 2
    have hBc3 := hB.cell 3
    have hBf3 := hB.free 3
    rcases hi with rfl | rfl | rfl
    · go_wp2_with fail
      refine (HCA.out _).mono ?_
      rintro e w' ⟨rfl, rfl⟩
      go_wp2
      go_roundw
      case rel => exact ⟨.inr (.inl rfl), ba hbr _⟩
      case measure => simp [intOf]
    · go_wp2_with fail
      refine (HCR.out _).mono ?_
      rintro e w' ⟨rfl, rfl⟩
      go_wp2
      go_roundw
      case rel => exact ⟨.inr (.inr rfl), ba hbr _⟩
      case measure => simp [intOf]
    · go_wp2
      go_ret
      exact ⟨rfl, bt hBW hbr⟩

/-- where a list of integers lies, made of two -/
def WitPost (w : World) (x y : Nat) (e : Ending) (w' : World) : Prop :=
  ∃ b : Nat, e = .returned (.tuple #[.slice (some ⟨b, 0, none⟩) 2 2, .int .i64 0]) ∧ Blk w' b 45 [.bool (sg (x : Int)), .string (E x), .bool (sg (y : Int)), .string (E y)] ∧ Below w.heap.size w w'

set_option maxHeartbeats 1600000 in
theorem notwit_ok (p q g h a r d : Nat) (v : Int) (w : World) (hp : p < 256 ^ 8) (hq : q < 256 ^ 8) (hgb : g < 256 ^ 128) (hhb : h < 256 ^ 128) (ha : a < q) (hr : r < q) (he : readyN p q g h [] = 0) (h1 : -9223372036854775808 ≤ v) (h2 : v ≤ 9223372036854775807)
    (hd : distN q a v = d) (hd0 : 0 < d) (hco : Nat.gcd d q = 1) :
    Calls Tryz.prog 18 #[.agg #[.string (E p), .string (E q), .string (E g), .string (E h)], .agg #[.bool false, .string (E a), .bool false, .string (E r)], .int .i64 v] w (WitPost w (invN (d % q) q) (subM 0 (invN (d % q) q * r % q) q)) := by
  have hq0 : 0 < q := by omega
  have hdq : d < 256 ^ 8 := by rw [← hd]; exact Nat.lt_trans (subM_lt _ _ _ hq0) hq
  have HRD := Lib.hid (fun w => reduced_ok p q g h a r w hp hq hgb hhb ha hr he)
  have HD := Lib.hid (fun w => distance_c p q g h a false false (E r) v w hq hq0 (Nat.lt_trans ha hq) h1 h2)
  rw [hd] at HD
  have HI := Lib.hid (fun w => minv_c d q w hdq hq hq0 hco)
  have hil := invN_lt (d % q) q hq0
  generalize invN (d % q) q = y at HI hil
  have HM := Lib.hid (fun w => mmul_c y r q w (Nat.lt_trans hil hq) (Nat.lt_trans hr hq) hq hq0)
  have hzl := Nat.mod_lt (y * r) hq0
  generalize y * r % q = u at HM hzl
  have HS : Hid (∀ w : World, Calls Tryz.prog 45 #[.string { data := #[] }, .string (E u), .string (E q)] w fun e w' => e = .returned (.tuple #[.string (E (subM 0 u q)), .int .i64 0]) ∧ Below w.heap.size w w') := fun w => msub_c 0 u q w (by decide) (Nat.lt_trans hzl hq) hq hq0
  have hsl := subM_lt 0 u q hq0
  generalize subM 0 u q = z at HS hsl
  have HFY := Lib.hid (fun w => ifromS_c y w (lt128 (Nat.lt_trans hil hq)))
  have HFZ := Lib.hid (fun w => ifromS_c z w (lt128 (Nat.lt_trans hsl hq)))
  have hzd := nzE hd0
  have hB := blk2a w #[Value.string (E p), Value.string (E q), Value.string (E g), Value.string (E h)] #[.bool false, .string (E a), .bool false, .string (E r)] 26 47
  have hI := blk2b w #[Value.string (E p), Value.string (E q), Value.string (E g), Value.string (E h)] #[.bool false, .string (E a), .bool false, .string (E r)] 26 47
  have hBW := b2 w (.cells #[Value.string (E p), Value.string (E q), Value.string (E g), Value.string (E h)] 26) (.cells #[.bool false, .string (E a), .bool false, .string (E r)] 47)
  clear hp hq hgb hhb ha hr he hd hd0 hco hq0 hdq hil hzl hsl
  have hBc0 := hB.cell 0
  have hBf0 := hB.free 0
  have hBc1 := hB.cell 1
  have hBf1 := hB.free 1
  have hBc2 := hB.cell 2
  have hBf2 := hB.free 2
  have hBc3 := hB.cell 3
  have hBf3 := hB.free 3
  have hIc0 := hI.cell 0
  have hIf0 := hI.free 0
  have hIc1 := hI.cell 1
  have hIf1 := hI.free 1
  have hIc2 := hI.cell 2
  have hIf2 := hI.free 2
  have hIc3 := hI.cell 3
  have hIf3 := hI.free 3
  go_enter Tryz.func18, Tryz.ntmps18
  go_wp2_with fail
  refine (HRD.out _).mono ?_
  rintro e w1 ⟨rfl, hb1⟩
  clear hBc0 hBf0 hBc1 hBf1 hBc2 hBf2 hBc3 hBf3
  clear hIc0 hIf0 hIc1 hIf1 hIc2 hIf2 hIc3 hIf3
  replace hB := hB.after hb1
  replace hI := hI.after hb1
  have hBc0 := hB.cell 0
  have hBf0 := hB.free 0
  have hBc1 := hB.cell 1
  have hBf1 := hB.free 1
  have hBc2 := hB.cell 2
  have hBf2 := hB.free 2
  have hBc3 := hB.cell 3
  have hBf3 := hB.free 3
  have hIc0 := hI.cell 0
  have hIf0 := hI.free 0
  have hIc1 := hI.cell 1
  have hIf1 := hI.free 1
  have hIc2 := hI.cell 2
  have hIf2 := hI.free 2
  have hIc3 := hI.cell 3
  have hIf3 := hI.free 3
  go_wp2_with fail
  refine (HD.out _).mono ?_
  rintro e w2 ⟨rfl, hb2⟩
  go_wp2_with fail
  refine (HI.out _).mono ?_
  rintro e w3 ⟨rfl, hb3⟩
  clear hBc0 hBf0 hBc1 hBf1 hBc2 hBf2 hBc3 hBf3
  clear hIc0 hIf0 hIc1 hIf1 hIc2 hIf2 hIc3 hIf3
  replace hB := hB.after hb2
  replace hI := hI.after hb2
  replace hB := hB.after hb3
  replace hI := hI.after hb3
  have hBc0 := hB.cell 0
  have hBf0 := hB.free 0
  have hBc1 := hB.cell 1
  have hBf1 := hB.free 1
  have hBc2 := hB.cell 2
  have hBf2 := hB.free 2
  have hBc3 := hB.cell 3
  have hBf3 := hB.free 3
  have hIc0 := hI.cell 0
  have hIf0 := hI.free 0
  have hIc1 := hI.cell 1
  have hIf1 := hI.free 1
  have hIc2 := hI.cell 2
  have hIf2 := hI.free 2
  have hIc3 := hI.cell 3
  have hIf3 := hI.free 3
  go_wp2_with fail
  refine (HM.out _).mono ?_
  rintro e w4 ⟨rfl, hb4⟩
  go_wp2_with fail
  refine (HS.out _).mono ?_
  rintro e w5 ⟨rfl, hb5⟩
  go_wp2_with fail
  refine (HFY.out _).mono ?_
  rintro e w6 ⟨rfl, hb6⟩
  go_wp2_with fail
  refine (HFZ.out _).mono ?_
  rintro e w7 ⟨rfl, hb7⟩
  go_wp2
  go_ret2
  exact ⟨w7.heap.size, rfl, Blk.new _ _ _, ba (bt (bt (bt (bt (bt (bt (bt hBW hb1) hb2) hb3) hb4) hb5) hb6) hb7) _⟩

end Go.Proofs.YtecobjddpinonaaGreat
end

section
set_option linter.unusedVariables false
set_option linter.unusedSimpArgs false
set_option maxRecDepth 100000
namespace Go.Proofs.YtecobjddpinonaaGreat
open Go.RowKit

set_option maxHeartbeats 800000 in
theorem key_c (w : World) : Calls Tryz.prog 32 #[] w fun e w' => e = .returned (.agg #[.string (E 23), .string (E 11), .string (E 4), .string (E 9)]) ∧ Below w.heap.size w w' := by
  go_enter Tryz.func32, Tryz.ntmps32
  go_wp2
  refine bodyPost_ret (v := .agg #[.string { data := #[23] }, .string { data := #[11] }, .string { data := #[4] }, .string { data := #[9] }]) ?_ rfl ⟨rfl, ?_⟩
  · simp [results, Tryz.results32, go_sem]
  · exact b1 _ _

set_option maxHeartbeats 1600000 in
theorem seq2_c (b1' b2' x y : Nat) (w : World) (hA : Blk w b1' 45 [.bool (sg (x : Int)), .string (E x), .bool (sg (y : Int)), .string (E y)]) (hB : Blk w b2' 45 [.bool false, .string (E x), .bool false, .string (E y)]) :
    Calls Tryz.prog 20 #[.slice (some ⟨b1', 0, none⟩) 2 2, .slice (some ⟨b2', 0, none⟩) 2 2] w fun e w' => e = .returned (.bool true) ∧ Below w.heap.size w w' := by
  rw [sg_nat, sg_nat] at hA
  go_enter Tryz.func20, Tryz.ntmps20
  go_wp2
  go_loopw [13] (fun i wr => (i = .int .i64 0 ∨ i = .int .i64 1 ∨ i = .int .i64 2) ∧ Below w.heap.size w wr) (fun i _ => 2 - (intOf i).toNat)
  case atStart => exact ⟨.inl rfl, Below.refl _ _⟩
  case round =>
    obtain ⟨hi, hbr⟩ := hrel
    obtain ⟨wp, hwp⟩ : ∃ wp, wp = wr := ⟨_, rfl⟩
    subst hwp
    replace hA := hA.after hbr
    replace hB := hB.after hbr
    have hAg0 := hA.gcell 0
    have hAg1 := hA.gcell 1
    have hAg2 := hA.gcell 2
    have hAg3 := hA.gcell 3
    have hBg0 := hB.gcell 0
    have hBg1 := hB.gcell 1
    have hBg2 := hB.gcell 2
    have hBg3 := hB.gcell 3
    rcases hi with rfl | rfl | rfl
    · go_wp2_with fail
      go_wp2_with fail
      refine wp_region_gw (by kernel_rfl) (by kernel_rfl) ?_
      repeat (go_big_quiet_step (first | (fail)))
      refine wpQuiet_nil ?_
      rintro w2 ⟨xw2, rfl⟩
      have hb2 := gw_below xw2
      generalize gw xw2 = w2 at hb2
      go_wp2
      go_roundw
      case rel => exact ⟨.inr (.inl rfl), bt hbr hb2⟩
      case measure => simp [intOf]
    · go_wp2_with fail
      go_wp2_with fail
      refine wp_region_gw (by kernel_rfl) (by kernel_rfl) ?_
      repeat (go_big_quiet_step (first | (fail)))
      refine wpQuiet_nil ?_
      rintro w2 ⟨xw2, rfl⟩
      have hb2 := gw_below xw2
      generalize gw xw2 = w2 at hb2
      go_wp2
      go_roundw
      case rel => exact ⟨.inr (.inr rfl), bt hbr hb2⟩
      case measure => simp [intOf]
    · go_wp2
      go_ret
      exact ⟨rfl, hbr⟩

theorem rd1 : readyN 23 11 4 9 [9] = 0 := by decide
theorem rd0 : readyN 23 11 4 9 [] = 0 := by decide
theorem pe0 : pedE 23 11 4 9 = 0 := by decide
theorem hb9 : hasB 23 11 9 = true := by decide
theorem hb4 : hasB 23 11 4 = true := by decide
theorem sh3 : shiftN 23 9 4 (-3) = 12 := by decide
theorem sh4 : shiftN 23 9 4 (-4) = 3 := by decide
theorem sh1 : shiftN 23 9 4 (-1) = 8 := by decide
theorem ds1 : distN 11 3 1 = 2 := by decide
theorem wi1 : invN (2 % 11) 11 = 6 := by decide
theorem wi2 : subM 0 (invN (2 % 11) 11 * 2 % 11) 11 = 10 := by decide

theorem aeq3 (w : World) : Calls Tryz.prog 9 #[.agg #[.string (E 23), .string (E 11), .string (E 4), .string (E 9)], .string { data := #[9] }, .int .i64 3] w (ResPost w 23 11 12 [9]) := by
  have := equal_ok 23 11 4 9 9 3 w (by decide) (by decide) (by decide) (by decide) (by decide) (by decide) (by decide) rd1 pe0 hb9 hb4
  rw [sh3] at this
  exact this
theorem aeq4 (w : World) : Calls Tryz.prog 9 #[.agg #[.string (E 23), .string (E 11), .string (E 4), .string (E 9)], .string { data := #[9] }, .int .i64 4] w (ResPost w 23 11 3 [9]) := by
  have := equal_ok 23 11 4 9 9 4 w (by decide) (by decide) (by decide) (by decide) (by decide) (by decide) (by decide) rd1 pe0 hb9 hb4
  rw [sh4] at this
  exact this
theorem anot1 (w : World) : Calls Tryz.prog 11 #[.agg #[.string (E 23), .string (E 11), .string (E 4), .string (E 9)], .string { data := #[9] }, .int .i64 1] w (ResPost w 23 11 4 [8, 9]) := by
  have := nots_ok 23 11 4 9 9 1 w (by decide) (by decide) (by decide) (by decide) (by decide) (by decide) (by decide) rd1 pe0 hb9 hb4
  rw [sh1] at this
  exact this
theorem awit (w : World) : Calls Tryz.prog 18 #[.agg #[.string (E 23), .string (E 11), .string (E 4), .string (E 9)], .agg #[.bool false, .string { data := #[3] }, .bool false, .string { data := #[2] }], .int .i64 1] w (WitPost w 6 10) := by
  have := notwit_ok 23 11 4 9 3 2 2 1 w (by decide) (by decide) (by decide) (by decide) (by decide) (by decide) rd0 (by decide) (by decide) ds1 (by decide) (by decide)
  rw [wi2, wi1] at this
  exact this

end Go.Proofs.YtecobjddpinonaaGreat
end

section
set_option linter.unusedVariables false
set_option linter.unusedSimpArgs false
set_option maxRecDepth 100000
namespace Go.Proofs.YtecobjddpinonaaGreat
open Go.RowKit

/-- a boxed statement whose equation is known -/
structure Bst (w : World) (b g3 g4 c3 c4 : Nat) (t n x : Nat) : Prop where
  lb : b < w.heap.size
  l3 : g3 < w.heap.size
  l4 : g4 < w.heap.size
  s : w.cell? ⟨b, 2, none⟩ = some (.slice (some ⟨g3, 0, none⟩) 1 c3)
  e1 : w.cell? ⟨g3, 1, none⟩ = some (.string (E t))
  e2 : w.cell? ⟨g3, 2, none⟩ = some (.slice (some ⟨g4, 0, none⟩) n c4)
  t0 : w.cell? ⟨g4, 0, none⟩ = some (.string (E x))

theorem Bst.after {w w' : World} {b g3 g4 c3 c4 t n x : Nat} (h : Bst w b g3 g4 c3 c4 t n x) (hb : Below w.heap.size w w') : Bst w' b g3 g4 c3 c4 t n x :=
  ⟨Nat.lt_of_lt_of_le h.lb hb.size, Nat.lt_of_lt_of_le h.l3 hb.size, Nat.lt_of_lt_of_le h.l4 hb.size, (hb.cell (p := ⟨b, 2, none⟩) h.lb).trans h.s,
   (hb.cell (p := ⟨g3, 1, none⟩) h.l3).trans h.e1, (hb.cell (p := ⟨g3, 2, none⟩) h.l3).trans h.e2, (hb.cell (p := ⟨g4, 0, none⟩) h.l4).trans h.t0⟩

theorem Bst.of {w : World} {g1 g2 g3 g4 c1 c2 c3 c4 p q t x n : Nat} {B : List Nat} (h : Stm w g1 g2 g3 g4 c4 p q t B) (hn : B.length = n) (hx : B.head? = some x) :
    Bst (w.alloc (.cells #[.slice (some ⟨g1, 0, none⟩) 1 c1, .slice (some ⟨g2, 0, none⟩) n c2, .slice (some ⟨g3, 0, none⟩) 1 c3] 33)) w.heap.size g3 g4 c3 c4 t n x := by
  have h2 := h.after (b1 w (.cells #[.slice (some ⟨g1, 0, none⟩) 1 c1, .slice (some ⟨g2, 0, none⟩) n c2, .slice (some ⟨g3, 0, none⟩) 1 c3] 33))
  have hB := Blk.new w #[.slice (some ⟨g1, 0, none⟩) 1 c1, .slice (some ⟨g2, 0, none⟩) n c2, .slice (some ⟨g3, 0, none⟩) 1 c3] 33
  have he2 := h2.e2
  rw [hn] at he2
  refine ⟨hB.lt, h2.l3, h2.l4, hB.cell 2, h2.e1, he2, ?_⟩
  cases B with
  | nil => simp at hx
  | cons y l =>
    have := h2.t0 0 (by simp)
    simp at hx
    subst hx
    simpa using this

set_option maxHeartbeats 4000000 in
theorem awake_c (w : World) : Calls Tryz.prog 8 #[] w fun e w' => e = .returned (.bool true) ∧ Below w.heap.size w w' := by
  have hO := Blk.new w #[.bool false, .string { data := #[3] }, .bool false, .string { data := #[2] }] 47
  have hBW := b1 w (.cells #[.bool false, .string { data := #[3] }, .bool false, .string { data := #[2] }] 47)
  have HK := Lib.hid key_c
  have HE3 := Lib.hid aeq3
  have HE4 := Lib.hid aeq4
  have HN1 := Lib.hid anot1
  have HW := Lib.hid awit
  go_enter Tryz.func8, Tryz.ntmps8
  go_wp2_with fail
  generalize w.alloc (.cells #[.bool false, .string { data := #[3] }, .bool false, .string { data := #[2] }] 47) = wo at hO hBW
  obtain ⟨bo, hbo⟩ : ∃ bo, w.heap.size = bo := ⟨_, rfl⟩
  rw [hbo] at hO ⊢
  clear hbo
  refine (HK.out _).mono ?_
  rintro e w3a ⟨rfl, hb3a⟩
  go_wp2_with fail
  refine (HE3.out _).mono ?_
  rintro e w3b ⟨g13, g23, g33, g43, c13, c23, c33, c43, rfl, hs3, hb3b⟩
  go_wp2_with fail
  have hA3 := Bst.of (c1 := c13) (c2 := c23) (c3 := c33) hs3 rfl rfl
  replace hBW := ba (bt (bt hBW hb3a) hb3b) (.cells #[.slice (some ⟨g13, 0, none⟩) 1 c13, .slice (some ⟨g23, 0, none⟩) 1 c23, .slice (some ⟨g33, 0, none⟩) 1 c33] 33)
  replace hO := ((hO.after hb3a).after hb3b).alloc (.cells #[.slice (some ⟨g13, 0, none⟩) 1 c13, .slice (some ⟨g23, 0, none⟩) 1 c23, .slice (some ⟨g33, 0, none⟩) 1 c33] 33)
  clear hb3a hb3b hs3
  generalize w3b.alloc (.cells #[.slice (some ⟨g13, 0, none⟩) 1 c13, .slice (some ⟨g23, 0, none⟩) 1 c23, .slice (some ⟨g33, 0, none⟩) 1 c33] 33) = w3c at hA3 hBW hO
  obtain ⟨bs3, hbs⟩ : ∃ b, w3b.heap.size = b := ⟨_, rfl⟩
  rw [hbs] at hA3 ⊢
  clear hbs
  refine (HK.out _).mono ?_
  rintro e w4a ⟨rfl, hb4a⟩
  go_wp2_with fail
  refine (HE4.out _).mono ?_
  rintro e w4b ⟨g14, g24, g34, g44, c14, c24, c34, c44, rfl, hs4, hb4b⟩
  go_wp2_with fail
  have hA4 := Bst.of (c1 := c14) (c2 := c24) (c3 := c34) hs4 rfl rfl
  replace hBW := ba (bt (bt hBW hb4a) hb4b) (.cells #[.slice (some ⟨g14, 0, none⟩) 1 c14, .slice (some ⟨g24, 0, none⟩) 1 c24, .slice (some ⟨g34, 0, none⟩) 1 c34] 33)
  replace hO := ((hO.after hb4a).after hb4b).alloc (.cells #[.slice (some ⟨g14, 0, none⟩) 1 c14, .slice (some ⟨g24, 0, none⟩) 1 c24, .slice (some ⟨g34, 0, none⟩) 1 c34] 33)
  replace hA3 := ((hA3.after hb4a).after hb4b).after (b1 _ (.cells #[.slice (some ⟨g14, 0, none⟩) 1 c14, .slice (some ⟨g24, 0, none⟩) 1 c24, .slice (some ⟨g34, 0, none⟩) 1 c34] 33))
  clear hb4a hb4b hs4
  generalize w4b.alloc (.cells #[.slice (some ⟨g14, 0, none⟩) 1 c14, .slice (some ⟨g24, 0, none⟩) 1 c24, .slice (some ⟨g34, 0, none⟩) 1 c34] 33) = w4c at hA4 hBW hO hA3
  obtain ⟨bs4, hbs⟩ : ∃ b, w4b.heap.size = b := ⟨_, rfl⟩
  rw [hbs] at hA4 ⊢
  clear hbs
  refine (HK.out _).mono ?_
  rintro e w1a ⟨rfl, hb1a⟩
  go_wp2_with fail
  refine (HN1.out _).mono ?_
  rintro e w1b ⟨g11, g21, g31, g41, c11, c21, c31, c41, rfl, hs1, hb1b⟩
  go_wp2_with fail
  have hA1 := Bst.of (c1 := c11) (c2 := c21) (c3 := c31) hs1 rfl rfl
  replace hBW := ba (bt (bt hBW hb1a) hb1b) (.cells #[.slice (some ⟨g11, 0, none⟩) 1 c11, .slice (some ⟨g21, 0, none⟩) 2 c21, .slice (some ⟨g31, 0, none⟩) 1 c31] 33)
  replace hO := ((hO.after hb1a).after hb1b).alloc (.cells #[.slice (some ⟨g11, 0, none⟩) 1 c11, .slice (some ⟨g21, 0, none⟩) 2 c21, .slice (some ⟨g31, 0, none⟩) 1 c31] 33)
  replace hA3 := ((hA3.after hb1a).after hb1b).after (b1 _ (.cells #[.slice (some ⟨g11, 0, none⟩) 1 c11, .slice (some ⟨g21, 0, none⟩) 2 c21, .slice (some ⟨g31, 0, none⟩) 1 c31] 33))
  replace hA4 := ((hA4.after hb1a).after hb1b).after (b1 _ (.cells #[.slice (some ⟨g11, 0, none⟩) 1 c11, .slice (some ⟨g21, 0, none⟩) 2 c21, .slice (some ⟨g31, 0, none⟩) 1 c31] 33))
  clear hb1a hb1b hs1
  generalize w1b.alloc (.cells #[.slice (some ⟨g11, 0, none⟩) 1 c11, .slice (some ⟨g21, 0, none⟩) 2 c21, .slice (some ⟨g31, 0, none⟩) 1 c31] 33) = w1c at hA1 hBW hO hA3 hA4
  obtain ⟨bs1, hbs⟩ : ∃ b, w1b.heap.size = b := ⟨_, rfl⟩
  rw [hbs] at hA1 ⊢
  clear hbs
  replace hO : Blk w1c bo 47 [.bool false, .string { data := #[3] }, .bool false, .string { data := #[2] }] := hO
  have hOc0 := hO.cell 0
  have hOf0 := hO.free 0
  have hOc1 := hO.cell 1
  have hOf1 := hO.free 1
  have hOc2 := hO.cell 2
  have hOf2 := hO.free 2
  have hOc3 := hO.cell 3
  have hOf3 := hO.free 3
  go_wp2_with fail
  go_region_held3 (fun w' => w'.cell? ⟨bo, 0, none⟩ = some (.bool false) ∧ w'.cell? ⟨bo, 1, none⟩ = some (.string { data := #[3] }) ∧ w'.cell? ⟨bo, 2, none⟩ = some (.bool false) ∧ w'.cell? ⟨bo, 3, none⟩ = some (.string { data := #[2] })) ((refine keep4 (T := 47) ?_; first | (with_reducible exact hOd) | (with_reducible exact hOf) | (with_reducible exact hO.drew) | (with_reducible exact hO)))
    (first | (go_at_call 32; refine (HK.out _).mono ?_; rintro e wf ⟨rfl, hbf⟩; have hbf2 : Below w1c.heap.size w1c wf := (Below.drew (Below.refl _ _)).trans hbf; have hOf : Blk wf bo 47 [.bool false, .string { data := #[3] }, .bool false, .string { data := #[2] }] := hO.after hbf2) | (go_at_call 18; refine (HW.out _).mono ?_; rintro e wd ⟨bw, rfl, hWd, hbd⟩; have hOd : Blk wd bo 47 [.bool false, .string { data := #[3] }, .bool false, .string { data := #[2] }] := hOf.after hbd))
  have hbd2 := bt hbf2 hbd
  replace hA3 := hA3.after hbd2
  replace hA4 := hA4.after hbd2
  replace hA1 := hA1.after hbd2
  replace hBW := bt hBW hbd2
  clear hOc0 hOf0 hOc1 hOf1 hOc2 hOf2 hOc3 hOf3
  clear hO hOf hOd hbf hbf2 hbd hbd2
  have s3 := hA3.s
  have s4 := hA4.s
  have s1 := hA1.s
  have e31 := hA3.e1
  have e41 := hA4.e1
  have e11 := hA1.e1
  have e12 := hA1.e2
  have t10 := hA1.t0
  have d12 : ((E 12).toList == [12]) = true := by rw [ByteArray.toList_eq]; rfl
  have d3 : ((E 3).toList == [3]) = true := by rw [ByteArray.toList_eq]; rfl
  have d4 : ((E 4).toList == [4]) = true := by rw [ByteArray.toList_eq]; rfl
  have d8 : ((E 8).toList == [8]) = true := by rw [ByteArray.toList_eq]; rfl
  have HSQ := Lib.hid (seq2_c bw wd.heap.size 6 10 (wd.alloc (.cells #[.bool false, .string { data := #[6] }, .bool false, .string { data := #[10] }] 45)) (hWd.alloc _) (Blk.new _ _ _))
  go_wp2_with fail
  refine (HSQ.out).mono ?_
  rintro e wz ⟨rfl, hbz⟩
  go_wp2
  go_ret
  exact ⟨rfl, bt (ba hBW _) hbz⟩

end Go.Proofs.YtecobjddpinonaaGreat
end

section
set_option linter.unusedVariables false
set_option linter.unusedSimpArgs false
set_option maxRecDepth 100000
namespace Go.Proofs.YtecobjddpinonaaGreat
open Go.RowKit

def bst (l : List ByteArray) : List Value := l.map Value.string
/-- whether all strings have at most 8 bytes -/
def smallB (l : List ByteArray) : Bool := l.all fun s => decide (s.size ≤ 8)

theorem bst_one (l : List ByteArray) : ∀ u ∈ bst l, u.oneCell' = true := by
  intro u hu
  obtain ⟨n, _, rfl⟩ := List.mem_map.1 hu
  rfl

set_option maxHeartbeats 1600000 in
theorem lsmall_c (a b c d : ByteArray) (C : List ByteArray) (bc n : Nat) (w : World) (hn : C.length = n) (hn0 : 0 < n) (hn1 : n ≤ 1000) (hs : ∀ s ∈ C ++ [a, b, c, d], s.size ≤ 9223372036854775807) (hC : Blk w bc 22 (bst C)) :
    Calls Tryz.prog 7 #[.agg #[.string a, .string b, .string c, .string d], .slice (some ⟨bc, 0, none⟩) n n] w fun e w' => e = .returned (.bool (smallB (C ++ [a, b, c, d]))) ∧ Below w.heap.size w w' := by
  obtain ⟨i0, hi0, hz0, hz1, hz2⟩ := info_parts info_nat
  have HI := Lib.hid hi0
  have HZ0 := Lib.hid hz0
  have HZ1 := Lib.hid hz1
  have HZ2 := Lib.hid hz2
  have HL : Hid ((bst C).length = n) := by rw [Hid, bst, List.length_map]; exact hn
  have HN := Lib.hid hn
  have HS := Lib.hid hs
  have hC2 := (hC.alloc (.cells #[Value.string a, Value.string b, Value.string c, Value.string d] 26)).alloc (.cells #[.string a, .string b, .string c, .string d] 22)
  have hD2 := blk2b w #[Value.string a, Value.string b, Value.string c, Value.string d] #[.string a, .string b, .string c, .string d] 26 22
  have hBW := b2 w (.cells #[Value.string a, Value.string b, Value.string c, Value.string d] 26) (.cells #[.string a, .string b, .string c, .string d] 22)
  clear hi0 hz0 hz1 hz2 hn hs
  go_enter Tryz.func7, Tryz.ntmps7
  go_wp2_with (at_builtin; refine wpList_append_grows _ rfl _ _ _ rfl 22 i0 _ 1 16 Tryz.underlying75 HI.out HZ0.out HZ1.out HZ2.out rfl (by omega) (some ⟨bc, 0, none⟩) n n (bst C) rfl (fun h => (by cases h)) (by rw [HL.out, Nat.mul_one]) (fun a ha => by cases ha; exact hC2.cells) ⟨w.heap.size + 1, 0, none⟩ 4 4 (bst [a, b, c, d]) rfl rfl hD2.cells (bst_one _) (by omega) (by simp only [maxLen]; omega) (by omega) ?_; intro v1 w1 hown hgrow; obtain ⟨g, cc, rfl, hg1, hg2⟩ := hown.form (by omega); rw [show bst C ++ bst [a, b, c, d] = bst (C ++ [a, b, c, d]) by simp [bst]] at hown)
  replace hBW := bt hBW (Below.of_grown hgrow)
  have HLD : Hid ((C ++ [a, b, c, d]).length = n + 4) := by rw [Hid, List.length_append, HN.out]; rfl
  have HCE : Hid (∀ j (hj : j < (C ++ [a, b, c, d]).length), w1.cell? ⟨g, j, none⟩ = some (.string (C ++ [a, b, c, d])[j])) := by
    intro j hj
    exact own_cell hown j _ (by simp only [bst, List.getElem?_map, List.getElem?_eq_getElem hj, Option.map_some])
  clear hown hgrow hC2 hD2 hC
  have HSB : Hid (smallB (C ++ [a, b, c, d]) = (C ++ [a, b, c, d]).all fun s => decide (s.size ≤ 8)) := rfl
  generalize hDD : C ++ [a, b, c, d] = D at HLD HCE HSB HS
  have HDD := Lib.hid hDD
  clear hDD
  go_loop [21] (fun i => ∃ k : Nat, k ≤ n + 4 ∧ i = .int .i64 k ∧ Hid (∀ j (h : j < D.length), j < k → D[j].size ≤ 8)) (fun i => n + 4 - (intOf i).toNat)
  case atStart => exact ⟨0, by omega, rfl, fun j _ h => absurd h (Nat.not_lt_zero _)⟩
  case round =>
    obtain ⟨k, hk, rfl, HK⟩ := hrel
    by_cases hlt : k < n + 4
    · have hkl : k < D.length := by rw [HLD.out]; exact hlt
      have hc := HCE.out k hkl
      have hsz := HS.out _ (List.getElem_mem hkl)
      by_cases h8 : (D[k]'hkl).size ≤ 8
      · have HNX : Hid (∀ j (h : j < D.length), j < k + 1 → D[j].size ≤ 8) := fun j h hj => by
          by_cases e : j = k
          · subst e; exact h8
          · exact HK.out j h (by omega)
        generalize D[k]'hkl = s at hc hsz h8
        go_wp2
        go_round
        case rel => exact ⟨k + 1, by omega, by go_num, HNX⟩
        case measure => simp [intOf]; omega
      · have HF : Hid (smallB D = false) := by
          rw [Hid, HSB.out, List.all_eq_false]
          exact ⟨_, List.getElem_mem hkl, by simpa using h8⟩
        generalize D[k]'hkl = s at hc hsz h8
        go_wp2
        go_ret
        exact ⟨rb (by rw [HDD.out, HF.out]), hBW⟩
    · obtain rfl : k = n + 4 := by omega
      have HF : Hid (smallB D = true) := by
        rw [Hid, HSB.out, List.all_eq_true]
        intro x hx
        obtain ⟨j, hj, rfl⟩ := List.mem_iff_getElem.1 hx
        exact decide_eq_true (HK.out j hj (by have := HLD.out; omega))
      go_wp2
      go_ret
      exact ⟨rb (by rw [HDD.out, HF.out]), hBW⟩

end Go.Proofs.YtecobjddpinonaaGreat
end
