/- For every key, opening and list of values, dominolaw28.SetproofWitnesses returns true and its arguments read as they did: setproof.NotWitness, MemberWitness, OutsideWitness and EqualWitness return the lists or the error of the reference. No condition. -/
import Derived.Test.YtecobjddpinonaaGreatVal1
import Derived.Carry
import Derived.ChangeSlices
import Derived.WideKeyArgs
section
set_option linter.unusedVariables false
set_option linter.unusedSimpArgs false
set_option maxRecDepth 100000
namespace Go.Proofs.YtecobjddpinonaaGreat
open Go.RowKit

theorem ivalidV_c (b : Bool) (s : ByteArray) (t : Bool) (w : World) (hm : s.size ≤ 1000) (ht : ivB b s = t) :
    Calls Tryz.prog 75 #[.agg #[.bool b, .string s]] w fun e w' => e = .returned (.bool t) ∧ Below w.heap.size w w' := by
  rw [← ht]; exact ivalid_c b s w (by omega)
theorem rivalidV_c (b : Bool) (s : ByteArray) (t : Bool) (w : World) (hm : s.size ≤ 1000) (ht : ivB b s = t) :
    Calls Tryz.prog 85 #[.agg #[.bool b, .string s]] w fun e w' => e = .returned (.bool t) ∧ Below w.heap.size w w' := by
  rw [← ht]; exact rivalid_c b s w (by omega)

-- BOTH reduced setproof.reduced ivalidV_c
set_option maxHeartbeats 1600000 in
theorem reduced_form (ka kb kc kd : ByteArray) (sn : Bool) (a : ByteArray) (sm : Bool) (r : ByteArray) (w : World) (h1 : a.size ≤ 1000) (h2 : r.size ≤ 1000) (hv : (ivB sn a && ivB sm r) = false) :
    Calls Tryz.prog 41 #[.agg #[.string ka, .string kb, .string kc, .string kd], .agg #[.bool sn, .string a, .bool sm, .string r]] w fun e w' => e = .returned (.int .i64 3) ∧ Below w.heap.size w w' := by
  have hI := blk2b w #[Value.string ka, Value.string kb, Value.string kc, Value.string kd] #[.bool sn, .string a, .bool sm, .string r] 26 47
  have HVA := Lib.hid (fun t w => ivalidV_c sn a t w h1)
  have HVR := Lib.hid (fun t w => ivalidV_c sm r t w h2)
  clear h1 h2
  cases ha : ivB sn a
  · have HA := Lib.hid ha
    clear hv ha
    have hIc0 := hI.cell 0
    have hIf0 := hI.free 0
    have hIc1 := hI.cell 1
    have hIf1 := hI.free 1
    have hIc2 := hI.cell 2
    have hIf2 := hI.free 2
    have hIc3 := hI.cell 3
    have hIf3 := hI.free 3
    go_enter Tryz.func41, Tryz.ntmps41
    go_wp2_with fail
    refine (HVA.out false _ HA.out).mono ?_
    rintro e w1 ⟨rfl, hb1⟩
    go_wp2
    go_ret
    exact ⟨rfl, bt (b2 _ _ _) hb1⟩
  · have HA := Lib.hid ha
    rw [ha, Bool.true_and] at hv
    have HR := Lib.hid hv
    clear hv ha
    have hIc0 := hI.cell 0
    have hIf0 := hI.free 0
    have hIc1 := hI.cell 1
    have hIf1 := hI.free 1
    have hIc2 := hI.cell 2
    have hIf2 := hI.free 2
    have hIc3 := hI.cell 3
    have hIf3 := hI.free 3
    go_enter Tryz.func41, Tryz.ntmps41
    go_wp2_with fail
    refine (HVA.out true _ HA.out).mono ?_
    rintro e w1 ⟨rfl, hb1⟩
    clear hIc0 hIf0 hIc1 hIf1 hIc2 hIf2 hIc3 hIf3
    replace hI := hI.after hb1
    have hIc0 := hI.cell 0
    have hIf0 := hI.free 0
    have hIc1 := hI.cell 1
    have hIf1 := hI.free 1
    have hIc2 := hI.cell 2
    have hIf2 := hI.free 2
    have hIc3 := hI.cell 3
    have hIf3 := hI.free 3
    go_wp2_with fail
    refine (HVR.out false _ HR.out).mono ?_
    rintro e w2 ⟨rfl, hb2⟩
    go_wp2
    go_ret
    exact ⟨rfl, bt (bt (b2 _ _ _) hb1) hb2⟩

set_option maxHeartbeats 1600000 in
theorem reduced_key (ka kb kc kd : ByteArray) (sn : Bool) (a : ByteArray) (sm : Bool) (r : ByteArray) (k : Nat) (w : World) (h1 : a.size ≤ 1000) (h2 : r.size ≤ 1000) (hv : (ivB sn a && ivB sm r) = true) (hk : k ≠ 0)
    (hR : ∀ w : World, Calls Tryz.prog 33 #[.agg #[.string ka, .string kb, .string kc, .string kd], .slice none 0 0] w fun e w' => e = .returned (.int .i64 k) ∧ Below w.heap.size w w') :
    Calls Tryz.prog 41 #[.agg #[.string ka, .string kb, .string kc, .string kd], .agg #[.bool sn, .string a, .bool sm, .string r]] w fun e w' => e = .returned (.int .i64 k) ∧ Below w.heap.size w w' := by
  have hB := blk2a w #[Value.string ka, Value.string kb, Value.string kc, Value.string kd] #[.bool sn, .string a, .bool sm, .string r] 26 47
  have hI := blk2b w #[Value.string ka, Value.string kb, Value.string kc, Value.string kd] #[.bool sn, .string a, .bool sm, .string r] 26 47
  rw [Bool.and_eq_true] at hv
  have HVA := Lib.hid (fun w => ivalidV_c sn a true w h1 hv.1)
  have HVR := Lib.hid (fun w => ivalidV_c sm r true w h2 hv.2)
  have HR := Lib.hid hR
  have e1 : ((k : Int) == 0) = false := by rw [beq_eq_false_iff_ne]; omega
  have e2 : ((k : Int) != 0) = true := by rw [bne_iff_ne]; omega
  clear h1 h2 hv hR
  have hIc0 := hI.cell 0
  have hIf0 := hI.free 0
  have hIc1 := hI.cell 1
  have hIf1 := hI.free 1
  have hIc2 := hI.cell 2
  have hIf2 := hI.free 2
  have hIc3 := hI.cell 3
  have hIf3 := hI.free 3
  go_enter Tryz.func41, Tryz.ntmps41
  go_wp2_with fail
  refine (HVA.out _).mono ?_
  rintro e w1 ⟨rfl, hb1⟩
  clear hIc0 hIf0 hIc1 hIf1 hIc2 hIf2 hIc3 hIf3
  replace hI := hI.after hb1
  replace hB := hB.after hb1
  have hIc0 := hI.cell 0
  have hIf0 := hI.free 0
  have hIc1 := hI.cell 1
  have hIf1 := hI.free 1
  have hIc2 := hI.cell 2
  have hIf2 := hI.free 2
  have hIc3 := hI.cell 3
  have hIf3 := hI.free 3
  go_wp2_with fail
  refine (HVR.out _).mono ?_
  rintro e w2 ⟨rfl, hb2⟩
  clear hIc0 hIf0 hIc1 hIf1 hIc2 hIf2 hIc3 hIf3
  replace hB := hB.after hb2
  have hBc0 := hB.cell 0
  have hBf0 := hB.free 0
  have hBc1 := hB.cell 1
  have hBf1 := hB.free 1
  have hBc2 := hB.cell 2
  have hBf2 := hB.free 2
  have hBc3 := hB.cell 3
  have hBf3 := hB.free 3
  go_wp2_with fail
  refine (HR.out _).mono ?_
  rintro e w3 ⟨rfl, hb3⟩
  go_wp2
  go_ret
  exact ⟨rfl, bt (bt (bt (b2 _ _ _) hb1) hb2) hb3⟩

set_option maxHeartbeats 3200000 in
theorem reduced_range (p q g h a r : Nat) (sn sm : Bool) (w : World) (hq : q < 256 ^ 128) (ha : a < 256 ^ 128) (hr : r < 256 ^ 128) (hv : (ivB sn (E a) && ivB sm (E r)) = true) (hn : ¬ (sn = false ∧ a < q ∧ sm = false ∧ r < q))
    (hR : ∀ w : World, Calls Tryz.prog 33 #[.agg #[.string (E p), .string (E q), .string (E g), .string (E h)], .slice none 0 0] w fun e w' => e = .returned (.int .i64 0) ∧ Below w.heap.size w w') :
    Calls Tryz.prog 41 #[.agg #[.string (E p), .string (E q), .string (E g), .string (E h)], .agg #[.bool sn, .string (E a), .bool sm, .string (E r)]] w fun e w' => e = .returned (.int .i64 2) ∧ Below w.heap.size w w' := by
  have hB := blk2a w #[Value.string (E p), Value.string (E q), Value.string (E g), Value.string (E h)] #[.bool sn, .string (E a), .bool sm, .string (E r)] 26 47
  have hI := blk2b w #[Value.string (E p), Value.string (E q), Value.string (E g), Value.string (E h)] #[.bool sn, .string (E a), .bool sm, .string (E r)] 26 47
  have hBW := b2 w (.cells #[Value.string (E p), Value.string (E q), Value.string (E g), Value.string (E h)] 26) (.cells #[.bool sn, .string (E a), .bool sm, .string (E r)] 47)
  rw [Bool.and_eq_true] at hv
  have HVA := Lib.hid (fun w => ivalidV_c sn (E a) true w (sz1000 ha) hv.1)
  have HVR := Lib.hid (fun w => ivalidV_c sm (E r) true w (sz1000 hr) hv.2)
  have HR := Lib.hid hR
  have HCA := Lib.hid (fun w => cmp_c a q w ha hq)
  have HCR := Lib.hid (fun w => cmp_c r q w hr hq)
  have i0 : ∀ w, (Instr.index 119 (.agg #[.bool sn, .string (E a), .bool sm, .string (E r)]) (.int .i64 0)).run Tryz.prog w = .ok (.agg #[.bool sn, .string (E a)]) w := fun _ => by kernel_rfl
  have i1 : ∀ w, (Instr.index 119 (.agg #[.bool sn, .string (E a), .bool sm, .string (E r)]) (.int .i64 1)).run Tryz.prog w = .ok (.agg #[.bool sm, .string (E r)]) w := fun _ => by kernel_rfl
  have HN := Lib.hid hn
  clear hq ha hr hv hR hn
  have hIc0 := hI.cell 0
  have hIf0 := hI.free 0
  have hIc1 := hI.cell 1
  have hIf1 := hI.free 1
  have hIc2 := hI.cell 2
  have hIf2 := hI.free 2
  have hIc3 := hI.cell 3
  have hIf3 := hI.free 3
  go_enter Tryz.func41, Tryz.ntmps41
  go_wp2_with fail
  refine (HVA.out _).mono ?_
  rintro e w1 ⟨rfl, hb1⟩
  clear hIc0 hIf0 hIc1 hIf1 hIc2 hIf2 hIc3 hIf3
  replace hI := hI.after hb1
  replace hB := hB.after hb1
  have hIc0 := hI.cell 0
  have hIf0 := hI.free 0
  have hIc1 := hI.cell 1
  have hIf1 := hI.free 1
  have hIc2 := hI.cell 2
  have hIf2 := hI.free 2
  have hIc3 := hI.cell 3
  have hIf3 := hI.free 3
  go_wp2_with fail
  refine (HVR.out _).mono ?_
  rintro e w2 ⟨rfl, hb2⟩
  clear hIc0 hIf0 hIc1 hIf1 hIc2 hIf2 hIc3 hIf3
  replace hB := hB.after hb2
  replace hI := hI.after hb2
  have hBc0 := hB.cell 0
  have hBf0 := hB.free 0
  have hBc1 := hB.cell 1
  have hBf1 := hB.free 1
  have hBc2 := hB.cell 2
  have hBf2 := hB.free 2
  have hBc3 := hB.cell 3
  have hBf3 := hB.free 3
  go_wp2_with fail
  refine (HR.out _).mono ?_
  rintro e w3 ⟨rfl, hb3⟩
  clear hBc0 hBf0 hBc1 hBf1 hBc2 hBf2 hBc3 hBf3
  replace hB := hB.after hb3
  replace hI := hI.after hb3
  replace hBW := bt (bt (bt hBW hb1) hb2) hb3
  clear hb1 hb2 hb3
  have hBc0 := hB.cell 0
  have hBf0 := hB.free 0
  have hBc1 := hB.cell 1
  have hBf1 := hB.free 1
  have hBc2 := hB.cell 2
  have hBf2 := hB.free 2
  have hBc3 := hB.cell 3
  have hBf3 := hB.free 3
  have hIc0 := hI.cell 0
  have hIf0 := hI.free 0
  have hIc1 := hI.cell 1
  have hIf1 := hI.free 1
  have hIc2 := hI.cell 2
  have hIf2 := hI.free 2
  have hIc3 := hI.cell 3
  have hIf3 := hI.free 3
  go_wp2
  clear hBc0 hBf0 hBc1 hBf1 hBc2 hBf2 hBc3 hBf3
  clear hIc0 hIf0 hIc1 hIf1 hIc2 hIf2 hIc3 hIf3
  go_loopw [28, 7] (fun i _ wr => (i = .int .i64 0 ∨ (i = .int .i64 1 ∧ Hid (sn = false ∧ a < q))) ∧ Below w3.heap.size w3 wr) (fun i _ _ => 2 - (intOf i).toNat)
  case atStart => exact ⟨.inl rfl, Below.refl _ _⟩
  case round =>
    obtain ⟨hi, hbr⟩ := hrel
    obtain ⟨wp, hwp⟩ : ∃ wp, wp = wr := ⟨_, rfl⟩
    subst hwp
    replace hB := hB.after hbr
    have hl : w.heap.size < wp.heap.size := hB.lt
    have hBc0 := hB.cell 0
    have hBf0 := hB.free 0
    have hBc1 := hB.cell 1
    have hBf1 := hB.free 1
    have hBc2 := hB.cell 2
    have hBf2 := hB.free 2
    have hBc3 := hB.cell 3
    have hBf3 := hB.free 3
    rcases hi with rfl | ⟨rfl, HI⟩
    · cases sn
      · by_cases haq : a < q
        · have c1 := cmp_neg a q haq
          have HX : Hid (false = false ∧ a < q) := ⟨rfl, haq⟩
          clear haq
          go_wp2_with fail
          refine (HCA.out _).mono ?_
          rintro e w' ⟨rfl, rfl⟩
          go_wp2
          go_roundw
          case rel => exact ⟨.inr ⟨rfl, HX⟩, ba hbr _⟩
          case measure => simp [intOf]
        · have c1 := cmp_nneg a q (Nat.le_of_not_lt haq)
          clear haq
          go_wp2_with fail
          refine (HCA.out _).mono ?_
          rintro e w' ⟨rfl, rfl⟩
          go_wp2
          go_ret
          exact ⟨rfl, bt hBW (ba hbr _)⟩
      · go_wp2
        go_ret
        exact ⟨rfl, bt hBW (ba hbr _)⟩
    · cases sm
      · have c1 := cmp_nneg r q (Nat.le_of_not_lt fun hrq => HN.out ⟨HI.out.1, HI.out.2, rfl, hrq⟩)
        go_wp2_with fail
        refine (HCR.out _).mono ?_
        rintro e w' ⟨rfl, rfl⟩
        go_wp2
        go_ret
        exact ⟨rfl, bt hBW (ba hbr _)⟩
      · go_wp2
        go_ret
        exact ⟨rfl, bt hBW (ba hbr _)⟩

end Go.Proofs.YtecobjddpinonaaGreat
end

section
set_option linter.unusedVariables false
set_option linter.unusedSimpArgs false
set_option maxRecDepth 100000
namespace Go.Proofs.YtecobjddpinonaaGreat
open Go.RowKit

set_option maxHeartbeats 1600000 in
theorem opened_form (ka kb kc kd : ByteArray) (sn : Bool) (a : ByteArray) (sm : Bool) (r : ByteArray) (w : World) (h1 : a.size ≤ 1000) (h2 : r.size ≤ 1000) (hv : (ivB sn a && ivB sm r) = false) :
    Calls Tryz.prog 47 #[.agg #[.string ka, .string kb, .string kc, .string kd], .agg #[.bool sn, .string a, .bool sm, .string r]] w fun e w' => e = .returned (.int .i64 3) ∧ Below w.heap.size w w' := by
  have hI := blk2b w #[Value.string ka, Value.string kb, Value.string kc, Value.string kd] #[.bool sn, .string a, .bool sm, .string r] 26 47
  have HVA := Lib.hid (fun t w => rivalidV_c sn a t w h1)
  have HVR := Lib.hid (fun t w => rivalidV_c sm r t w h2)
  clear h1 h2
  cases ha : ivB sn a
  · have HA := Lib.hid ha
    clear hv ha
    have hIc0 := hI.cell 0
    have hIf0 := hI.free 0
    have hIc1 := hI.cell 1
    have hIf1 := hI.free 1
    have hIc2 := hI.cell 2
    have hIf2 := hI.free 2
    have hIc3 := hI.cell 3
    have hIf3 := hI.free 3
    go_enter Tryz.func47, Tryz.ntmps47
    go_wp2_with fail
    refine (HVA.out false _ HA.out).mono ?_
    rintro e w1 ⟨rfl, hb1⟩
    go_wp2
    go_ret
    exact ⟨rfl, bt (b2 _ _ _) hb1⟩
  · have HA := Lib.hid ha
    rw [ha, Bool.true_and] at hv
    have HR := Lib.hid hv
    clear hv ha
    have hIc0 := hI.cell 0
    have hIf0 := hI.free 0
    have hIc1 := hI.cell 1
    have hIf1 := hI.free 1
    have hIc2 := hI.cell 2
    have hIf2 := hI.free 2
    have hIc3 := hI.cell 3
    have hIf3 := hI.free 3
    go_enter Tryz.func47, Tryz.ntmps47
    go_wp2_with fail
    refine (HVA.out true _ HA.out).mono ?_
    rintro e w1 ⟨rfl, hb1⟩
    clear hIc0 hIf0 hIc1 hIf1 hIc2 hIf2 hIc3 hIf3
    replace hI := hI.after hb1
    have hIc0 := hI.cell 0
    have hIf0 := hI.free 0
    have hIc1 := hI.cell 1
    have hIf1 := hI.free 1
    have hIc2 := hI.cell 2
    have hIf2 := hI.free 2
    have hIc3 := hI.cell 3
    have hIf3 := hI.free 3
    go_wp2_with fail
    refine (HVR.out false _ HR.out).mono ?_
    rintro e w2 ⟨rfl, hb2⟩
    go_wp2
    go_ret
    exact ⟨rfl, bt (bt (b2 _ _ _) hb1) hb2⟩

set_option maxHeartbeats 1600000 in
theorem opened_key (ka kb kc kd : ByteArray) (sn : Bool) (a : ByteArray) (sm : Bool) (r : ByteArray) (k : Nat) (w : World) (h1 : a.size ≤ 1000) (h2 : r.size ≤ 1000) (hv : (ivB sn a && ivB sm r) = true) (hk : k ≠ 0)
    (hR : ∀ w : World, Calls Tryz.prog 36 #[.agg #[.string ka, .string kb, .string kc, .string kd], .slice none 0 0] w fun e w' => e = .returned (.int .i64 k) ∧ Below w.heap.size w w') :
    Calls Tryz.prog 47 #[.agg #[.string ka, .string kb, .string kc, .string kd], .agg #[.bool sn, .string a, .bool sm, .string r]] w fun e w' => e = .returned (.int .i64 k) ∧ Below w.heap.size w w' := by
  have hB := blk2a w #[Value.string ka, Value.string kb, Value.string kc, Value.string kd] #[.bool sn, .string a, .bool sm, .string r] 26 47
  have hI := blk2b w #[Value.string ka, Value.string kb, Value.string kc, Value.string kd] #[.bool sn, .string a, .bool sm, .string r] 26 47
  rw [Bool.and_eq_true] at hv
  have HVA := Lib.hid (fun w => rivalidV_c sn a true w h1 hv.1)
  have HVR := Lib.hid (fun w => rivalidV_c sm r true w h2 hv.2)
  have HR := Lib.hid hR
  have e1 : ((k : Int) == 0) = false := by rw [beq_eq_false_iff_ne]; omega
  have e2 : ((k : Int) != 0) = true := by rw [bne_iff_ne]; omega
  clear h1 h2 hv hR
  have hIc0 := hI.cell 0
  have hIf0 := hI.free 0
  have hIc1 := hI.cell 1
  have hIf1 := hI.free 1
  have hIc2 := hI.cell 2
  have hIf2 := hI.free 2
  have hIc3 := hI.cell 3
  have hIf3 := hI.free 3
  go_enter Tryz.func47, Tryz.ntmps47
  go_wp2_with fail
  refine (HVA.out _).mono ?_
  rintro e w1 ⟨rfl, hb1⟩
  clear hIc0 hIf0 hIc1 hIf1 hIc2 hIf2 hIc3 hIf3
  replace hI := hI.after hb1
  replace hB := hB.after hb1
  have hIc0 := hI.cell 0
  have hIf0 := hI.free 0
  have hIc1 := hI.cell 1
  have hIf1 := hI.free 1
  have hIc2 := hI.cell 2
  have hIf2 := hI.free 2
  have hIc3 := hI.cell 3
  have hIf3 := hI.free 3
  go_wp2_with fail
  refine (HVR.out _).mono ?_
  rintro e w2 ⟨rfl, hb2⟩
  clear hIc0 hIf0 hIc1 hIf1 hIc2 hIf2 hIc3 hIf3
  replace hB := hB.after hb2
  have hBc0 := hB.cell 0
  have hBf0 := hB.free 0
  have hBc1 := hB.cell 1
  have hBf1 := hB.free 1
  have hBc2 := hB.cell 2
  have hBf2 := hB.free 2
  have hBc3 := hB.cell 3
  have hBf3 := hB.free 3
  go_wp2_with fail
  refine (HR.out _).mono ?_
  rintro e w3 ⟨rfl, hb3⟩
  go_wp2
  go_ret
  exact ⟨rfl, bt (bt (bt (b2 _ _ _) hb1) hb2) hb3⟩

set_option maxHeartbeats 3200000 in
theorem opened_range (p q g h a r : Nat) (sn sm : Bool) (w : World) (hq : q < 256 ^ 128) (ha : a < 256 ^ 128) (hr : r < 256 ^ 128) (hv : (ivB sn (E a) && ivB sm (E r)) = true) (hn : ¬ (sn = false ∧ a < q ∧ sm = false ∧ r < q))
    (hR : ∀ w : World, Calls Tryz.prog 36 #[.agg #[.string (E p), .string (E q), .string (E g), .string (E h)], .slice none 0 0] w fun e w' => e = .returned (.int .i64 0) ∧ Below w.heap.size w w') :
    Calls Tryz.prog 47 #[.agg #[.string (E p), .string (E q), .string (E g), .string (E h)], .agg #[.bool sn, .string (E a), .bool sm, .string (E r)]] w fun e w' => e = .returned (.int .i64 2) ∧ Below w.heap.size w w' := by
  have hB := blk2a w #[Value.string (E p), Value.string (E q), Value.string (E g), Value.string (E h)] #[.bool sn, .string (E a), .bool sm, .string (E r)] 26 47
  have hI := blk2b w #[Value.string (E p), Value.string (E q), Value.string (E g), Value.string (E h)] #[.bool sn, .string (E a), .bool sm, .string (E r)] 26 47
  have hBW := b2 w (.cells #[Value.string (E p), Value.string (E q), Value.string (E g), Value.string (E h)] 26) (.cells #[.bool sn, .string (E a), .bool sm, .string (E r)] 47)
  rw [Bool.and_eq_true] at hv
  have HVA := Lib.hid (fun w => rivalidV_c sn (E a) true w (sz1000 ha) hv.1)
  have HVR := Lib.hid (fun w => rivalidV_c sm (E r) true w (sz1000 hr) hv.2)
  have HR := Lib.hid hR
  have HCA := Lib.hid (fun w => rorder_c a q w (by have := sz1000 ha; omega) (by have := sz1000 hq; omega))
  have HCR := Lib.hid (fun w => rorder_c r q w (by have := sz1000 hr; omega) (by have := sz1000 hq; omega))
  have HN := Lib.hid hn
  clear hq ha hr hv hR hn
  have hIc0 := hI.cell 0
  have hIf0 := hI.free 0
  have hIc1 := hI.cell 1
  have hIf1 := hI.free 1
  have hIc2 := hI.cell 2
  have hIf2 := hI.free 2
  have hIc3 := hI.cell 3
  have hIf3 := hI.free 3
  go_enter Tryz.func47, Tryz.ntmps47
  go_wp2_with fail
  refine (HVA.out _).mono ?_
  rintro e w1 ⟨rfl, hb1⟩
  clear hIc0 hIf0 hIc1 hIf1 hIc2 hIf2 hIc3 hIf3
  replace hI := hI.after hb1
  replace hB := hB.after hb1
  have hIc0 := hI.cell 0
  have hIf0 := hI.free 0
  have hIc1 := hI.cell 1
  have hIf1 := hI.free 1
  have hIc2 := hI.cell 2
  have hIf2 := hI.free 2
  have hIc3 := hI.cell 3
  have hIf3 := hI.free 3
  go_wp2_with fail
  refine (HVR.out _).mono ?_
  rintro e w2 ⟨rfl, hb2⟩
  clear hIc0 hIf0 hIc1 hIf1 hIc2 hIf2 hIc3 hIf3
  replace hB := hB.after hb2
  replace hI := hI.after hb2
  have hBc0 := hB.cell 0
  have hBf0 := hB.free 0
  have hBc1 := hB.cell 1
  have hBf1 := hB.free 1
  have hBc2 := hB.cell 2
  have hBf2 := hB.free 2
  have hBc3 := hB.cell 3
  have hBf3 := hB.free 3
  go_wp2_with fail
  refine (HR.out _).mono ?_
  rintro e w3 ⟨rfl, hb3⟩
  clear hBc0 hBf0 hBc1 hBf1 hBc2 hBf2 hBc3 hBf3
  replace hB := hB.after hb3
  replace hI := hI.after hb3
  replace hBW := bt (bt (bt hBW hb1) hb2) hb3
  clear hb1 hb2 hb3
  have hl : w.heap.size < w3.heap.size := hB.lt
  have hl2 : w.heap.size + 1 < w3.heap.size := hI.lt
  have hBc0 := hB.cell 0
  have hBf0 := hB.free 0
  have hBc1 := hB.cell 1
  have hBf1 := hB.free 1
  have hBc2 := hB.cell 2
  have hBf2 := hB.free 2
  have hBc3 := hB.cell 3
  have hBf3 := hB.free 3
  have hIc0 := hI.cell 0
  have hIf0 := hI.free 0
  have hIc1 := hI.cell 1
  have hIf1 := hI.free 1
  have hIc2 := hI.cell 2
  have hIf2 := hI.free 2
  have hIc3 := hI.cell 3
  have hIf3 := hI.free 3
  cases sn
  · cases sm
    · by_cases haq : a < q
      · have c1 := cmp_neg a q haq
        have c2 := cmp_nneg r q (Nat.le_of_not_lt fun hrq => HN.out ⟨rfl, haq, rfl, hrq⟩)
        clear haq
        go_wp2_with fail
        refine (HCA.out _).mono ?_
        rintro e w4 ⟨rfl, hb4⟩
        clear hBc0 hBf0 hBc1 hBf1 hBc2 hBf2 hBc3 hBf3
        clear hIc0 hIf0 hIc1 hIf1 hIc2 hIf2 hIc3 hIf3
        replace hB := hB.after hb4
        replace hI := hI.after hb4
        have hBc0 := hB.cell 0
        have hBf0 := hB.free 0
        have hBc1 := hB.cell 1
        have hBf1 := hB.free 1
        have hBc2 := hB.cell 2
        have hBf2 := hB.free 2
        have hBc3 := hB.cell 3
        have hBf3 := hB.free 3
        have hIc0 := hI.cell 0
        have hIf0 := hI.free 0
        have hIc1 := hI.cell 1
        have hIf1 := hI.free 1
        have hIc2 := hI.cell 2
        have hIf2 := hI.free 2
        have hIc3 := hI.cell 3
        have hIf3 := hI.free 3
        go_wp2_with fail
        refine (HCR.out _).mono ?_
        rintro e w5 ⟨rfl, hb5⟩
        go_wp2
        go_ret
        exact ⟨rfl, bt (bt hBW hb4) hb5⟩
      · have c1 := cmp_nneg a q (Nat.le_of_not_lt haq)
        clear haq
        go_wp2_with fail
        refine (HCA.out _).mono ?_
        rintro e w4 ⟨rfl, hb4⟩
        go_wp2
        go_ret
        exact ⟨rfl, bt hBW hb4⟩
    · go_wp2
      go_ret
      exact ⟨rfl, hBW⟩
  · go_wp2
    go_ret
    exact ⟨rfl, hBW⟩

set_option maxHeartbeats 3200000 in
theorem opened_ok (p q g h a r : Nat) (sn sm : Bool) (w : World) (hq : q < 256 ^ 128) (ha : a < 256 ^ 128) (hr : r < 256 ^ 128) (hv : (ivB sn (E a) && ivB sm (E r)) = true) (hsn : sn = false) (haq : a < q) (hsm : sm = false) (hrq : r < q)
    (hR : ∀ w : World, Calls Tryz.prog 36 #[.agg #[.string (E p), .string (E q), .string (E g), .string (E h)], .slice none 0 0] w fun e w' => e = .returned (.int .i64 0) ∧ Below w.heap.size w w') :
    Calls Tryz.prog 47 #[.agg #[.string (E p), .string (E q), .string (E g), .string (E h)], .agg #[.bool sn, .string (E a), .bool sm, .string (E r)]] w fun e w' => e = .returned (.int .i64 0) ∧ Below w.heap.size w w' := by
  have hB := blk2a w #[Value.string (E p), Value.string (E q), Value.string (E g), Value.string (E h)] #[.bool sn, .string (E a), .bool sm, .string (E r)] 26 47
  have hI := blk2b w #[Value.string (E p), Value.string (E q), Value.string (E g), Value.string (E h)] #[.bool sn, .string (E a), .bool sm, .string (E r)] 26 47
  have hBW := b2 w (.cells #[Value.string (E p), Value.string (E q), Value.string (E g), Value.string (E h)] 26) (.cells #[.bool sn, .string (E a), .bool sm, .string (E r)] 47)
  rw [Bool.and_eq_true] at hv
  have HVA := Lib.hid (fun w => rivalidV_c sn (E a) true w (sz1000 ha) hv.1)
  have HVR := Lib.hid (fun w => rivalidV_c sm (E r) true w (sz1000 hr) hv.2)
  have HR := Lib.hid hR
  have HCA := Lib.hid (fun w => rorder_c a q w (by have := sz1000 ha; omega) (by have := sz1000 hq; omega))
  have HCR := Lib.hid (fun w => rorder_c r q w (by have := sz1000 hr; omega) (by have := sz1000 hq; omega))
  have c1 := cmp_neg a q haq
  have c2 := cmp_neg r q hrq
  clear hq ha hr hv hR haq hrq
  subst hsn hsm
  have hIc0 := hI.cell 0
  have hIf0 := hI.free 0
  have hIc1 := hI.cell 1
  have hIf1 := hI.free 1
  have hIc2 := hI.cell 2
  have hIf2 := hI.free 2
  have hIc3 := hI.cell 3
  have hIf3 := hI.free 3
  go_enter Tryz.func47, Tryz.ntmps47
  go_wp2_with fail
  refine (HVA.out _).mono ?_
  rintro e w1 ⟨rfl, hb1⟩
  clear hIc0 hIf0 hIc1 hIf1 hIc2 hIf2 hIc3 hIf3
  replace hI := hI.after hb1
  replace hB := hB.after hb1
  have hIc0 := hI.cell 0
  have hIf0 := hI.free 0
  have hIc1 := hI.cell 1
  have hIf1 := hI.free 1
  have hIc2 := hI.cell 2
  have hIf2 := hI.free 2
  have hIc3 := hI.cell 3
  have hIf3 := hI.free 3
  go_wp2_with fail
  refine (HVR.out _).mono ?_
  rintro e w2 ⟨rfl, hb2⟩
  clear hIc0 hIf0 hIc1 hIf1 hIc2 hIf2 hIc3 hIf3
  replace hB := hB.after hb2
  replace hI := hI.after hb2
  have hBc0 := hB.cell 0
  have hBf0 := hB.free 0
  have hBc1 := hB.cell 1
  have hBf1 := hB.free 1
  have hBc2 := hB.cell 2
  have hBf2 := hB.free 2
  have hBc3 := hB.cell 3
  have hBf3 := hB.free 3
  go_wp2_with fail
  refine (HR.out _).mono ?_
  rintro e w3 ⟨rfl, hb3⟩
  clear hBc0 hBf0 hBc1 hBf1 hBc2 hBf2 hBc3 hBf3
  replace hB := hB.after hb3
  replace hI := hI.after hb3
  replace hBW := bt (bt (bt hBW hb1) hb2) hb3
  clear hb1 hb2 hb3
  have hl : w.heap.size < w3.heap.size := hB.lt
  have hl2 : w.heap.size + 1 < w3.heap.size := hI.lt
  have hBc0 := hB.cell 0
  have hBf0 := hB.free 0
  have hBc1 := hB.cell 1
  have hBf1 := hB.free 1
  have hBc2 := hB.cell 2
  have hBf2 := hB.free 2
  have hBc3 := hB.cell 3
  have hBf3 := hB.free 3
  have hIc0 := hI.cell 0
  have hIf0 := hI.free 0
  have hIc1 := hI.cell 1
  have hIf1 := hI.free 1
  have hIc2 := hI.cell 2
  have hIf2 := hI.free 2
  have hIc3 := hI.cell 3
  have hIf3 := hI.free 3
  go_wp2_with fail
  refine (HCA.out _).mono ?_
  rintro e w4 ⟨rfl, hb4⟩
  clear hBc0 hBf0 hBc1 hBf1 hBc2 hBf2 hBc3 hBf3
  clear hIc0 hIf0 hIc1 hIf1 hIc2 hIf2 hIc3 hIf3
  replace hB := hB.after hb4
  replace hI := hI.after hb4
  have hBc0 := hB.cell 0
  have hBf0 := hB.free 0
  have hBc1 := hB.cell 1
  have hBf1 := hB.free 1
  have hBc2 := hB.cell 2
  have hBf2 := hB.free 2
  have hBc3 := hB.cell 3
  have hBf3 := hB.free 3
  have hIc0 := hI.cell 0
  have hIf0 := hI.free 0
  have hIc1 := hI.cell 1
  have hIf1 := hI.free 1
  have hIc2 := hI.cell 2
  have hIf2 := hI.free 2
  have hIc3 := hI.cell 3
  have hIf3 := hI.free 3
  go_wp2_with fail
  refine (HCR.out _).mono ?_
  rintro e w5 ⟨rfl, hb5⟩
  go_wp2
  go_ret
  exact ⟨rfl, bt (bt hBW hb4) hb5⟩

set_option maxHeartbeats 1600000 in
theorem rdist_c (p q g h a : Nat) (sn sm : Bool) (r : ByteArray) (v : Int) (w : World) (hq : q < 256 ^ 8) (hq0 : 0 < q) (ha : a < 256 ^ 8) (h1 : -9223372036854775808 ≤ v) (h2 : v ≤ 9223372036854775807) :
    Calls Tryz.prog 50 #[.agg #[.string (E p), .string (E q), .string (E g), .string (E h)], .agg #[.bool sn, .string (E a), .bool sm, .string r], .int .i64 v] w fun e w' => e = .returned (.string (E (distN q a v))) ∧ Below w.heap.size w w' := by
  have hq64 : q < 256 ^ 64 := Nat.lt_trans hq (by decide)
  have HO := Lib.hid (fun w => riof_c v w h1 h2)
  have HM := Lib.hid (fun w => rimod_c v q w (lt128 (i64_8 h1 h2)) (lt128 hq) hq0)
  have HS := Lib.hid (fun w => rsub3_c a (v % (q : Int)).toNat q w (lt128 ha) (lt128 (Nat.lt_trans (emod_lt' v q hq0) hq)) hq64 hq0)
  have HD : Hid (distN q a v = subM a (v % (q : Int)).toNat q) := rfl
  have hB := blk2a w #[Value.string (E p), Value.string (E q), Value.string (E g), Value.string (E h)] #[.bool sn, .string (E a), .bool sm, .string r] 26 47
  have hI := blk2b w #[Value.string (E p), Value.string (E q), Value.string (E g), Value.string (E h)] #[.bool sn, .string (E a), .bool sm, .string r] 26 47
  clear hq hq0 ha hq64
  generalize (v % (q : Int)).toNat = vm at HM HS HD
  have hBc0 := hB.cell 0
  have hBf0 := hB.free 0
  have hBc1 := hB.cell 1
  have hBf1 := hB.free 1
  have hBc2 := hB.cell 2
  have hBf2 := hB.free 2
  have hBc3 := hB.cell 3
  have hBf3 := hB.free 3
  go_enter Tryz.func50, Tryz.ntmps50
  go_wp2_with fail
  refine (HO.out _).mono ?_
  rintro e w1 ⟨rfl, hb1⟩
  go_wp2_with fail
  refine (HM.out _).mono ?_
  rintro e w2 ⟨rfl, hb2⟩
  replace hI := hI.after hb1
  replace hI := hI.after hb2
  have hIc0 := hI.cell 0
  have hIf0 := hI.free 0
  have hIc1 := hI.cell 1
  have hIf1 := hI.free 1
  have hIc2 := hI.cell 2
  have hIf2 := hI.free 2
  have hIc3 := hI.cell 3
  have hIf3 := hI.free 3
  go_wp2_with fail
  refine (HS.out _).mono ?_
  rintro e w3 ⟨rfl, hb3⟩
  go_wp2
  go_ret
  exact ⟨rE HD.out.symm, bt (bt (bt (b2 _ _ _) hb1) hb2) hb3⟩

set_option maxHeartbeats 1000000 in
theorem rinv3_none (a m : Nat) (w : World) (ha : a < 256 ^ 128) (hm : m < 256 ^ 32) (h0 : 0 < m) (hg : Nat.gcd a m ≠ 1) :
    Calls Tryz.prog 87 #[.string (E a), .string (E m)] w fun r w' => r = .returned (.tuple #[.string (E 0), .int .i64 9]) ∧ Below w.heap.size w w' := by
  have hm64 : m < 256 ^ 64 := Nat.lt_of_lt_of_le hm (Nat.pow_le_pow_right (by decide) (by decide))
  have HC := Lib.hid (rcheck_c w.heap.size [a] m 22 (w.alloc (.cells #[.string (E a), .string (E m)] 22)) (by simp) (by simp [ha]) (lt64 hm64) (Blk.new _ _ _) h0)
  have hla := Nat.mod_lt a h0
  have hg2 : Nat.gcd (a % m) m ≠ 1 := by rw [gcd_red]; exact hg
  have HA := Lib.hid ha
  have HM := Lib.hid (lt64 hm64)
  have HM32 := Lib.hid hm
  have HA32 := Lib.hid (Nat.lt_trans hla hm)
  have H0 := Lib.hid h0
  have HO := Lib.hid (show ∀ w : World, Calls Tryz.prog 100 #[.int .u64 1] w fun e w' => e = .returned (.string (E 1)) ∧ Below w.heap.size w w' from fun w => rof_c 1 w (by decide))
  have heq := neE hg2
  clear ha hm h0 hm64 hla hg hg2
  go_enter Tryz.func87, Tryz.ntmps87
  go_wp2_with fail
  refine (HC.out).mono ?_
  rintro e w' ⟨rfl, rfl⟩
  go_wp2_with fail
  refine (rmod3_c a m _ HA.out HM.out H0.out).mono ?_
  rintro e w1 ⟨rfl, hb1⟩
  go_wp2_with fail
  refine (rext_c (a % m) m _ HA32.out HM32.out H0.out).mono ?_
  rintro e w2 ⟨rfl, hb2⟩
  generalize Nat.gcd (a % m) m = gg at heq
  generalize invR (a % m) m = v
  generalize extY (a % m) m = y
  go_wp2_with fail
  refine (HO.out _).mono ?_
  rintro e w3 ⟨rfl, hb3⟩
  go_wp2
  go_ret2
  exact ⟨rfl, bt (ba (ba (bt (bt (b1 _ _) hb1) hb2) _) _) hb3⟩

/-- a key and an opening of at most 8 bytes: an error that both report, or reduced numbers -/
theorem opened_cases (ka kb kc kd : ByteArray) (sn : Bool) (a : ByteArray) (sm : Bool) (r : ByteArray) (h1 : ka.size ≤ 8) (h2 : kb.size ≤ 8) (h3 : kc.size ≤ 8) (h4 : kd.size ≤ 8) (h5 : a.size ≤ 8) (h6 : r.size ≤ 8) :
    (∃ k : Nat, k ≠ 0 ∧ (∀ w : World, Calls Tryz.prog 41 #[.agg #[.string ka, .string kb, .string kc, .string kd], .agg #[.bool sn, .string a, .bool sm, .string r]] w fun e w' => e = .returned (.int .i64 k) ∧ Below w.heap.size w w') ∧
      (∀ w : World, Calls Tryz.prog 47 #[.agg #[.string ka, .string kb, .string kc, .string kd], .agg #[.bool sn, .string a, .bool sm, .string r]] w fun e w' => e = .returned (.int .i64 k) ∧ Below w.heap.size w w')) ∨
    (∃ p q g h x y : Nat, (p < 256 ^ 8 ∧ q < 256 ^ 8 ∧ g < 256 ^ 8 ∧ h < 256 ^ 8 ∧ x < q ∧ y < q) ∧ ka = E p ∧ kb = E q ∧ kc = E g ∧ kd = E h ∧ sn = false ∧ a = E x ∧ sm = false ∧ r = E y ∧ readyN p q g h [] = 0) := by
  cases hv : (ivB sn a && ivB sm r)
  · exact .inl ⟨3, by decide, fun w => reduced_form ka kb kc kd sn a sm r w (by omega) (by omega) hv, fun w => opened_form ka kb kc kd sn a sm r w (by omega) (by omega) hv⟩
  · have hv2 := hv
    rw [Bool.and_eq_true] at hv2
    have hva : vldB a = true := by have := hv2.1; unfold ivB at this; rw [Bool.and_eq_true] at this; exact this.1
    have hvr : vldB r = true := by have := hv2.2; unfold ivB at this; rw [Bool.and_eq_true] at this; exact this.1
    cases hk : vl4 ka kb kc kd
    · exact .inl ⟨3, by decide, fun w => reduced_key ka kb kc kd sn a sm r 3 w (by omega) (by omega) hv (by decide) fun w => ready_bad2 ka kb kc kd [] none 0 w rfl (by omega) (by simp) (strs0 w none) rfl (by omega) (by omega) (by omega) (by omega) hk,
        fun w => opened_key ka kb kc kd sn a sm r 3 w (by omega) (by omega) hv (by decide) fun w => rready_bad2 ka kb kc kd [] none 0 w rfl (by omega) (by simp) (strs0 w none) rfl (by omega) (by omega) (by omega) (by omega) hk⟩
    · simp only [vl4, Bool.and_eq_true] at hk
      obtain ⟨x, hx, rfl⟩ := num8 h5 hva
      obtain ⟨y, hy, rfl⟩ := num8 h6 hvr
      obtain ⟨p, hp, rfl⟩ := num8 h1 hk.1.1.1
      obtain ⟨q, hq, rfl⟩ := num8 h2 hk.1.1.2
      obtain ⟨g, hg, rfl⟩ := num8 h3 hk.1.2
      obtain ⟨h, hh, rfl⟩ := num8 h4 hk.2
      have R1 := fun w => ready_num p q g h [] none 0 w rfl (by omega) (by simp) (strs0 w none) hp (lt128 hq) (lt128 hg) (lt128 hh)
      have R2 := fun w => rready_num p q g h [] none 0 w rfl (by omega) (by simp) (strs0 w none) hp (lt128 hq) (lt128 hg) (lt128 hh)
      by_cases h0 : readyN p q g h [] = 0
      · rw [h0] at R1 R2
        by_cases hn : sn = false ∧ x < q ∧ sm = false ∧ y < q
        · exact .inr ⟨p, q, g, h, x, y, ⟨hp, hq, hg, hh, hn.2.1, hn.2.2.2⟩, rfl, rfl, rfl, rfl, hn.1, rfl, hn.2.2.1, rfl, h0⟩
        · exact .inl ⟨2, by decide, fun w => reduced_range p q g h x y sn sm w (lt128 hq) (lt128 hx) (lt128 hy) hv hn R1, fun w => opened_range p q g h x y sn sm w (lt128 hq) (lt128 hx) (lt128 hy) hv hn R2⟩
      · exact .inl ⟨readyN p q g h [], h0, fun w => reduced_key _ _ _ _ sn _ sm _ _ w (by omega) (by omega) hv h0 R1, fun w => opened_key _ _ _ _ sn _ sm _ _ w (by omega) (by omega) hv h0 R2⟩

end Go.Proofs.YtecobjddpinonaaGreat
end

section
set_option linter.unusedVariables false
set_option linter.unusedSimpArgs false
set_option maxRecDepth 100000
namespace Go.Proofs.YtecobjddpinonaaGreat
open Go.RowKit

/-- the cells of a list of integers -/
def ics (L : List (Bool × ByteArray)) : List Value := L.flatMap fun x => [.bool x.1, .string x.2]

theorem ics_len (L : List (Bool × ByteArray)) : (ics L).length = L.length * 2 := by
  induction L with
  | nil => rfl
  | cons x t ih => simp [ics] at ih ⊢; omega

theorem ics_get (L : List (Bool × ByteArray)) (j : Nat) (h : j < L.length) : (ics L)[j * 2]? = some (.bool L[j].1) ∧ (ics L)[j * 2 + 1]? = some (.string L[j].2) := by
  induction L generalizing j with
  | nil => simp at h
  | cons x t ih =>
    cases j with
    | zero => exact ⟨rfl, rfl⟩
    | succ j =>
      have h' : j < t.length := by simpa using h
      have := ih j h'
      rw [show (j + 1) * 2 = j * 2 + 2 by omega]
      simpa [ics] using this

/-- a slice of integers -/
def IAt (w : World) (v : Value) (L : List (Bool × ByteArray)) : Prop := w.ownsRow 0 45 2 v L.length (ics L)

theorem IAt.nil (w : World) : IAt w (.slice none 0 0) [] := World.ownsRow_nil _ _ _ _

theorem own_blk {w : World} {b : Nat} {T : TypeId} {size n : Nat} {cs : List Value} (h : Blk w b T cs) (hn : cs.length = n * size) (hm : n ≤ maxLen) : w.ownsRow 0 T size (.slice (some ⟨b, 0, none⟩) n n) n cs :=
  ⟨hn, .inr ⟨b, n, cs.toArray, rfl, Nat.zero_le _, h, Nat.le_refl _, hm, by simpa using hn, by simp [← hn]⟩⟩

theorem IAt.blk {w : World} {b n : Nat} {L : List (Bool × ByteArray)} (h : Blk w b 45 (ics L)) (hn : L.length = n) (hm : n ≤ maxLen) : IAt w (.slice (some ⟨b, 0, none⟩) n n) L := by
  subst hn
  exact own_blk h (ics_len L) hm

theorem IAt.after {w w' : World} {v : Value} {L : List (Bool × ByteArray)} (h : IAt w v L) (hb : Below w.heap.size w w') : IAt w' v L := own_after h hb

theorem IAt.form {w : World} {v : Value} {L : List (Bool × ByteArray)} (h : IAt w v L) : ∃ ao c, v = .slice ao L.length c := by
  rcases h.2 with ⟨rfl, h2⟩ | ⟨g, cap, cur, rfl, _⟩
  · exact ⟨none, 0, by rw [h2]⟩
  · exact ⟨_, _, rfl⟩

theorem IAt.at_ {w : World} {ao : Option Addr} {n c : Nat} {L : List (Bool × ByteArray)} (h : IAt w (.slice ao n c) L) {j : Nat} (hj : j < L.length) :
    ∃ b, ao = some ⟨b, 0, none⟩ ∧ b < w.heap.size ∧ w.cell? ⟨b, j * 2, none⟩ = some (.bool L[j].1) ∧ w.cell? ⟨b, j * 2 + 1, none⟩ = some (.string L[j].2) := by
  have h0 := h
  rcases h.2 with ⟨hv, h2⟩ | ⟨g, cap, cur, hv, h3, h4, _⟩
  · omega
  · injection hv with e1 e2 e3
    subst e1 e2 e3
    obtain ⟨q1, q2⟩ := ics_get L j hj
    exact ⟨g, rfl, (Array.getElem?_eq_some_iff.1 h4).1, own_cellS h0 _ _ q1, own_cellS h0 _ _ q2⟩

theorem gcell_of {w : World} {a : Addr} {v : Value} (h : w.cell? a = some v) (hb : a.block < w.heap.size) : ∀ x : GW w, (gw x).cell? a = some v := fun x => ((gw_below x).cell hb).trans h

set_option maxHeartbeats 1600000 in
theorem iseq_c (u v : Value) (L : List (Bool × ByteArray)) (w : World) (hn : L.length ≤ 1000000) (hA : IAt w u L) (hB : IAt w v L) :
    Calls Tryz.prog 20 #[u, v] w fun e w' => e = .returned (.bool true) ∧ Below w.heap.size w w' := by
  obtain ⟨ao, c, rfl⟩ := hA.form
  obtain ⟨bo, d, rfl⟩ := hB.form
  obtain ⟨n, hLn⟩ : ∃ n, L.length = n := ⟨_, rfl⟩
  have HLN := Lib.hid hLn
  rw [hLn] at hA hB hn ⊢
  clear hLn
  go_enter Tryz.func20, Tryz.ntmps20
  go_wp2
  go_loopw [13] (fun i wr => ∃ k : Nat, k ≤ n ∧ i = .int .i64 k ∧ Below w.heap.size w wr) (fun i _ => n - (intOf i).toNat)
  case atStart => exact ⟨0, by omega, rfl, Below.refl _ _⟩
  case round =>
    obtain ⟨k, hk, rfl, hbr⟩ := hrel
    obtain ⟨wp, hwp⟩ : ∃ wp, wp = wr := ⟨_, rfl⟩
    subst hwp
    replace hA := hA.after hbr
    replace hB := hB.after hbr
    by_cases hlt : k < n
    · have hkl : k < L.length := by rw [HLN.out]; exact hlt
      obtain ⟨b, rfl, l1, x1, x2⟩ := hA.at_ hkl
      obtain ⟨b', rfl, l2, y1, y2⟩ := hB.at_ hkl
      generalize L[k].1 = s at x1 y1
      generalize L[k].2 = t at x2 y2
      have gx1 := gcell_of x1 l1
      have gx2 := gcell_of x2 l1
      have gy1 := gcell_of y1 l2
      have gy2 := gcell_of y2 l2
      clear x1 x2 y1 y2 hA hB
      go_wp2_with fail
      refine wp_region_gw (by kernel_rfl) (by kernel_rfl) ?_
      repeat (go_big_quiet_step (first | (fail)))
      refine wpQuiet_nil ?_
      rintro w2 ⟨xw2, rfl⟩
      have hb2 := gw_below xw2
      generalize gw xw2 = w2 at hb2
      go_wp2
      go_roundw
      case rel => exact ⟨k + 1, by omega, by go_num, bt hbr hb2⟩
      case measure => simp [intOf]; omega
    · obtain rfl : k = n := by omega
      go_wp2
      go_ret
      exact ⟨rfl, hbr⟩

end Go.Proofs.YtecobjddpinonaaGreat
end

section
set_option linter.unusedVariables false
set_option linter.unusedSimpArgs false
set_option maxRecDepth 100000
namespace Go.Proofs.YtecobjddpinonaaGreat
open Go.RowKit

/-- the error of a witness that the opened number is another one -/
def witE (q a : Nat) (v : Int) : Nat := if distN q a v = 0 then 18 else if Nat.gcd (distN q a v) q = 1 then 0 else 9
/-- the witness -/
def witL (q a r : Nat) (v : Int) : List (Bool × ByteArray) := if witE q a v = 0 then [(false, E (invN (distN q a v % q) q)), (false, E (subM 0 (invN (distN q a v % q) q * r % q) q))] else []

/-- a list of integers and an error are returned -/
def WPost (w : World) (L : List (Bool × ByteArray)) (k : Nat) (e : Ending) (w' : World) : Prop := ∃ v, e = .returned (.tuple #[v, .int .i64 k]) ∧ IAt w' v L ∧ Below w.heap.size w w'

theorem wpost_nil {P : Program} {f : FuncId} {args : Array Value} {w : World} {k k' : Nat} {L : List (Bool × ByteArray)} (hk : k = k') (hL : L = []) (h : Calls P f args w fun e w' => e = .returned (.tuple #[.slice none 0 0, .int .i64 k']) ∧ Below w.heap.size w w') : Calls P f args w (WPost w L k) := by
  subst hk; subst hL
  refine h.mono ?_
  rintro e w' ⟨rfl, hb⟩
  exact ⟨_, rfl, IAt.nil _, hb⟩

theorem wpost_two {P : Program} {f : FuncId} {args : Array Value} {w : World} {k x y : Nat} {L : List (Bool × ByteArray)} (hk : k = 0) (hL : L = [(false, E x), (false, E y)]) (h : Calls P f args w (WitPost w x y)) : Calls P f args w (WPost w L k) := by
  subst hk; subst hL
  refine h.mono ?_
  rintro e w' ⟨b, rfl, hB, hb⟩
  rw [sg_nat, sg_nat] at hB
  exact ⟨_, rfl, IAt.blk (L := [(false, E x), (false, E y)]) hB rfl (by unfold maxLen; omega), hb⟩

set_option maxHeartbeats 1600000 in
theorem notwit_err (ka kb kc kd : ByteArray) (sn : Bool) (a : ByteArray) (sm : Bool) (r : ByteArray) (v : Int) (k : Nat) (w : World) (hk : k ≠ 0)
    (hR : ∀ w : World, Calls Tryz.prog 41 #[.agg #[.string ka, .string kb, .string kc, .string kd], .agg #[.bool sn, .string a, .bool sm, .string r]] w fun e w' => e = .returned (.int .i64 k) ∧ Below w.heap.size w w') :
    Calls Tryz.prog 18 #[.agg #[.string ka, .string kb, .string kc, .string kd], .agg #[.bool sn, .string a, .bool sm, .string r], .int .i64 v] w fun e w' => e = .returned (.tuple #[.slice none 0 0, .int .i64 k]) ∧ Below w.heap.size w w' := by
  have hB := blk2a w #[Value.string ka, Value.string kb, Value.string kc, Value.string kd] #[.bool sn, .string a, .bool sm, .string r] 26 47
  have hI := blk2b w #[Value.string ka, Value.string kb, Value.string kc, Value.string kd] #[.bool sn, .string a, .bool sm, .string r] 26 47
  have HR := Lib.hid hR
  have e1 : ((k : Int) == 0) = false := by rw [beq_eq_false_iff_ne]; omega
  have e2 : ((k : Int) != 0) = true := by rw [bne_iff_ne]; omega
  clear hR
  have hBc0 := hB.cell 0
  have hBf0 := hB.free 0
  have hBc1 := hB.cell 1
  have hBf1 := hB.free 1
  have hBc2 := hB.cell 2
  have hBf2 := hB.free 2
  have hBc3 := hB.cell 3
  have hBf3 := hB.free 3
  have hIc0 := hI.cell 0
  have hIf0 := hI.free 0
  have hIc1 := hI.cell 1
  have hIf1 := hI.free 1
  have hIc2 := hI.cell 2
  have hIf2 := hI.free 2
  have hIc3 := hI.cell 3
  have hIf3 := hI.free 3
  go_enter Tryz.func18, Tryz.ntmps18
  go_wp2_with fail
  refine (HR.out _).mono ?_
  rintro e w1 ⟨rfl, hb1⟩
  go_wp2
  go_ret2
  exact ⟨rfl, bt (b2 _ _ _) hb1⟩

set_option maxHeartbeats 1600000 in
theorem rnotwit_err (ka kb kc kd : ByteArray) (sn : Bool) (a : ByteArray) (sm : Bool) (r : ByteArray) (v : Int) (k : Nat) (w : World) (hk : k ≠ 0)
    (hR : ∀ w : World, Calls Tryz.prog 47 #[.agg #[.string ka, .string kb, .string kc, .string kd], .agg #[.bool sn, .string a, .bool sm, .string r]] w fun e w' => e = .returned (.int .i64 k) ∧ Below w.heap.size w w') :
    Calls Tryz.prog 19 #[.agg #[.string ka, .string kb, .string kc, .string kd], .agg #[.bool sn, .string a, .bool sm, .string r], .int .i64 v] w fun e w' => e = .returned (.tuple #[.slice none 0 0, .int .i64 k]) ∧ Below w.heap.size w w' := by
  have hB := blk2a w #[Value.string ka, Value.string kb, Value.string kc, Value.string kd] #[.bool sn, .string a, .bool sm, .string r] 26 47
  have hI := blk2b w #[Value.string ka, Value.string kb, Value.string kc, Value.string kd] #[.bool sn, .string a, .bool sm, .string r] 26 47
  have HR := Lib.hid hR
  have e1 : ((k : Int) == 0) = false := by rw [beq_eq_false_iff_ne]; omega
  have e2 : ((k : Int) != 0) = true := by rw [bne_iff_ne]; omega
  clear hR
  have hBc0 := hB.cell 0
  have hBf0 := hB.free 0
  have hBc1 := hB.cell 1
  have hBf1 := hB.free 1
  have hBc2 := hB.cell 2
  have hBf2 := hB.free 2
  have hBc3 := hB.cell 3
  have hBf3 := hB.free 3
  have hIc0 := hI.cell 0
  have hIf0 := hI.free 0
  have hIc1 := hI.cell 1
  have hIf1 := hI.free 1
  have hIc2 := hI.cell 2
  have hIf2 := hI.free 2
  have hIc3 := hI.cell 3
  have hIf3 := hI.free 3
  go_enter Tryz.func19, Tryz.ntmps19
  go_wp2_with fail
  refine (HR.out _).mono ?_
  rintro e w1 ⟨rfl, hb1⟩
  go_wp2
  go_ret2
  exact ⟨rfl, bt (b2 _ _ _) hb1⟩

section
variable (p q g h a r : Nat) (v : Int) (w : World) (hp : p < 256 ^ 8) (hq : q < 256 ^ 8) (hgb : g < 256 ^ 8) (hhb : h < 256 ^ 8) (ha : a < q) (hr : r < q) (he : readyN p q g h [] = 0) (h1 : -9223372036854775808 ≤ v) (h2 : v ≤ 9223372036854775807)
include hp hq hgb hhb ha hr he h1 h2

set_option maxHeartbeats 1600000 in
theorem notwit_zero (hd : distN q a v = 0) :
    Calls Tryz.prog 18 #[.agg #[.string (E p), .string (E q), .string (E g), .string (E h)], .agg #[.bool false, .string (E a), .bool false, .string (E r)], .int .i64 v] w fun e w' => e = .returned (.tuple #[.slice none 0 0, .int .i64 (18 : Nat)]) ∧ Below w.heap.size w w' := by
  have hq0 : 0 < q := by omega
  have HRD := Lib.hid (fun w => reduced_ok p q g h a r w hp hq (lt128 hgb) (lt128 hhb) ha hr he)
  have HD := Lib.hid (fun w => distance_c p q g h a false false (E r) v w hq hq0 (Nat.lt_trans ha hq) h1 h2)
  rw [hd] at HD
  have hz := zE (rfl : 0 = 0)
  have hB := blk2a w #[Value.string (E p), Value.string (E q), Value.string (E g), Value.string (E h)] #[.bool false, .string (E a), .bool false, .string (E r)] 26 47
  have hI := blk2b w #[Value.string (E p), Value.string (E q), Value.string (E g), Value.string (E h)] #[.bool false, .string (E a), .bool false, .string (E r)] 26 47
  clear hp hq hgb hhb ha hr he hd hq0
  have hBc0 := hB.cell 0
  have hBf0 := hB.free 0
  have hBc1 := hB.cell 1
  have hBf1 := hB.free 1
  have hBc2 := hB.cell 2
  have hBf2 := hB.free 2
  have hBc3 := hB.cell 3
  have hBf3 := hB.free 3
  have hIc0 := hI.cell 0
  have hIf0 := hI.free 0
  have hIc1 := hI.cell 1
  have hIf1 := hI.free 1
  have hIc2 := hI.cell 2
  have hIf2 := hI.free 2
  have hIc3 := hI.cell 3
  have hIf3 := hI.free 3
  go_enter Tryz.func18, Tryz.ntmps18
  go_wp2_with fail
  refine (HRD.out _).mono ?_
  rintro e w1 ⟨rfl, hb1⟩
  clear hBc0 hBf0 hBc1 hBf1 hBc2 hBf2 hBc3 hBf3
  clear hIc0 hIf0 hIc1 hIf1 hIc2 hIf2 hIc3 hIf3
  replace hB := hB.after hb1
  replace hI := hI.after hb1
  have hBc0 := hB.cell 0
  have hBf0 := hB.free 0
  have hBc1 := hB.cell 1
  have hBf1 := hB.free 1
  have hBc2 := hB.cell 2
  have hBf2 := hB.free 2
  have hBc3 := hB.cell 3
  have hBf3 := hB.free 3
  have hIc0 := hI.cell 0
  have hIf0 := hI.free 0
  have hIc1 := hI.cell 1
  have hIf1 := hI.free 1
  have hIc2 := hI.cell 2
  have hIf2 := hI.free 2
  have hIc3 := hI.cell 3
  have hIf3 := hI.free 3
  go_wp2_with fail
  refine (HD.out _).mono ?_
  rintro e w2 ⟨rfl, hb2⟩
  go_wp2
  go_ret2
  exact ⟨rfl, bt (bt (b2 _ _ _) hb1) hb2⟩

set_option maxHeartbeats 1600000 in
theorem notwit_none (d : Nat) (hd : distN q a v = d) (hd0 : 0 < d) (hco : Nat.gcd d q ≠ 1) :
    Calls Tryz.prog 18 #[.agg #[.string (E p), .string (E q), .string (E g), .string (E h)], .agg #[.bool false, .string (E a), .bool false, .string (E r)], .int .i64 v] w fun e w' => e = .returned (.tuple #[.slice none 0 0, .int .i64 (9 : Nat)]) ∧ Below w.heap.size w w' := by
  have hq0 : 0 < q := by omega
  have hdq : d < 256 ^ 8 := by rw [← hd]; exact Nat.lt_trans (subM_lt _ _ _ hq0) hq
  have HRD := Lib.hid (fun w => reduced_ok p q g h a r w hp hq (lt128 hgb) (lt128 hhb) ha hr he)
  have HD := Lib.hid (fun w => distance_c p q g h a false false (E r) v w hq hq0 (Nat.lt_trans ha hq) h1 h2)
  rw [hd] at HD
  have HI := Lib.hid (fun w => minv_none d q w hdq hq hq0 hco)
  have hzd := nzE hd0
  have hB := blk2a w #[Value.string (E p), Value.string (E q), Value.string (E g), Value.string (E h)] #[.bool false, .string (E a), .bool false, .string (E r)] 26 47
  have hI := blk2b w #[Value.string (E p), Value.string (E q), Value.string (E g), Value.string (E h)] #[.bool false, .string (E a), .bool false, .string (E r)] 26 47
  clear hp hq hgb hhb ha hr he hd hd0 hco hq0 hdq
  have hBc0 := hB.cell 0
  have hBf0 := hB.free 0
  have hBc1 := hB.cell 1
  have hBf1 := hB.free 1
  have hBc2 := hB.cell 2
  have hBf2 := hB.free 2
  have hBc3 := hB.cell 3
  have hBf3 := hB.free 3
  have hIc0 := hI.cell 0
  have hIf0 := hI.free 0
  have hIc1 := hI.cell 1
  have hIf1 := hI.free 1
  have hIc2 := hI.cell 2
  have hIf2 := hI.free 2
  have hIc3 := hI.cell 3
  have hIf3 := hI.free 3
  go_enter Tryz.func18, Tryz.ntmps18
  go_wp2_with fail
  refine (HRD.out _).mono ?_
  rintro e w1 ⟨rfl, hb1⟩
  clear hBc0 hBf0 hBc1 hBf1 hBc2 hBf2 hBc3 hBf3
  clear hIc0 hIf0 hIc1 hIf1 hIc2 hIf2 hIc3 hIf3
  replace hB := hB.after hb1
  replace hI := hI.after hb1
  have hBc0 := hB.cell 0
  have hBf0 := hB.free 0
  have hBc1 := hB.cell 1
  have hBf1 := hB.free 1
  have hBc2 := hB.cell 2
  have hBf2 := hB.free 2
  have hBc3 := hB.cell 3
  have hBf3 := hB.free 3
  have hIc0 := hI.cell 0
  have hIf0 := hI.free 0
  have hIc1 := hI.cell 1
  have hIf1 := hI.free 1
  have hIc2 := hI.cell 2
  have hIf2 := hI.free 2
  have hIc3 := hI.cell 3
  have hIf3 := hI.free 3
  go_wp2_with fail
  refine (HD.out _).mono ?_
  rintro e w2 ⟨rfl, hb2⟩
  go_wp2_with fail
  refine (HI.out _).mono ?_
  rintro e w3 ⟨rfl, hb3⟩
  go_wp2
  go_ret2
  exact ⟨rfl, bt (bt (bt (b2 _ _ _) hb1) hb2) hb3⟩

theorem notwit_c : Calls Tryz.prog 18 #[.agg #[.string (E p), .string (E q), .string (E g), .string (E h)], .agg #[.bool false, .string (E a), .bool false, .string (E r)], .int .i64 v] w (WPost w (witL q a r v) (witE q a v)) := by
  by_cases hd : distN q a v = 0
  · have he1 : witE q a v = 18 := by rw [witE, if_pos hd]
    exact wpost_nil he1 (by rw [witL, he1]; rfl) (notwit_zero p q g h a r v w hp hq hgb hhb ha hr he h1 h2 hd)
  · by_cases hco : Nat.gcd (distN q a v) q = 1
    · have he1 : witE q a v = 0 := by rw [witE, if_neg hd, if_pos hco]
      exact wpost_two he1 (by rw [witL, if_pos he1]) (notwit_ok p q g h a r _ v w hp hq (lt128 hgb) (lt128 hhb) ha hr he h1 h2 rfl (Nat.pos_of_ne_zero hd) hco)
    · have he1 : witE q a v = 9 := by rw [witE, if_neg hd, if_neg hco]
      exact wpost_nil he1 (by rw [witL, he1]; rfl) (notwit_none p q g h a r v w hp hq hgb hhb ha hr he h1 h2 _ rfl (Nat.pos_of_ne_zero hd) hco)
end

section
variable (p q g h a r : Nat) (v : Int) (w : World) (hq : q < 256 ^ 8) (ha : a < q) (hr : r < q) (h1 : -9223372036854775808 ≤ v) (h2 : v ≤ 9223372036854775807)
include hq ha hr h1 h2

set_option maxHeartbeats 1600000 in
theorem rwit_zero (hd : distN q a v = 0) :
    Calls Tryz.prog 48 #[.agg #[.string (E p), .string (E q), .string (E g), .string (E h)], .agg #[.bool false, .string (E a), .bool false, .string (E r)], .int .i64 v] w fun e w' => e = .returned (.tuple #[.slice none 0 0, .int .i64 (18 : Nat)]) ∧ Below w.heap.size w w' := by
  have hq0 : 0 < q := by omega
  have HD := Lib.hid (fun w => rdist_c p q g h a false false (E r) v w hq hq0 (Nat.lt_trans ha hq) h1 h2)
  rw [hd] at HD
  have hz := zE (rfl : 0 = 0)
  have hB := blk2a w #[Value.string (E p), Value.string (E q), Value.string (E g), Value.string (E h)] #[.bool false, .string (E a), .bool false, .string (E r)] 26 47
  have hI := blk2b w #[Value.string (E p), Value.string (E q), Value.string (E g), Value.string (E h)] #[.bool false, .string (E a), .bool false, .string (E r)] 26 47
  clear hq ha hr hd hq0
  have hBc0 := hB.cell 0
  have hBf0 := hB.free 0
  have hBc1 := hB.cell 1
  have hBf1 := hB.free 1
  have hBc2 := hB.cell 2
  have hBf2 := hB.free 2
  have hBc3 := hB.cell 3
  have hBf3 := hB.free 3
  have hIc0 := hI.cell 0
  have hIf0 := hI.free 0
  have hIc1 := hI.cell 1
  have hIf1 := hI.free 1
  have hIc2 := hI.cell 2
  have hIf2 := hI.free 2
  have hIc3 := hI.cell 3
  have hIf3 := hI.free 3
  go_enter Tryz.func48, Tryz.ntmps48
  go_wp2_with fail
  refine (HD.out _).mono ?_
  rintro e w2 ⟨rfl, hb2⟩
  go_wp2
  go_ret2
  exact ⟨rfl, bt (b2 _ _ _) hb2⟩

set_option maxHeartbeats 1600000 in
theorem rwit_none (d : Nat) (hd : distN q a v = d) (hd0 : 0 < d) (hco : Nat.gcd d q ≠ 1) :
    Calls Tryz.prog 48 #[.agg #[.string (E p), .string (E q), .string (E g), .string (E h)], .agg #[.bool false, .string (E a), .bool false, .string (E r)], .int .i64 v] w fun e w' => e = .returned (.tuple #[.slice none 0 0, .int .i64 (9 : Nat)]) ∧ Below w.heap.size w w' := by
  have hq0 : 0 < q := by omega
  have hdq : d < 256 ^ 8 := by rw [← hd]; exact Nat.lt_trans (subM_lt _ _ _ hq0) hq
  have HD := Lib.hid (fun w => rdist_c p q g h a false false (E r) v w hq hq0 (Nat.lt_trans ha hq) h1 h2)
  rw [hd] at HD
  have HI := Lib.hid (fun w => rinv3_none d q w (lt128 hdq) (Nat.lt_trans hq (by decide)) hq0 hco)
  have hzd := nzE hd0
  have hB := blk2a w #[Value.string (E p), Value.string (E q), Value.string (E g), Value.string (E h)] #[.bool false, .string (E a), .bool false, .string (E r)] 26 47
  have hI := blk2b w #[Value.string (E p), Value.string (E q), Value.string (E g), Value.string (E h)] #[.bool false, .string (E a), .bool false, .string (E r)] 26 47
  clear hq ha hr hd hd0 hco hq0 hdq
  have hBc0 := hB.cell 0
  have hBf0 := hB.free 0
  have hBc1 := hB.cell 1
  have hBf1 := hB.free 1
  have hBc2 := hB.cell 2
  have hBf2 := hB.free 2
  have hBc3 := hB.cell 3
  have hBf3 := hB.free 3
  have hIc0 := hI.cell 0
  have hIf0 := hI.free 0
  have hIc1 := hI.cell 1
  have hIf1 := hI.free 1
  have hIc2 := hI.cell 2
  have hIf2 := hI.free 2
  have hIc3 := hI.cell 3
  have hIf3 := hI.free 3
  go_enter Tryz.func48, Tryz.ntmps48
  go_wp2_with fail
  refine (HD.out _).mono ?_
  rintro e w2 ⟨rfl, hb2⟩
  go_wp2_with fail
  refine (HI.out _).mono ?_
  rintro e w3 ⟨rfl, hb3⟩
  go_wp2
  go_ret2
  exact ⟨rfl, bt (bt (b2 _ _ _) hb2) hb3⟩

set_option maxHeartbeats 1600000 in
theorem rwit_ok (d : Nat) (hd : distN q a v = d) (hd0 : 0 < d) (hco : Nat.gcd d q = 1) :
    Calls Tryz.prog 48 #[.agg #[.string (E p), .string (E q), .string (E g), .string (E h)], .agg #[.bool false, .string (E a), .bool false, .string (E r)], .int .i64 v] w (WitPost w (invN (d % q) q) (subM 0 (invN (d % q) q * r % q) q)) := by
  have hq0 : 0 < q := by omega
  have hq64 : q < 256 ^ 64 := Nat.lt_trans hq (by decide)
  have hdq : d < 256 ^ 8 := by rw [← hd]; exact Nat.lt_trans (subM_lt _ _ _ hq0) hq
  have HD := Lib.hid (fun w => rdist_c p q g h a false false (E r) v w hq hq0 (Nat.lt_trans ha hq) h1 h2)
  rw [hd] at HD
  have HI := Lib.hid (fun w => rinv3_c d q w (lt128 hdq) (Nat.lt_trans hq (by decide)) hq0 hco)
  have hil := invN_lt (d % q) q hq0
  generalize invN (d % q) q = y at HI hil
  have HM := Lib.hid (fun w => rmul3_c y r q w (lt128 (Nat.lt_trans hil hq)) (lt128 (Nat.lt_trans hr hq)) hq64 hq0)
  have hzl := Nat.mod_lt (y * r) hq0
  generalize y * r % q = u at HM hzl
  have HS : Hid (∀ w : World, Calls Tryz.prog 89 #[.string { data := #[] }, .string (E u), .string (E q)] w fun e w' => e = .returned (.tuple #[.string (E (subM 0 u q)), .int .i64 0]) ∧ Below w.heap.size w w') := fun w => rsub3_c 0 u q w (by decide) (lt128 (Nat.lt_trans hzl hq)) hq64 hq0
  generalize subM 0 u q = z at HS
  have hzd := nzE hd0
  have hB := blk2a w #[Value.string (E p), Value.string (E q), Value.string (E g), Value.string (E h)] #[.bool false, .string (E a), .bool false, .string (E r)] 26 47
  have hI := blk2b w #[Value.string (E p), Value.string (E q), Value.string (E g), Value.string (E h)] #[.bool false, .string (E a), .bool false, .string (E r)] 26 47
  have hBW := b2 w (.cells #[Value.string (E p), Value.string (E q), Value.string (E g), Value.string (E h)] 26) (.cells #[.bool false, .string (E a), .bool false, .string (E r)] 47)
  clear hq ha hr hd hd0 hco hq0 hdq hq64 hil hzl
  have hBc0 := hB.cell 0
  have hBf0 := hB.free 0
  have hBc1 := hB.cell 1
  have hBf1 := hB.free 1
  have hBc2 := hB.cell 2
  have hBf2 := hB.free 2
  have hBc3 := hB.cell 3
  have hBf3 := hB.free 3
  have hIc0 := hI.cell 0
  have hIf0 := hI.free 0
  have hIc1 := hI.cell 1
  have hIf1 := hI.free 1
  have hIc2 := hI.cell 2
  have hIf2 := hI.free 2
  have hIc3 := hI.cell 3
  have hIf3 := hI.free 3
  go_enter Tryz.func48, Tryz.ntmps48
  go_wp2_with fail
  refine (HD.out _).mono ?_
  rintro e w2 ⟨rfl, hb2⟩
  go_wp2_with fail
  refine (HI.out _).mono ?_
  rintro e w3 ⟨rfl, hb3⟩
  clear hBc0 hBf0 hBc1 hBf1 hBc2 hBf2 hBc3 hBf3
  clear hIc0 hIf0 hIc1 hIf1 hIc2 hIf2 hIc3 hIf3
  replace hB := hB.after hb2
  replace hI := hI.after hb2
  replace hB := hB.after hb3
  replace hI := hI.after hb3
  have hBc0 := hB.cell 0
  have hBf0 := hB.free 0
  have hBc1 := hB.cell 1
  have hBf1 := hB.free 1
  have hBc2 := hB.cell 2
  have hBf2 := hB.free 2
  have hBc3 := hB.cell 3
  have hBf3 := hB.free 3
  have hIc0 := hI.cell 0
  have hIf0 := hI.free 0
  have hIc1 := hI.cell 1
  have hIf1 := hI.free 1
  have hIc2 := hI.cell 2
  have hIf2 := hI.free 2
  have hIc3 := hI.cell 3
  have hIf3 := hI.free 3
  go_wp2_with fail
  refine (HM.out _).mono ?_
  rintro e w4 ⟨rfl, hb4⟩
  go_wp2_with fail
  refine (HS.out _).mono ?_
  rintro e w5 ⟨rfl, hb5⟩
  go_wp2
  go_ret2
  refine ⟨w5.heap.size, rfl, ?_, ba (bt (bt (bt (bt hBW hb2) hb3) hb4) hb5) _⟩
  rw [sg_nat, sg_nat]
  exact Blk.new _ _ _

theorem rwit_c : Calls Tryz.prog 48 #[.agg #[.string (E p), .string (E q), .string (E g), .string (E h)], .agg #[.bool false, .string (E a), .bool false, .string (E r)], .int .i64 v] w (WPost w (witL q a r v) (witE q a v)) := by
  by_cases hd : distN q a v = 0
  · have he1 : witE q a v = 18 := by rw [witE, if_pos hd]
    exact wpost_nil he1 (by rw [witL, he1]; rfl) (rwit_zero p q g h a r v w hq ha hr h1 h2 hd)
  · by_cases hco : Nat.gcd (distN q a v) q = 1
    · have he1 : witE q a v = 0 := by rw [witE, if_neg hd, if_pos hco]
      exact wpost_two he1 (by rw [witL, if_pos he1]) (rwit_ok p q g h a r v w hq ha hr h1 h2 _ rfl (Nat.pos_of_ne_zero hd) hco)
    · have he1 : witE q a v = 9 := by rw [witE, if_neg hd, if_neg hco]
      exact wpost_nil he1 (by rw [witL, he1]; rfl) (rwit_none p q g h a r v w hq ha hr h1 h2 _ rfl (Nat.pos_of_ne_zero hd) hco)
end

theorem iv0 (a : Nat) (ha : a < 256 ^ 128) : ivB false (E a) = true := by have := ivB_I (a : Int) (by simpa using ha); rwa [sg_nat, Int.natAbs_natCast] at this

theorem openedT_c (p q g h a r : Nat) (w : World) (hp : p < 256 ^ 8) (hq : q < 256 ^ 8) (hgb : g < 256 ^ 8) (hhb : h < 256 ^ 8) (ha : a < q) (hr : r < q) (he : readyN p q g h [] = 0) :
    Calls Tryz.prog 47 #[.agg #[.string (E p), .string (E q), .string (E g), .string (E h)], .agg #[.bool false, .string (E a), .bool false, .string (E r)]] w fun e w' => e = .returned (.int .i64 0) ∧ Below w.heap.size w w' := by
  have R2 := fun w => rready_num p q g h [] none 0 w rfl (by omega) (by simp) (strs0 w none) hp (lt128 hq) (lt128 hgb) (lt128 hhb)
  rw [he] at R2
  have ha1 := lt128 (Nat.lt_trans ha hq)
  have hr1 := lt128 (Nat.lt_trans hr hq)
  exact opened_ok p q g h a r false false w (lt128 hq) ha1 hr1 (by rw [iv0 a ha1, iv0 r hr1]; rfl) rfl ha rfl hr R2

set_option maxHeartbeats 1600000 in
theorem rnotwit_c (p q g h a r : Nat) (v : Int) (w : World) (hp : p < 256 ^ 8) (hq : q < 256 ^ 8) (hgb : g < 256 ^ 8) (hhb : h < 256 ^ 8) (ha : a < q) (hr : r < q) (he : readyN p q g h [] = 0) (h1 : -9223372036854775808 ≤ v) (h2 : v ≤ 9223372036854775807) :
    Calls Tryz.prog 19 #[.agg #[.string (E p), .string (E q), .string (E g), .string (E h)], .agg #[.bool false, .string (E a), .bool false, .string (E r)], .int .i64 v] w (WPost w (witL q a r v) (witE q a v)) := by
  have HRD := Lib.hid (fun w => openedT_c p q g h a r w hp hq hgb hhb ha hr he)
  have HW := Lib.hid (fun w => rwit_c p q g h a r v w hq ha hr h1 h2)
  generalize witL q a r v = L at HW
  generalize witE q a v = k at HW
  have hB := blk2a w #[Value.string (E p), Value.string (E q), Value.string (E g), Value.string (E h)] #[.bool false, .string (E a), .bool false, .string (E r)] 26 47
  have hI := blk2b w #[Value.string (E p), Value.string (E q), Value.string (E g), Value.string (E h)] #[.bool false, .string (E a), .bool false, .string (E r)] 26 47
  clear hp hq hgb hhb ha hr he
  have hBc0 := hB.cell 0
  have hBf0 := hB.free 0
  have hBc1 := hB.cell 1
  have hBf1 := hB.free 1
  have hBc2 := hB.cell 2
  have hBf2 := hB.free 2
  have hBc3 := hB.cell 3
  have hBf3 := hB.free 3
  have hIc0 := hI.cell 0
  have hIf0 := hI.free 0
  have hIc1 := hI.cell 1
  have hIf1 := hI.free 1
  have hIc2 := hI.cell 2
  have hIf2 := hI.free 2
  have hIc3 := hI.cell 3
  have hIf3 := hI.free 3
  go_enter Tryz.func19, Tryz.ntmps19
  go_wp2_with fail
  refine (HRD.out _).mono ?_
  rintro e w1 ⟨rfl, hb1⟩
  clear hBc0 hBf0 hBc1 hBf1 hBc2 hBf2 hBc3 hBf3
  clear hIc0 hIf0 hIc1 hIf1 hIc2 hIf2 hIc3 hIf3
  replace hB := hB.after hb1
  replace hI := hI.after hb1
  have hBc0 := hB.cell 0
  have hBf0 := hB.free 0
  have hBc1 := hB.cell 1
  have hBf1 := hB.free 1
  have hBc2 := hB.cell 2
  have hBf2 := hB.free 2
  have hBc3 := hB.cell 3
  have hBf3 := hB.free 3
  have hIc0 := hI.cell 0
  have hIf0 := hI.free 0
  have hIc1 := hI.cell 1
  have hIf1 := hI.free 1
  have hIc2 := hI.cell 2
  have hIf2 := hI.free 2
  have hIc3 := hI.cell 3
  have hIf3 := hI.free 3
  go_wp2_with fail
  refine (HW.out _).mono ?_
  rintro e w2 ⟨u, rfl, hu, hb2⟩
  go_wp2
  go_ret2
  exact ⟨_, rfl, hu, bt (bt (b2 _ _ _) hb1) hb2⟩

end Go.Proofs.YtecobjddpinonaaGreat
end

section
set_option linter.unusedVariables false
set_option linter.unusedSimpArgs false
set_option maxRecDepth 100000
namespace Go.Proofs.YtecobjddpinonaaGreat
open Go.RowKit Go.Shelf

/-- a slice of slices of integers -/
def LAt (w : World) (base : Nat) (v : Value) (LL : List (List (Bool × ByteArray))) : Prop := ∃ xs, w.ownsRow base 49 1 v LL.length xs ∧ ∀ j (h : j < LL.length), ∃ u, xs[j]? = some u ∧ IAt w u LL[j]

theorem LAt.nil (w : World) (base : Nat) : LAt w base (.slice none 0 0) [] := ⟨[], World.ownsRow_nil _ _ _ _, fun j h => absurd h (Nat.not_lt_zero _)⟩

theorem LAt.after {w w' : World} {base : Nat} {v : Value} {LL : List (List (Bool × ByteArray))} (h : LAt w base v LL) (hb : Below w.heap.size w w') : LAt w' base v LL := by
  obtain ⟨xs, h1, h2⟩ := h
  refine ⟨xs, own_after h1 hb, fun j hj => ?_⟩
  obtain ⟨u, hu, hi⟩ := h2 j hj
  exact ⟨u, hu, hi.after hb⟩

theorem LAt.mono {w : World} {base b' : Nat} {v : Value} {LL : List (List (Bool × ByteArray))} (h : LAt w base v LL) (hb : b' ≤ base) : LAt w b' v LL := by
  obtain ⟨xs, ⟨h0, h1⟩, h2⟩ := h
  refine ⟨xs, ⟨h0, ?_⟩, h2⟩
  rcases h1 with h1 | ⟨g, cap, cur, h3, h4, h5⟩
  · exact .inl h1
  · exact .inr ⟨g, cap, cur, h3, Nat.le_trans hb h4, h5⟩

theorem IAt.grown {w w' : World} {base n : Nat} {u v : Value} {L : List (Bool × ByteArray)} {xs : List Value} (h : IAt w u L) (k : w.ownsRow base 49 1 v n xs) (hg : w.grownBy w' v.ownBlock) : IAt w' u L :=
  own_keep h fun g hv => hg.block g (own_lt h hv).1 (fun e => own_ne2 h k (by decide) hv e.symm)

theorem LAt.push {w w' : World} {base : Nat} {v v' u : Value} {LL : List (List (Bool × ByteArray))} {L : List (Bool × ByteArray)} {xs : List Value} (h1 : w.ownsRow base 49 1 v LL.length xs) (h2 : ∀ j (h : j < LL.length), ∃ u, xs[j]? = some u ∧ IAt w u LL[j]) (hu : IAt w u L)
    (hg : w.grownBy w' v.ownBlock) (ho : w'.ownsRow base 49 1 v' (LL.length + 1) (xs ++ [u])) : LAt w' base v' (LL ++ [L]) := by
  have hl : xs.length = LL.length := by have := h1.1; omega
  refine ⟨xs ++ [u], by simpa using ho, fun j hj => ?_⟩
  by_cases hjl : j < LL.length
  · obtain ⟨y, hy, hi⟩ := h2 j hjl
    refine ⟨y, by rw [List.getElem?_append_left (by omega)]; exact hy, ?_⟩
    rw [List.getElem_append_left hjl]
    exact hi.grown h1 hg
  · have hjj : j = LL.length := by simp at hj; omega
    subst hjj
    refine ⟨u, by rw [List.getElem?_append_right (by omega), hl]; simp, ?_⟩
    rw [List.getElem_append_right (by omega)]
    simpa using hu.grown h1 hg

theorem LAt.form {w : World} {base : Nat} {v : Value} {LL : List (List (Bool × ByteArray))} (h : LAt w base v LL) : ∃ ao c, v = .slice ao LL.length c := by
  obtain ⟨xs, ⟨_, h1⟩, _⟩ := h
  rcases h1 with ⟨rfl, h2⟩ | ⟨g, cap, cur, rfl, _⟩
  · exact ⟨none, 0, by rw [h2]⟩
  · exact ⟨_, _, rfl⟩

theorem LAt.at_ {w : World} {base n c : Nat} {ao : Option Addr} {LL : List (List (Bool × ByteArray))} (h : LAt w base (.slice ao n c) LL) {j : Nat} (hj : j < LL.length) :
    ∃ b u, ao = some ⟨b, 0, none⟩ ∧ b < w.heap.size ∧ w.cell? ⟨b, j, none⟩ = some u ∧ IAt w u LL[j] := by
  obtain ⟨xs, h0, h2⟩ := h
  obtain ⟨u, hu, hi⟩ := h2 j hj
  have h0' := h0
  rcases h0.2 with ⟨hv, h2⟩ | ⟨g, cap, cur, hv, h3, h4, _⟩
  · omega
  · injection hv with e1 e2 e3
    subst e1 e2 e3
    exact ⟨g, u, rfl, (Array.getElem?_eq_some_iff.1 h4).1, own_cellS h0' _ _ hu, hi⟩

set_option maxHeartbeats 800000 in
theorem samel1_c (u v : Value) (L : List (Bool × ByteArray)) (w : World) (hn : L.length ≤ 1000000) (hA : IAt w u L) (hB : IAt w v L) :
    Calls Tryz.prog 52 #[u, v] w fun e w' => e = .returned (.bool true) ∧ Below w.heap.size w w' := by
  have HE := Lib.hid (iseq_c u v L w hn hA hB)
  clear hn hA hB
  go_enter Tryz.func52, Tryz.ntmps52
  go_wp2_with fail
  refine (HE.out).mono ?_
  rintro e w1 ⟨rfl, hb1⟩
  go_wp2
  go_ret
  exact ⟨rfl, hb1⟩

set_option maxHeartbeats 1600000 in
theorem eqf_c (u v : Value) (LL : List (List (Bool × ByteArray))) (w : World) (hn : LL.length ≤ 1000000) (hnn : ∀ L ∈ LL, L.length ≤ 1000000) (hA : LAt w 0 u LL) (hB : LAt w 0 v LL) :
    Calls Tryz.prog 51 #[u, v, .func (.func 52) #[] #[]] w fun e w' => e = .returned (.bool true) ∧ Below w.heap.size w w' := by
  obtain ⟨ao, c, rfl⟩ := hA.form
  obtain ⟨bo, d, rfl⟩ := hB.form
  obtain ⟨n, hLn⟩ : ∃ n, LL.length = n := ⟨_, rfl⟩
  have HLN := Lib.hid hLn
  have HNN := Lib.hid hnn
  rw [hLn] at hA hB hn ⊢
  clear hLn hnn
  go_enter Tryz.func51, Tryz.ntmps51
  go_wp2
  go_loopw [17] (fun i wr => ∃ k : Nat, k ≤ n ∧ i = .int .i64 k ∧ Below w.heap.size w wr) (fun i _ => n - (intOf i).toNat)
  case atStart => exact ⟨0, by omega, rfl, Below.refl _ _⟩
  case round =>
    obtain ⟨k, hk, rfl, hbr⟩ := hrel
    obtain ⟨wp, hwp⟩ : ∃ wp, wp = wr := ⟨_, rfl⟩
    subst hwp
    replace hA := hA.after hbr
    replace hB := hB.after hbr
    by_cases hlt : k < n
    · have hkl : k < LL.length := by rw [HLN.out]; exact hlt
      obtain ⟨b, x, rfl, l1, x1, x2⟩ := hA.at_ hkl
      obtain ⟨b', y, rfl, l2, y1, y2⟩ := hB.at_ hkl
      have HS := Lib.hid (samel1_c x y LL[k] wp (HNN.out _ (List.getElem_mem hkl)) x2 y2)
      clear x2 y2 hA hB
      go_wp2_with fail
      refine (HS.out).mono ?_
      rintro e w2 ⟨rfl, hb2⟩
      go_wp2
      go_roundw
      case rel => exact ⟨k + 1, by omega, by go_num, bt hbr hb2⟩
      case measure => simp [intOf]; omega
    · obtain rfl : k = n := by omega
      go_wp2
      go_ret
      exact ⟨rfl, hbr⟩

set_option maxHeartbeats 800000 in
theorem samel_c (u v : Value) (LL : List (List (Bool × ByteArray))) (w : World) (hn : LL.length ≤ 1000000) (hnn : ∀ L ∈ LL, L.length ≤ 1000000) (hA : LAt w 0 u LL) (hB : LAt w 0 v LL) :
    Calls Tryz.prog 26 #[u, v] w fun e w' => e = .returned (.bool true) ∧ Below w.heap.size w w' := by
  have HE := Lib.hid (eqf_c u v LL w hn hnn hA hB)
  clear hn hnn hA hB
  go_enter Tryz.func26, Tryz.ntmps26
  go_wp2_with fail
  refine (HE.out).mono ?_
  rintro e w1 ⟨rfl, hb1⟩
  go_wp2
  go_ret
  exact ⟨rfl, hb1⟩

set_option maxHeartbeats 800000 in
theorem ewit_c (sn : Bool) (a : ByteArray) (sm : Bool) (r : ByteArray) (w : World) :
    Calls Tryz.prog 25 #[.agg #[.bool sn, .string a, .bool sm, .string r]] w fun e w' => ∃ b, e = .returned (.slice (some ⟨b, 0, none⟩) 1 1) ∧ Blk w' b 45 [.bool sm, .string r] ∧ Below w.heap.size w w' := by
  go_enter Tryz.func25, Tryz.ntmps25
  go_wp2
  go_ret
  exact ⟨w.heap.size + 1, rfl, blk2b _ _ _ _ _, b2 _ _ _⟩

/-- a slice of numbers that came in -/
def NumsAt (w : World) (ao : Option Addr) (V : List Int) : Prop := V.length = 0 ∨ ∃ b o, ao = some ⟨b, o, none⟩ ∧ b < w.heap.size ∧ ∀ j (h : j < V.length), w.cell? ⟨b, o + j, none⟩ = some (.int .i64 V[j])

theorem NumsAt.after {w w' : World} {ao : Option Addr} {V : List Int} (h : NumsAt w ao V) (hb : Below w.heap.size w w') : NumsAt w' ao V := by
  rcases h with h | ⟨b, o, h1, h2, h3⟩
  · exact .inl h
  · exact .inr ⟨b, o, h1, Nat.lt_of_lt_of_le h2 hb.size, fun j hj => (hb.cell (p := ⟨b, o + j, none⟩) h2).trans (h3 j hj)⟩

theorem NumsAt.at_ {w : World} {ao : Option Addr} {V : List Int} (h : NumsAt w ao V) {k : Nat} (hk : k < V.length) : ∃ b o, ao = some ⟨b, o, none⟩ ∧ b < w.heap.size ∧ w.cell? ⟨b, o + k, none⟩ = some (.int .i64 V[k]) := by
  rcases h with h | ⟨b, o, h1, h2, h3⟩
  · omega
  · exact ⟨b, o, h1, h2, h3 k hk⟩

end Go.Proofs.YtecobjddpinonaaGreat
end

section
set_option linter.unusedVariables false
set_option linter.unusedSimpArgs false
set_option maxRecDepth 100000
namespace Go.Proofs.YtecobjddpinonaaGreat
open Go.RowKit Go.Shelf

theorem info_irow : (Tryz.prog.info? 49).map (fun i => (i.zero, i.size, i.bytes)) = some (some (.slice none 0 0), 1, 24) := by kernel_rfl

/-- a list of lists and an error are returned -/
def LPost (w : World) (LL : List (List (Bool × ByteArray))) (k : Nat) (e : Ending) (w' : World) : Prop := ∃ v, e = .returned (.tuple #[v, .int .i64 k]) ∧ LAt w' 0 v LL ∧ Below w.heap.size w w'

def anyZ (q a : Nat) (V : List Int) : Bool := V.any fun v => decide (distN q a v = 0)
def memE (q a : Nat) (V : List Int) : Nat := if anyZ q a V then 0 else 18
def memL (q a r : Nat) (V : List Int) : List (List (Bool × ByteArray)) := if anyZ q a V then List.replicate V.length [(false, E r)] else []

theorem anyZ_take (q a : Nat) (V : List Int) (k : Nat) (h : k < V.length) : anyZ q a (V.take (k + 1)) = (anyZ q a (V.take k) || decide (distN q a V[k] = 0)) := by
  rw [anyZ, List.take_succ_eq_append_getElem h, List.any_append]
  simp [anyZ]

theorem rep_succ {α : Type} (k : Nat) (x : α) : List.replicate (k + 1) x = List.replicate k x ++ [x] := List.replicate_succ'

set_option maxHeartbeats 1600000 in
theorem mem_err (ka kb kc kd : ByteArray) (sn : Bool) (a : ByteArray) (sm : Bool) (r : ByteArray) (ao : Option Addr) (n c : Nat) (k : Nat) (w : World) (hk : k ≠ 0)
    (hR : ∀ w : World, Calls Tryz.prog 41 #[.agg #[.string ka, .string kb, .string kc, .string kd], .agg #[.bool sn, .string a, .bool sm, .string r]] w fun e w' => e = .returned (.int .i64 k) ∧ Below w.heap.size w w') :
    Calls Tryz.prog 21 #[.agg #[.string ka, .string kb, .string kc, .string kd], .agg #[.bool sn, .string a, .bool sm, .string r], .slice ao n c] w (LPost w [] k) := by
  have hB := blk2a w #[Value.string ka, Value.string kb, Value.string kc, Value.string kd] #[.bool sn, .string a, .bool sm, .string r] 26 47
  have hI := blk2b w #[Value.string ka, Value.string kb, Value.string kc, Value.string kd] #[.bool sn, .string a, .bool sm, .string r] 26 47
  have HR := Lib.hid hR
  have e1 : ((k : Int) == 0) = false := by rw [beq_eq_false_iff_ne]; omega
  have e2 : ((k : Int) != 0) = true := by rw [bne_iff_ne]; omega
  clear hR
  have hBc0 := hB.cell 0
  have hBf0 := hB.free 0
  have hBc1 := hB.cell 1
  have hBf1 := hB.free 1
  have hBc2 := hB.cell 2
  have hBf2 := hB.free 2
  have hBc3 := hB.cell 3
  have hBf3 := hB.free 3
  have hIc0 := hI.cell 0
  have hIf0 := hI.free 0
  have hIc1 := hI.cell 1
  have hIf1 := hI.free 1
  have hIc2 := hI.cell 2
  have hIf2 := hI.free 2
  have hIc3 := hI.cell 3
  have hIf3 := hI.free 3
  go_enter Tryz.func21, Tryz.ntmps21
  go_wp2_with fail
  refine (HR.out _).mono ?_
  rintro e w1 ⟨rfl, hb1⟩
  go_wp2
  go_ret2
  exact ⟨_, rfl, LAt.nil _ _, bt (b2 _ _ _) hb1⟩

set_option maxHeartbeats 1600000 in
theorem out_err (ka kb kc kd : ByteArray) (sn : Bool) (a : ByteArray) (sm : Bool) (r : ByteArray) (ao : Option Addr) (n c : Nat) (k : Nat) (w : World) (hk : k ≠ 0)
    (hR : ∀ w : World, Calls Tryz.prog 41 #[.agg #[.string ka, .string kb, .string kc, .string kd], .agg #[.bool sn, .string a, .bool sm, .string r]] w fun e w' => e = .returned (.int .i64 k) ∧ Below w.heap.size w w') :
    Calls Tryz.prog 23 #[.agg #[.string ka, .string kb, .string kc, .string kd], .agg #[.bool sn, .string a, .bool sm, .string r], .slice ao n c] w (LPost w [] k) := by
  have hB := blk2a w #[Value.string ka, Value.string kb, Value.string kc, Value.string kd] #[.bool sn, .string a, .bool sm, .string r] 26 47
  have hI := blk2b w #[Value.string ka, Value.string kb, Value.string kc, Value.string kd] #[.bool sn, .string a, .bool sm, .string r] 26 47
  have HR := Lib.hid hR
  have e1 : ((k : Int) == 0) = false := by rw [beq_eq_false_iff_ne]; omega
  have e2 : ((k : Int) != 0) = true := by rw [bne_iff_ne]; omega
  clear hR
  have hBc0 := hB.cell 0
  have hBf0 := hB.free 0
  have hBc1 := hB.cell 1
  have hBf1 := hB.free 1
  have hBc2 := hB.cell 2
  have hBf2 := hB.free 2
  have hBc3 := hB.cell 3
  have hBf3 := hB.free 3
  have hIc0 := hI.cell 0
  have hIf0 := hI.free 0
  have hIc1 := hI.cell 1
  have hIf1 := hI.free 1
  have hIc2 := hI.cell 2
  have hIf2 := hI.free 2
  have hIc3 := hI.cell 3
  have hIf3 := hI.free 3
  go_enter Tryz.func23, Tryz.ntmps23
  go_wp2_with fail
  refine (HR.out _).mono ?_
  rintro e w1 ⟨rfl, hb1⟩
  go_wp2
  go_ret2
  exact ⟨_, rfl, LAt.nil _ _, bt (b2 _ _ _) hb1⟩

set_option maxHeartbeats 1600000 in
theorem rmem_err (ka kb kc kd : ByteArray) (sn : Bool) (a : ByteArray) (sm : Bool) (r : ByteArray) (ao : Option Addr) (n c : Nat) (k : Nat) (w : World) (hk : k ≠ 0)
    (hR : ∀ w : World, Calls Tryz.prog 47 #[.agg #[.string ka, .string kb, .string kc, .string kd], .agg #[.bool sn, .string a, .bool sm, .string r]] w fun e w' => e = .returned (.int .i64 k) ∧ Below w.heap.size w w') :
    Calls Tryz.prog 22 #[.agg #[.string ka, .string kb, .string kc, .string kd], .agg #[.bool sn, .string a, .bool sm, .string r], .slice ao n c] w (LPost w [] k) := by
  have hB := blk2a w #[Value.string ka, Value.string kb, Value.string kc, Value.string kd] #[.bool sn, .string a, .bool sm, .string r] 26 47
  have hI := blk2b w #[Value.string ka, Value.string kb, Value.string kc, Value.string kd] #[.bool sn, .string a, .bool sm, .string r] 26 47
  have HR := Lib.hid hR
  have e1 : ((k : Int) == 0) = false := by rw [beq_eq_false_iff_ne]; omega
  have e2 : ((k : Int) != 0) = true := by rw [bne_iff_ne]; omega
  clear hR
  have hBc0 := hB.cell 0
  have hBf0 := hB.free 0
  have hBc1 := hB.cell 1
  have hBf1 := hB.free 1
  have hBc2 := hB.cell 2
  have hBf2 := hB.free 2
  have hBc3 := hB.cell 3
  have hBf3 := hB.free 3
  have hIc0 := hI.cell 0
  have hIf0 := hI.free 0
  have hIc1 := hI.cell 1
  have hIf1 := hI.free 1
  have hIc2 := hI.cell 2
  have hIf2 := hI.free 2
  have hIc3 := hI.cell 3
  have hIf3 := hI.free 3
  go_enter Tryz.func22, Tryz.ntmps22
  go_wp2_with fail
  refine (HR.out _).mono ?_
  rintro e w1 ⟨rfl, hb1⟩
  go_wp2
  go_ret2
  exact ⟨_, rfl, LAt.nil _ _, bt (b2 _ _ _) hb1⟩

set_option maxHeartbeats 1600000 in
theorem rout_err (ka kb kc kd : ByteArray) (sn : Bool) (a : ByteArray) (sm : Bool) (r : ByteArray) (ao : Option Addr) (n c : Nat) (k : Nat) (w : World) (hk : k ≠ 0)
    (hR : ∀ w : World, Calls Tryz.prog 47 #[.agg #[.string ka, .string kb, .string kc, .string kd], .agg #[.bool sn, .string a, .bool sm, .string r]] w fun e w' => e = .returned (.int .i64 k) ∧ Below w.heap.size w w') :
    Calls Tryz.prog 24 #[.agg #[.string ka, .string kb, .string kc, .string kd], .agg #[.bool sn, .string a, .bool sm, .string r], .slice ao n c] w (LPost w [] k) := by
  have hB := blk2a w #[Value.string ka, Value.string kb, Value.string kc, Value.string kd] #[.bool sn, .string a, .bool sm, .string r] 26 47
  have hI := blk2b w #[Value.string ka, Value.string kb, Value.string kc, Value.string kd] #[.bool sn, .string a, .bool sm, .string r] 26 47
  have HR := Lib.hid hR
  have e1 : ((k : Int) == 0) = false := by rw [beq_eq_false_iff_ne]; omega
  have e2 : ((k : Int) != 0) = true := by rw [bne_iff_ne]; omega
  clear hR
  have hBc0 := hB.cell 0
  have hBf0 := hB.free 0
  have hBc1 := hB.cell 1
  have hBf1 := hB.free 1
  have hBc2 := hB.cell 2
  have hBf2 := hB.free 2
  have hBc3 := hB.cell 3
  have hBf3 := hB.free 3
  have hIc0 := hI.cell 0
  have hIf0 := hI.free 0
  have hIc1 := hI.cell 1
  have hIf1 := hI.free 1
  have hIc2 := hI.cell 2
  have hIf2 := hI.free 2
  have hIc3 := hI.cell 3
  have hIf3 := hI.free 3
  go_enter Tryz.func24, Tryz.ntmps24
  go_wp2_with fail
  refine (HR.out _).mono ?_
  rintro e w1 ⟨rfl, hb1⟩
  go_wp2
  go_ret2
  exact ⟨_, rfl, LAt.nil _ _, bt (b2 _ _ _) hb1⟩

set_option maxHeartbeats 800000 in
theorem rmany_c (ao : Option Addr) (n c : Nat) (t : Bool) (w : World) (hn : n ≤ 256) (ht : decide (n = 0) = t) :
    Calls Tryz.prog 49 #[.slice ao n c] w fun e w' => e = .returned (.bool t) ∧ w = w' := by
  cases t
  · have h0 : 0 < n := by have := of_decide_eq_false ht; omega
    have e3 : ((n : Int) == 0) = false := by rw [beq_eq_false_iff_ne]; omega
    have e4 : decide ((256 : Int) < (n : Int)) = false := decide_eq_false (by omega)
    clear ht
    go_enter Tryz.func49, Tryz.ntmps49
    go_wp2
    go_ret
    exact ⟨rfl, rfl⟩
  · obtain rfl := of_decide_eq_true ht
    clear ht
    go_enter Tryz.func49, Tryz.ntmps49
    go_wp2
    go_ret
    exact ⟨rfl, rfl⟩

set_option maxHeartbeats 1600000 in
theorem mem_zero (p q g h a r : Nat) (ao : Option Addr) (c : Nat) (w : World) (hp : p < 256 ^ 8) (hq : q < 256 ^ 8) (hgb : g < 256 ^ 8) (hhb : h < 256 ^ 8) (ha : a < q) (hr : r < q) (he : readyN p q g h [] = 0) :
    Calls Tryz.prog 21 #[.agg #[.string (E p), .string (E q), .string (E g), .string (E h)], .agg #[.bool false, .string (E a), .bool false, .string (E r)], .slice ao 0 c] w (LPost w [] 6) := by
  have hq0 : 0 < q := by omega
  have HRD := Lib.hid (fun w => reduced_ok p q g h a r w hp hq (lt128 hgb) (lt128 hhb) ha hr he)
  have hB := blk2a w #[Value.string (E p), Value.string (E q), Value.string (E g), Value.string (E h)] #[.bool false, .string (E a), .bool false, .string (E r)] 26 47
  have hI := blk2b w #[Value.string (E p), Value.string (E q), Value.string (E g), Value.string (E h)] #[.bool false, .string (E a), .bool false, .string (E r)] 26 47
  have hBW := b2 w (.cells #[Value.string (E p), Value.string (E q), Value.string (E g), Value.string (E h)] 26) (.cells #[.bool false, .string (E a), .bool false, .string (E r)] 47)
  clear hp hq hgb hhb ha hr he hq0
  have hBc0 := hB.cell 0
  have hBf0 := hB.free 0
  have hBc1 := hB.cell 1
  have hBf1 := hB.free 1
  have hBc2 := hB.cell 2
  have hBf2 := hB.free 2
  have hBc3 := hB.cell 3
  have hBf3 := hB.free 3
  have hIc0 := hI.cell 0
  have hIf0 := hI.free 0
  have hIc1 := hI.cell 1
  have hIf1 := hI.free 1
  have hIc2 := hI.cell 2
  have hIf2 := hI.free 2
  have hIc3 := hI.cell 3
  have hIf3 := hI.free 3
  go_enter Tryz.func21, Tryz.ntmps21
  go_wp2_with fail
  refine (HRD.out _).mono ?_
  rintro e w1 ⟨rfl, hb1⟩
  go_wp2
  go_ret2
  exact ⟨_, rfl, LAt.nil _ _, bt hBW hb1⟩

set_option maxHeartbeats 1600000 in
theorem out_zero (p q g h a r : Nat) (ao : Option Addr) (c : Nat) (w : World) (hp : p < 256 ^ 8) (hq : q < 256 ^ 8) (hgb : g < 256 ^ 8) (hhb : h < 256 ^ 8) (ha : a < q) (hr : r < q) (he : readyN p q g h [] = 0) :
    Calls Tryz.prog 23 #[.agg #[.string (E p), .string (E q), .string (E g), .string (E h)], .agg #[.bool false, .string (E a), .bool false, .string (E r)], .slice ao 0 c] w (LPost w [] 6) := by
  have hq0 : 0 < q := by omega
  have HRD := Lib.hid (fun w => reduced_ok p q g h a r w hp hq (lt128 hgb) (lt128 hhb) ha hr he)
  have hB := blk2a w #[Value.string (E p), Value.string (E q), Value.string (E g), Value.string (E h)] #[.bool false, .string (E a), .bool false, .string (E r)] 26 47
  have hI := blk2b w #[Value.string (E p), Value.string (E q), Value.string (E g), Value.string (E h)] #[.bool false, .string (E a), .bool false, .string (E r)] 26 47
  have hBW := b2 w (.cells #[Value.string (E p), Value.string (E q), Value.string (E g), Value.string (E h)] 26) (.cells #[.bool false, .string (E a), .bool false, .string (E r)] 47)
  clear hp hq hgb hhb ha hr he hq0
  have hBc0 := hB.cell 0
  have hBf0 := hB.free 0
  have hBc1 := hB.cell 1
  have hBf1 := hB.free 1
  have hBc2 := hB.cell 2
  have hBf2 := hB.free 2
  have hBc3 := hB.cell 3
  have hBf3 := hB.free 3
  have hIc0 := hI.cell 0
  have hIf0 := hI.free 0
  have hIc1 := hI.cell 1
  have hIf1 := hI.free 1
  have hIc2 := hI.cell 2
  have hIf2 := hI.free 2
  have hIc3 := hI.cell 3
  have hIf3 := hI.free 3
  go_enter Tryz.func23, Tryz.ntmps23
  go_wp2_with fail
  refine (HRD.out _).mono ?_
  rintro e w1 ⟨rfl, hb1⟩
  go_wp2
  go_ret2
  exact ⟨_, rfl, LAt.nil _ _, bt hBW hb1⟩

set_option maxHeartbeats 1600000 in
theorem rmem_zero (p q g h a r : Nat) (ao : Option Addr) (c : Nat) (w : World) (hp : p < 256 ^ 8) (hq : q < 256 ^ 8) (hgb : g < 256 ^ 8) (hhb : h < 256 ^ 8) (ha : a < q) (hr : r < q) (he : readyN p q g h [] = 0) :
    Calls Tryz.prog 22 #[.agg #[.string (E p), .string (E q), .string (E g), .string (E h)], .agg #[.bool false, .string (E a), .bool false, .string (E r)], .slice ao 0 c] w (LPost w [] 6) := by
  have hq0 : 0 < q := by omega
  have HRD := Lib.hid (fun w => openedT_c p q g h a r w hp hq hgb hhb ha hr he)
  have hB := blk2a w #[Value.string (E p), Value.string (E q), Value.string (E g), Value.string (E h)] #[.bool false, .string (E a), .bool false, .string (E r)] 26 47
  have hI := blk2b w #[Value.string (E p), Value.string (E q), Value.string (E g), Value.string (E h)] #[.bool false, .string (E a), .bool false, .string (E r)] 26 47
  have hBW := b2 w (.cells #[Value.string (E p), Value.string (E q), Value.string (E g), Value.string (E h)] 26) (.cells #[.bool false, .string (E a), .bool false, .string (E r)] 47)
  clear hp hq hgb hhb ha hr he hq0
  have hBc0 := hB.cell 0
  have hBf0 := hB.free 0
  have hBc1 := hB.cell 1
  have hBf1 := hB.free 1
  have hBc2 := hB.cell 2
  have hBf2 := hB.free 2
  have hBc3 := hB.cell 3
  have hBf3 := hB.free 3
  have hIc0 := hI.cell 0
  have hIf0 := hI.free 0
  have hIc1 := hI.cell 1
  have hIf1 := hI.free 1
  have hIc2 := hI.cell 2
  have hIf2 := hI.free 2
  have hIc3 := hI.cell 3
  have hIf3 := hI.free 3
  go_enter Tryz.func22, Tryz.ntmps22
  go_wp2_with fail
  refine (HRD.out _).mono ?_
  rintro e w1 ⟨rfl, hb1⟩
  go_wp2_with fail
  refine (rmany_c ao 0 c true _ (by omega) rfl).mono ?_
  rintro e w' ⟨rfl, rfl⟩
  go_wp2
  go_ret2
  exact ⟨_, rfl, LAt.nil _ _, bt hBW hb1⟩

set_option maxHeartbeats 1600000 in
theorem rout_zero (p q g h a r : Nat) (ao : Option Addr) (c : Nat) (w : World) (hp : p < 256 ^ 8) (hq : q < 256 ^ 8) (hgb : g < 256 ^ 8) (hhb : h < 256 ^ 8) (ha : a < q) (hr : r < q) (he : readyN p q g h [] = 0) :
    Calls Tryz.prog 24 #[.agg #[.string (E p), .string (E q), .string (E g), .string (E h)], .agg #[.bool false, .string (E a), .bool false, .string (E r)], .slice ao 0 c] w (LPost w [] 6) := by
  have hq0 : 0 < q := by omega
  have HRD := Lib.hid (fun w => openedT_c p q g h a r w hp hq hgb hhb ha hr he)
  have hB := blk2a w #[Value.string (E p), Value.string (E q), Value.string (E g), Value.string (E h)] #[.bool false, .string (E a), .bool false, .string (E r)] 26 47
  have hI := blk2b w #[Value.string (E p), Value.string (E q), Value.string (E g), Value.string (E h)] #[.bool false, .string (E a), .bool false, .string (E r)] 26 47
  have hBW := b2 w (.cells #[Value.string (E p), Value.string (E q), Value.string (E g), Value.string (E h)] 26) (.cells #[.bool false, .string (E a), .bool false, .string (E r)] 47)
  clear hp hq hgb hhb ha hr he hq0
  have hBc0 := hB.cell 0
  have hBf0 := hB.free 0
  have hBc1 := hB.cell 1
  have hBf1 := hB.free 1
  have hBc2 := hB.cell 2
  have hBf2 := hB.free 2
  have hBc3 := hB.cell 3
  have hBf3 := hB.free 3
  have hIc0 := hI.cell 0
  have hIf0 := hI.free 0
  have hIc1 := hI.cell 1
  have hIf1 := hI.free 1
  have hIc2 := hI.cell 2
  have hIf2 := hI.free 2
  have hIc3 := hI.cell 3
  have hIf3 := hI.free 3
  go_enter Tryz.func24, Tryz.ntmps24
  go_wp2_with fail
  refine (HRD.out _).mono ?_
  rintro e w1 ⟨rfl, hb1⟩
  go_wp2_with fail
  refine (rmany_c ao 0 c true _ (by omega) rfl).mono ?_
  rintro e w' ⟨rfl, rfl⟩
  go_wp2
  go_ret2
  exact ⟨_, rfl, LAt.nil _ _, bt hBW hb1⟩

set_option maxHeartbeats 6400000 in
theorem mem_c (p q g h a r : Nat) (V : List Int) (ao : Option Addr) (n c : Nat) (w : World) (hp : p < 256 ^ 8) (hq : q < 256 ^ 8) (hgb : g < 256 ^ 8) (hhb : h < 256 ^ 8) (ha : a < q) (hr : r < q) (he : readyN p q g h [] = 0)
    (hn : V.length = n) (h0 : 0 < n) (hn2 : n ≤ 256) (hV : NumsAt w ao V) (hvr : ∀ v ∈ V, -9223372036854775808 ≤ v ∧ v ≤ 9223372036854775807) :
    Calls Tryz.prog 21 #[.agg #[.string (E p), .string (E q), .string (E g), .string (E h)], .agg #[.bool false, .string (E a), .bool false, .string (E r)], .slice ao n c] w (LPost w (memL q a r V) (memE q a V)) := by
  obtain ⟨i0, hi0, hz0, hz1, hz2⟩ := info_parts info_irow
  have HI0 := Lib.hid hi0
  have HZ0 := Lib.hid hz0
  have HZ1 := Lib.hid hz1
  have HZ2 := Lib.hid hz2
  clear hi0 hz0 hz1 hz2
  have hq0 : 0 < q := by omega
  have HRD := Lib.hid (fun w => reduced_ok p q g h a r w hp hq (lt128 hgb) (lt128 hhb) ha hr he)
  have hB := blk2a w #[Value.string (E p), Value.string (E q), Value.string (E g), Value.string (E h)] #[.bool false, .string (E a), .bool false, .string (E r)] 26 47
  have hI := blk2b w #[Value.string (E p), Value.string (E q), Value.string (E g), Value.string (E h)] #[.bool false, .string (E a), .bool false, .string (E r)] 26 47
  have hBW := b2 w (.cells #[Value.string (E p), Value.string (E q), Value.string (E g), Value.string (E h)] 26) (.cells #[.bool false, .string (E a), .bool false, .string (E r)] 47)
  have HD := Lib.hid (fun v w h1 h2 => distance_c p q g h a false false (E r) v w hq hq0 (Nat.lt_trans ha hq) h1 h2)
  have HEW := Lib.hid (fun w => ewit_c false (E a) false (E r) w)
  have HN := Lib.hid hn
  have HVR := Lib.hid hvr
  have hV1 := hV.after hBW
  have e3 : ((n : Int) == 0) = false := by rw [beq_eq_false_iff_ne]; omega
  have e4 : decide ((256 : Int) < (n : Int)) = false := decide_eq_false (by omega)
  clear hp hq hgb hhb ha hr he hq0 hn hvr hV
  have hBc0 := hB.cell 0
  have hBf0 := hB.free 0
  have hBc1 := hB.cell 1
  have hBf1 := hB.free 1
  have hBc2 := hB.cell 2
  have hBf2 := hB.free 2
  have hBc3 := hB.cell 3
  have hBf3 := hB.free 3
  have hIc0 := hI.cell 0
  have hIf0 := hI.free 0
  have hIc1 := hI.cell 1
  have hIf1 := hI.free 1
  have hIc2 := hI.cell 2
  have hIf2 := hI.free 2
  have hIc3 := hI.cell 3
  have hIf3 := hI.free 3
  go_enter Tryz.func21, Tryz.ntmps21
  go_wp2_with fail
  refine (HRD.out _).mono ?_
  rintro e w3 ⟨rfl, hb3⟩
  clear hBc0 hBf0 hBc1 hBf1 hBc2 hBf2 hBc3 hBf3
  clear hIc0 hIf0 hIc1 hIf1 hIc2 hIf2 hIc3 hIf3
  replace hB := hB.after hb3
  replace hI := hI.after hb3
  replace hV1 := hV1.after hb3
  replace hBW := bt hBW hb3
  clear hb3
  go_wp2
  go_loopw [29, 9, 10] (fun i f o wr => ∃ k : Nat, k ≤ n ∧ i = .int .i64 k ∧ f = .bool (anyZ q a (V.take k)) ∧ LAt wr w3.heap.size o (List.replicate k [(false, E r)]) ∧ Below w3.heap.size w3 wr) (fun i _ _ _ => n - (intOf i).toNat)
  case atStart => exact ⟨0, by omega, rfl, rfl, LAt.nil _ _, Below.refl _ _⟩
  case round =>
    obtain ⟨k, hk, rfl, rfl, hL, hbr⟩ := hrel
    obtain ⟨wp, hwp⟩ : ∃ wp, wp = wr := ⟨_, rfl⟩
    subst hwp
    replace hB := hB.after hbr
    replace hI := hI.after hbr
    by_cases hlt : k < n
    · have hkl : k < V.length := by rw [HN.out]; exact hlt
      obtain ⟨b, o, rfl, hbl, hcell⟩ := (hV1.after hbr).at_ hkl
      have HAT := Lib.hid (anyZ_take q a V k hkl)
      have HVK := Lib.hid (HVR.out _ (List.getElem_mem hkl))
      generalize V[k]'hkl = vk at hcell HAT HVK
      generalize anyZ q a (V.take k) = fd at HAT
      cases fd
      · by_cases hd : distN q a vk = 0
        · have HX : Hid (anyZ q a (V.take (k + 1)) = true) := by rw [Hid, HAT.out, decide_eq_true hd]; rfl
          have HDV := Lib.hid (fun w => HD.out vk w HVK.out.1 HVK.out.2)
          rw [hd] at HDV
          have hz := zE (rfl : 0 = 0)
          clear hd HAT
          have hBc0 := hB.cell 0
          have hBf0 := hB.free 0
          have hBc1 := hB.cell 1
          have hBf1 := hB.free 1
          have hBc2 := hB.cell 2
          have hBf2 := hB.free 2
          have hBc3 := hB.cell 3
          have hBf3 := hB.free 3
          have hIc0 := hI.cell 0
          have hIf0 := hI.free 0
          have hIc1 := hI.cell 1
          have hIf1 := hI.free 1
          have hIc2 := hI.cell 2
          have hIf2 := hI.free 2
          have hIc3 := hI.cell 3
          have hIf3 := hI.free 3
          go_wp2_with fail
          refine (HDV.out _).mono ?_
          rintro e w4 ⟨rfl, hb4⟩
          clear hBc0 hBf0 hBc1 hBf1 hBc2 hBf2 hBc3 hBf3
          clear hIc0 hIf0 hIc1 hIf1 hIc2 hIf2 hIc3 hIf3
          replace hB := hB.after hb4
          replace hI := hI.after hb4
          have hBc0 := hB.cell 0
          have hBf0 := hB.free 0
          have hBc1 := hB.cell 1
          have hBf1 := hB.free 1
          have hBc2 := hB.cell 2
          have hBf2 := hB.free 2
          have hBc3 := hB.cell 3
          have hBf3 := hB.free 3
          have hIc0 := hI.cell 0
          have hIf0 := hI.free 0
          have hIc1 := hI.cell 1
          have hIf1 := hI.free 1
          have hIc2 := hI.cell 2
          have hIf2 := hI.free 2
          have hIc3 := hI.cell 3
          have hIf3 := hI.free 3
          go_wp2_with fail
          refine (HEW.out _).mono ?_
          rintro e w5 ⟨gb, rfl, hgb, hb5⟩
          have hbr5 := bt (bt hbr hb4) hb5
          have hL5 := (hL.after hb4).after hb5
          obtain ⟨xs, hx1, hx2⟩ := hL5
          rw [List.length_replicate] at hx1
          have hsz : w3.heap.size ≤ w5.heap.size := hbr5.size
          go_wp2_with (at_builtin; refine wpList_append_lies _ rfl (.tmp 41) (.tmp 44) _ rfl w3.heap.size 49 i0 _ 1 24 Tryz.underlying55 HI0.out HZ0.out HZ1.out HZ2.out rfl (by omega) _ k _ rfl (own_after hx1 (b1 _ (.cells #[.slice (some ⟨gb, 0, none⟩) 1 1] 49))) ⟨w5.heap.size, 0, none⟩ 1 1 [.slice (some ⟨gb, 0, none⟩) 1 1] rfl rfl (Blk.new w5 #[.slice (some ⟨gb, 0, none⟩) 1 1] 49).cells (by simp [Value.oneCell']) (by omega) (by simp only [maxLen]; omega) (by omega) (by rw [World.size_alloc]; have := hsz; omega) (w5.heap.size + 1) (by simp) ?_; intro ga ca wa hown hgrow hat hlt2)
          have hL6 := LAt.push (L := [(false, E r)]) (by rw [List.length_replicate]; exact own_after hx1 (b1 _ (.cells #[.slice (some ⟨gb, 0, none⟩) 1 1] 49))) (fun j hj => (hx2 j hj).imp fun u hu => ⟨hu.1, hu.2.after (b1 _ _)⟩) ((IAt.blk (n := 1) (L := [(false, E r)]) hgb rfl (by unfold maxLen; omega)).after (b1 _ (.cells #[.slice (some ⟨gb, 0, none⟩) 1 1] 49))) hgrow (by rw [List.length_replicate]; exact hown)
          rw [← rep_succ] at hL6
          have hbr6 := (ba hbr5 (.cells #[.slice (some ⟨gb, 0, none⟩) 1 1] 49)).grown hgrow (by rw [World.size_alloc]; omega) (fun g hg => (own_lt hx1 hg).2)
          clear hown hgrow hat hlt2 hx1 hx2
          go_wp2
          go_roundw
          case rel => exact ⟨k + 1, by omega, by go_num, by rw [HX.out], hL6, hbr6⟩
          case measure => simp [intOf]; omega
        · have HX : Hid (anyZ q a (V.take (k + 1)) = false) := by rw [Hid, HAT.out, decide_eq_false hd]; rfl
          have HDV := Lib.hid (fun w => HD.out vk w HVK.out.1 HVK.out.2)
          have hz := nzE (Nat.pos_of_ne_zero hd)
          generalize distN q a vk = dd at HDV hz
          clear hd HAT
          have hBc0 := hB.cell 0
          have hBf0 := hB.free 0
          have hBc1 := hB.cell 1
          have hBf1 := hB.free 1
          have hBc2 := hB.cell 2
          have hBf2 := hB.free 2
          have hBc3 := hB.cell 3
          have hBf3 := hB.free 3
          have hIc0 := hI.cell 0
          have hIf0 := hI.free 0
          have hIc1 := hI.cell 1
          have hIf1 := hI.free 1
          have hIc2 := hI.cell 2
          have hIf2 := hI.free 2
          have hIc3 := hI.cell 3
          have hIf3 := hI.free 3
          go_wp2_with fail
          refine (HDV.out _).mono ?_
          rintro e w4 ⟨rfl, hb4⟩
          clear hBc0 hBf0 hBc1 hBf1 hBc2 hBf2 hBc3 hBf3
          clear hIc0 hIf0 hIc1 hIf1 hIc2 hIf2 hIc3 hIf3
          replace hB := hB.after hb4
          replace hI := hI.after hb4
          have hBc0 := hB.cell 0
          have hBf0 := hB.free 0
          have hBc1 := hB.cell 1
          have hBf1 := hB.free 1
          have hBc2 := hB.cell 2
          have hBf2 := hB.free 2
          have hBc3 := hB.cell 3
          have hBf3 := hB.free 3
          have hIc0 := hI.cell 0
          have hIf0 := hI.free 0
          have hIc1 := hI.cell 1
          have hIf1 := hI.free 1
          have hIc2 := hI.cell 2
          have hIf2 := hI.free 2
          have hIc3 := hI.cell 3
          have hIf3 := hI.free 3
          go_wp2_with fail
          refine (HEW.out _).mono ?_
          rintro e w5 ⟨gb, rfl, hgb, hb5⟩
          have hbr5 := bt (bt hbr hb4) hb5
          have hL5 := (hL.after hb4).after hb5
          obtain ⟨xs, hx1, hx2⟩ := hL5
          rw [List.length_replicate] at hx1
          have hsz : w3.heap.size ≤ w5.heap.size := hbr5.size
          go_wp2_with (at_builtin; refine wpList_append_lies _ rfl (.tmp 41) (.tmp 44) _ rfl w3.heap.size 49 i0 _ 1 24 Tryz.underlying55 HI0.out HZ0.out HZ1.out HZ2.out rfl (by omega) _ k _ rfl (own_after hx1 (b1 _ (.cells #[.slice (some ⟨gb, 0, none⟩) 1 1] 49))) ⟨w5.heap.size, 0, none⟩ 1 1 [.slice (some ⟨gb, 0, none⟩) 1 1] rfl rfl (Blk.new w5 #[.slice (some ⟨gb, 0, none⟩) 1 1] 49).cells (by simp [Value.oneCell']) (by omega) (by simp only [maxLen]; omega) (by omega) (by rw [World.size_alloc]; have := hsz; omega) (w5.heap.size + 1) (by simp) ?_; intro ga ca wa hown hgrow hat hlt2)
          have hL6 := LAt.push (L := [(false, E r)]) (by rw [List.length_replicate]; exact own_after hx1 (b1 _ (.cells #[.slice (some ⟨gb, 0, none⟩) 1 1] 49))) (fun j hj => (hx2 j hj).imp fun u hu => ⟨hu.1, hu.2.after (b1 _ _)⟩) ((IAt.blk (n := 1) (L := [(false, E r)]) hgb rfl (by unfold maxLen; omega)).after (b1 _ (.cells #[.slice (some ⟨gb, 0, none⟩) 1 1] 49))) hgrow (by rw [List.length_replicate]; exact hown)
          rw [← rep_succ] at hL6
          have hbr6 := (ba hbr5 (.cells #[.slice (some ⟨gb, 0, none⟩) 1 1] 49)).grown hgrow (by rw [World.size_alloc]; omega) (fun g hg => (own_lt hx1 hg).2)
          clear hown hgrow hat hlt2 hx1 hx2
          go_wp2
          go_roundw
          case rel => exact ⟨k + 1, by omega, by go_num, by rw [HX.out], hL6, hbr6⟩
          case measure => simp [intOf]; omega
      · have HX : Hid (anyZ q a (V.take (k + 1)) = true) := by rw [Hid, HAT.out]; rfl
        clear HAT
        have hBc0 := hB.cell 0
        have hBf0 := hB.free 0
        have hBc1 := hB.cell 1
        have hBf1 := hB.free 1
        have hBc2 := hB.cell 2
        have hBf2 := hB.free 2
        have hBc3 := hB.cell 3
        have hBf3 := hB.free 3
        have hIc0 := hI.cell 0
        have hIf0 := hI.free 0
        have hIc1 := hI.cell 1
        have hIf1 := hI.free 1
        have hIc2 := hI.cell 2
        have hIf2 := hI.free 2
        have hIc3 := hI.cell 3
        have hIf3 := hI.free 3
        go_wp2_with fail
        refine (HEW.out _).mono ?_
        rintro e w5 ⟨gb, rfl, hgb, hb5⟩
        have hbr5 := bt hbr hb5
        have hL5 := hL.after hb5
        obtain ⟨xs, hx1, hx2⟩ := hL5
        rw [List.length_replicate] at hx1
        have hsz : w3.heap.size ≤ w5.heap.size := hbr5.size
        go_wp2_with (at_builtin; refine wpList_append_lies _ rfl (.tmp 41) (.tmp 44) _ rfl w3.heap.size 49 i0 _ 1 24 Tryz.underlying55 HI0.out HZ0.out HZ1.out HZ2.out rfl (by omega) _ k _ rfl (own_after hx1 (b1 _ (.cells #[.slice (some ⟨gb, 0, none⟩) 1 1] 49))) ⟨w5.heap.size, 0, none⟩ 1 1 [.slice (some ⟨gb, 0, none⟩) 1 1] rfl rfl (Blk.new w5 #[.slice (some ⟨gb, 0, none⟩) 1 1] 49).cells (by simp [Value.oneCell']) (by omega) (by simp only [maxLen]; omega) (by omega) (by rw [World.size_alloc]; have := hsz; omega) (w5.heap.size + 1) (by simp) ?_; intro ga ca wa hown hgrow hat hlt2)
        have hL6 := LAt.push (L := [(false, E r)]) (by rw [List.length_replicate]; exact own_after hx1 (b1 _ (.cells #[.slice (some ⟨gb, 0, none⟩) 1 1] 49))) (fun j hj => (hx2 j hj).imp fun u hu => ⟨hu.1, hu.2.after (b1 _ _)⟩) ((IAt.blk (n := 1) (L := [(false, E r)]) hgb rfl (by unfold maxLen; omega)).after (b1 _ (.cells #[.slice (some ⟨gb, 0, none⟩) 1 1] 49))) hgrow (by rw [List.length_replicate]; exact hown)
        rw [← rep_succ] at hL6
        have hbr6 := (ba hbr5 (.cells #[.slice (some ⟨gb, 0, none⟩) 1 1] 49)).grown hgrow (by rw [World.size_alloc]; omega) (fun g hg => (own_lt hx1 hg).2)
        clear hown hgrow hat hlt2 hx1 hx2
        go_wp2
        go_roundw
        case rel => exact ⟨k + 1, by omega, by go_num, by rw [HX.out], hL6, hbr6⟩
        case measure => simp [intOf]; omega
    · obtain rfl : k = n := by omega
      have HF : Hid (V.take k = V) := by rw [Hid, ← HN.out, List.take_length]
      rw [HF.out]
      have HE : Hid (memE q a V = if anyZ q a V then 0 else 18) := rfl
      have HLL : Hid (memL q a r V = if anyZ q a V then List.replicate k [(false, E r)] else []) := by rw [Hid, memL, HN.out]
      cases hany : anyZ q a V
      · rw [hany] at HE HLL
        clear hany
        go_wp2
        go_ret2
        exact ⟨_, by rw [HE.out]; rfl, by rw [HLL.out]; exact LAt.nil _ _, bt hBW hbr⟩
      · rw [hany] at HE HLL
        clear hany
        go_wp2
        go_ret2
        exact ⟨_, by rw [HE.out]; rfl, by rw [HLL.out]; exact hL.mono (Nat.zero_le _), bt hBW hbr⟩

end Go.Proofs.YtecobjddpinonaaGreat
end

section
set_option linter.unusedVariables false
set_option linter.unusedSimpArgs false
set_option maxRecDepth 100000
namespace Go.Proofs.YtecobjddpinonaaGreat
open Go.RowKit Go.Shelf

set_option maxHeartbeats 6400000 in
theorem rmem_c (p q g h a r : Nat) (V : List Int) (ao : Option Addr) (n c : Nat) (w : World) (hp : p < 256 ^ 8) (hq : q < 256 ^ 8) (hgb : g < 256 ^ 8) (hhb : h < 256 ^ 8) (ha : a < q) (hr : r < q) (he : readyN p q g h [] = 0)
    (hn : V.length = n) (h0 : 0 < n) (hn2 : n ≤ 256) (hV : NumsAt w ao V) (hvr : ∀ v ∈ V, -9223372036854775808 ≤ v ∧ v ≤ 9223372036854775807) :
    Calls Tryz.prog 22 #[.agg #[.string (E p), .string (E q), .string (E g), .string (E h)], .agg #[.bool false, .string (E a), .bool false, .string (E r)], .slice ao n c] w (LPost w (memL q a r V) (memE q a V)) := by
  obtain ⟨i0, hi0, hz0, hz1, hz2⟩ := info_parts info_irow
  have HI0 := Lib.hid hi0
  have HZ0 := Lib.hid hz0
  have HZ1 := Lib.hid hz1
  have HZ2 := Lib.hid hz2
  clear hi0 hz0 hz1 hz2
  have hq0 : 0 < q := by omega
  have HRD := Lib.hid (fun w => openedT_c p q g h a r w hp hq hgb hhb ha hr he)
  have hB := blk2a w #[Value.string (E p), Value.string (E q), Value.string (E g), Value.string (E h)] #[.bool false, .string (E a), .bool false, .string (E r)] 26 47
  have hI := blk2b w #[Value.string (E p), Value.string (E q), Value.string (E g), Value.string (E h)] #[.bool false, .string (E a), .bool false, .string (E r)] 26 47
  have hBW := b2 w (.cells #[Value.string (E p), Value.string (E q), Value.string (E g), Value.string (E h)] 26) (.cells #[.bool false, .string (E a), .bool false, .string (E r)] 47)
  have HD := Lib.hid (fun v w h1 h2 => rdist_c p q g h a false false (E r) v w hq hq0 (Nat.lt_trans ha hq) h1 h2)
  have HMN := Lib.hid (fun w => rmany_c ao n c false w hn2 (decide_eq_false (by omega)))
  have HN := Lib.hid hn
  have HVR := Lib.hid hvr
  have hV1 := hV.after hBW
  have e3 : ((n : Int) == 0) = false := by rw [beq_eq_false_iff_ne]; omega
  have e4 : decide ((256 : Int) < (n : Int)) = false := decide_eq_false (by omega)
  clear hp hq hgb hhb ha hr he hq0 hn hvr hV
  have hBc0 := hB.cell 0
  have hBf0 := hB.free 0
  have hBc1 := hB.cell 1
  have hBf1 := hB.free 1
  have hBc2 := hB.cell 2
  have hBf2 := hB.free 2
  have hBc3 := hB.cell 3
  have hBf3 := hB.free 3
  have hIc0 := hI.cell 0
  have hIf0 := hI.free 0
  have hIc1 := hI.cell 1
  have hIf1 := hI.free 1
  have hIc2 := hI.cell 2
  have hIf2 := hI.free 2
  have hIc3 := hI.cell 3
  have hIf3 := hI.free 3
  go_enter Tryz.func22, Tryz.ntmps22
  go_wp2_with fail
  refine (HRD.out _).mono ?_
  rintro e w3 ⟨rfl, hb3⟩
  clear hBc0 hBf0 hBc1 hBf1 hBc2 hBf2 hBc3 hBf3
  clear hIc0 hIf0 hIc1 hIf1 hIc2 hIf2 hIc3 hIf3
  replace hB := hB.after hb3
  replace hI := hI.after hb3
  replace hV1 := hV1.after hb3
  replace hBW := bt hBW hb3
  clear hb3
  go_wp2_with fail
  refine (HMN.out _).mono ?_
  rintro e w' ⟨rfl, rfl⟩
  go_wp2
  go_loopw [11, 9, 10] (fun i o f wr => ∃ k : Nat, k ≤ n ∧ i = .int .i64 k ∧ f = .bool (anyZ q a (V.take k)) ∧ LAt wr w3.heap.size o (List.replicate k [(false, E r)]) ∧ Below w3.heap.size w3 wr) (fun i _ _ _ => n - (intOf i).toNat)
  case atStart => exact ⟨0, by omega, rfl, rfl, LAt.nil _ _, Below.refl _ _⟩
  case round =>
    obtain ⟨k, hk, rfl, rfl, hL, hbr⟩ := hrel
    obtain ⟨wp, hwp⟩ : ∃ wp, wp = wr := ⟨_, rfl⟩
    subst hwp
    have hBp := hB.after hbr
    have hIp := hI.after hbr
    by_cases hlt : k < n
    · have hkl : k < V.length := by rw [HN.out]; exact hlt
      have HVK := Lib.hid (HVR.out _ (List.getElem_mem hkl))
      have HAT := Lib.hid (anyZ_take q a V k hkl)
      generalize anyZ q a (V.take k) = fd at HAT
      obtain ⟨xs, hx1, hx2⟩ := hL
      rw [List.length_replicate] at hx1
      have hsz : w3.heap.size ≤ wp.heap.size := hbr.size
      have hl1 : w.heap.size + 1 < wp.heap.size := hIp.lt
      have hIpc0 := hIp.cell 0
      have hIpf0 := hIp.free 0
      have hIpc1 := hIp.cell 1
      have hIpf1 := hIp.free 1
      have hIpc2 := hIp.cell 2
      have hIpf2 := hIp.free 2
      have hIpc3 := hIp.cell 3
      have hIpf3 := hIp.free 3
      go_wp2_with (at_builtin; refine wpList_append_lies _ rfl (.tmp 26) (.tmp 30) _ rfl w3.heap.size 49 i0 _ 1 24 Tryz.underlying55 HI0.out HZ0.out HZ1.out HZ2.out rfl (by omega) _ k _ rfl (own_after hx1 (b2 _ (.cells #[.bool false, .string (E r)] 45) (.cells #[.slice (some ⟨wp.heap.size, 0, none⟩) 1 1] 49))) ⟨wp.heap.size + 1, 0, none⟩ 1 1 [.slice (some ⟨wp.heap.size, 0, none⟩) 1 1] rfl rfl (blk2b wp #[.bool false, .string (E r)] #[.slice (some ⟨wp.heap.size, 0, none⟩) 1 1] 45 49).cells (by simp [Value.oneCell']) (by omega) (by simp only [maxLen]; omega) (by omega) (by rw [World.size_alloc, World.size_alloc]; omega) (wp.heap.size + 1 + 1) (by simp) ?_; intro ga ca wa hown hgrow hat hlt2)
      clear hIpc0 hIpf0 hIpc1 hIpf1 hIpc2 hIpf2 hIpc3 hIpf3
      have hL6 := LAt.push (L := [(false, E r)]) (by rw [List.length_replicate]; exact own_after hx1 (b2 _ (.cells #[.bool false, .string (E r)] 45) (.cells #[.slice (some ⟨wp.heap.size, 0, none⟩) 1 1] 49))) (fun j hj => (hx2 j hj).imp fun u hu => ⟨hu.1, hu.2.after (b2 _ _ _)⟩) (IAt.blk (n := 1) (L := [(false, E r)]) (blk2a wp #[.bool false, .string (E r)] #[.slice (some ⟨wp.heap.size, 0, none⟩) 1 1] 45 49) rfl (by unfold maxLen; omega)) hgrow (by rw [List.length_replicate]; exact hown)
      rw [← rep_succ] at hL6
      have hbr6 := (bt hbr (b2 _ (.cells #[.bool false, .string (E r)] 45) (.cells #[.slice (some ⟨wp.heap.size, 0, none⟩) 1 1] 49))).grown hgrow (by rw [World.size_alloc, World.size_alloc]; omega) (fun g hg => (own_lt hx1 hg).2)
      have hB6 := hB.after hbr6
      have hI6 := hI.after hbr6
      obtain ⟨b, o, rfl, hbl, hcell⟩ := (hV1.after hbr6).at_ hkl
      generalize V[k]'hkl = vk at hcell HAT HVK
      have gcl := gcell_of hcell hbl
      clear hown hgrow hat hlt2 hx1 hx2 hcell hBp hIp hbr hsz hl1
      generalize Value.slice (some ⟨ga, 0, none⟩) (k + 1) ca = vo at hL6
      have hB6g0 := hB6.gcell 0
      have hB6g1 := hB6.gcell 1
      have hB6g2 := hB6.gcell 2
      have hB6g3 := hB6.gcell 3
      have hI6g0 := hI6.gcell 0
      have hI6g1 := hI6.gcell 1
      have hI6g2 := hI6.gcell 2
      have hI6g3 := hI6.gcell 3
      have HDV := Lib.hid (fun w => HD.out vk w HVK.out.1 HVK.out.2)
      cases fd
      · by_cases hd : distN q a vk = 0
        · have HX : Hid (anyZ q a (V.take (k + 1)) = true) := by rw [Hid, HAT.out, decide_eq_true hd]; rfl
          rw [hd] at HDV
          have hz := zE (rfl : 0 = 0)
          clear hd HAT
          go_wp2_with fail
          refine wp_region_gw (by kernel_rfl) (by kernel_rfl) ?_
          repeat (go_big_quiet_step (first | (go_at_call 50; exact gw_of (HDV.out _))))
          refine wpQuiet_nil ?_
          rintro w7 ⟨xw7, rfl⟩
          have hb7 := gw_below xw7
          generalize gw xw7 = w7 at hb7
          go_wp2
          go_roundw
          case rel => exact ⟨k + 1, by omega, by go_num, by rw [HX.out], hL6.after hb7, bt hbr6 hb7⟩
          case measure => simp [intOf]; omega
        · have HX : Hid (anyZ q a (V.take (k + 1)) = false) := by rw [Hid, HAT.out, decide_eq_false hd]; rfl
          have hz := nzE (Nat.pos_of_ne_zero hd)
          generalize distN q a vk = dd at HDV hz
          clear hd HAT
          go_wp2_with fail
          refine wp_region_gw (by kernel_rfl) (by kernel_rfl) ?_
          repeat (go_big_quiet_step (first | (go_at_call 50; exact gw_of (HDV.out _))))
          refine wpQuiet_nil ?_
          rintro w7 ⟨xw7, rfl⟩
          have hb7 := gw_below xw7
          generalize gw xw7 = w7 at hb7
          go_wp2
          go_roundw
          case rel => exact ⟨k + 1, by omega, by go_num, by rw [HX.out], hL6.after hb7, bt hbr6 hb7⟩
          case measure => simp [intOf]; omega
      · have HX : Hid (anyZ q a (V.take (k + 1)) = true) := by rw [Hid, HAT.out]; rfl
        clear HAT
        go_wp2_with fail
        refine wp_region_gw (by kernel_rfl) (by kernel_rfl) ?_
        repeat (go_big_quiet_step (first | (go_at_call 50; exact gw_of (HDV.out _))))
        refine wpQuiet_nil ?_
        rintro w7 ⟨xw7, rfl⟩
        have hb7 := gw_below xw7
        generalize gw xw7 = w7 at hb7
        go_wp2
        go_roundw
        case rel => exact ⟨k + 1, by omega, by go_num, by rw [HX.out], hL6.after hb7, bt hbr6 hb7⟩
        case measure => simp [intOf]; omega
    · obtain rfl : k = n := by omega
      have HF : Hid (V.take k = V) := by rw [Hid, ← HN.out, List.take_length]
      rw [HF.out]
      have HE : Hid (memE q a V = if anyZ q a V then 0 else 18) := rfl
      have HLL : Hid (memL q a r V = if anyZ q a V then List.replicate k [(false, E r)] else []) := by rw [Hid, memL, HN.out]
      cases hany : anyZ q a V
      · rw [hany] at HE HLL
        clear hany
        go_wp2
        go_ret2
        exact ⟨_, by rw [HE.out]; rfl, by rw [HLL.out]; exact LAt.nil _ _, bt hBW hbr⟩
      · rw [hany] at HE HLL
        clear hany
        go_wp2
        go_ret2
        exact ⟨_, by rw [HE.out]; rfl, by rw [HLL.out]; exact hL.mono (Nat.zero_le _), bt hBW hbr⟩

end Go.Proofs.YtecobjddpinonaaGreat
end

section
set_option linter.unusedVariables false
set_option linter.unusedSimpArgs false
set_option maxRecDepth 100000
namespace Go.Proofs.YtecobjddpinonaaGreat
open Go.RowKit Go.Shelf

/-- the first error of witnesses for several values -/
def outE (q a : Nat) : List Int → Nat
  | [] => 0
  | v :: t => if witE q a v = 0 then outE q a t else witE q a v
def outL (q a r : Nat) (V : List Int) : List (List (Bool × ByteArray)) := if outE q a V = 0 then V.map (witL q a r) else []

theorem outE_take (q a : Nat) (V : List Int) (k : Nat) (h : k < V.length) (h0 : outE q a (V.take k) = 0) : outE q a (V.take (k + 1)) = witE q a V[k] ∧ (witE q a V[k] ≠ 0 → outE q a V = witE q a V[k]) := by
  induction V generalizing k with
  | nil => simp at h
  | cons v t ih =>
    cases k with
    | zero =>
      refine ⟨?_, fun hne => ?_⟩
      · simp only [List.take_succ_cons, List.take_zero, outE, List.getElem_cons_zero]
        split <;> simp_all
      · simp only [List.getElem_cons_zero] at hne ⊢
        simp only [outE]
        rw [if_neg hne]
    | succ k =>
      have hk : k < t.length := by simpa using h
      simp only [List.take_succ_cons, outE] at h0 ⊢
      by_cases hv : witE q a v = 0
      · rw [if_pos hv] at h0 ⊢
        rw [if_pos hv]
        simpa using ih k hk h0
      · rw [if_neg hv] at h0; exact absurd h0 hv

theorem map_take_succ (q a r : Nat) (V : List Int) (k : Nat) (h : k < V.length) : (V.take (k + 1)).map (witL q a r) = (V.take k).map (witL q a r) ++ [witL q a r V[k]] := by
  rw [List.take_succ_eq_append_getElem h, List.map_append]; rfl

set_option maxHeartbeats 6400000 in
theorem out_c (p q g h a r : Nat) (V : List Int) (ao : Option Addr) (n c : Nat) (w : World) (hp : p < 256 ^ 8) (hq : q < 256 ^ 8) (hgb : g < 256 ^ 8) (hhb : h < 256 ^ 8) (ha : a < q) (hr : r < q) (he : readyN p q g h [] = 0)
    (hn : V.length = n) (h0 : 0 < n) (hn2 : n ≤ 256) (hV : NumsAt w ao V) (hvr : ∀ v ∈ V, -9223372036854775808 ≤ v ∧ v ≤ 9223372036854775807) :
    Calls Tryz.prog 23 #[.agg #[.string (E p), .string (E q), .string (E g), .string (E h)], .agg #[.bool false, .string (E a), .bool false, .string (E r)], .slice ao n c] w (LPost w (outL q a r V) (outE q a V)) := by
  obtain ⟨i0, hi0, hz0, hz1, hz2⟩ := info_parts info_irow
  have HI0 := Lib.hid hi0
  have HZ0 := Lib.hid hz0
  have HZ1 := Lib.hid hz1
  have HZ2 := Lib.hid hz2
  clear hi0 hz0 hz1 hz2
  have hq0 : 0 < q := by omega
  have HRD := Lib.hid (fun w => reduced_ok p q g h a r w hp hq (lt128 hgb) (lt128 hhb) ha hr he)
  have hB := blk2a w #[Value.string (E p), Value.string (E q), Value.string (E g), Value.string (E h)] #[.bool false, .string (E a), .bool false, .string (E r)] 26 47
  have hI := blk2b w #[Value.string (E p), Value.string (E q), Value.string (E g), Value.string (E h)] #[.bool false, .string (E a), .bool false, .string (E r)] 26 47
  have hBW := b2 w (.cells #[Value.string (E p), Value.string (E q), Value.string (E g), Value.string (E h)] 26) (.cells #[.bool false, .string (E a), .bool false, .string (E r)] 47)
  have HW := Lib.hid (fun v w h1 h2 => notwit_c p q g h a r v w hp hq hgb hhb ha hr he h1 h2)
  have HN := Lib.hid hn
  have HVR := Lib.hid hvr
  have hV1 := hV.after hBW
  have e3 : ((n : Int) == 0) = false := by rw [beq_eq_false_iff_ne]; omega
  have e4 : decide ((256 : Int) < (n : Int)) = false := decide_eq_false (by omega)
  clear hp hq hgb hhb ha hr he hq0 hn hvr hV
  have hBc0 := hB.cell 0
  have hBf0 := hB.free 0
  have hBc1 := hB.cell 1
  have hBf1 := hB.free 1
  have hBc2 := hB.cell 2
  have hBf2 := hB.free 2
  have hBc3 := hB.cell 3
  have hBf3 := hB.free 3
  have hIc0 := hI.cell 0
  have hIf0 := hI.free 0
  have hIc1 := hI.cell 1
  have hIf1 := hI.free 1
  have hIc2 := hI.cell 2
  have hIf2 := hI.free 2
  have hIc3 := hI.cell 3
  have hIf3 := hI.free 3
  go_enter Tryz.func23, Tryz.ntmps23
  go_wp2_with fail
  refine (HRD.out _).mono ?_
  rintro e w3 ⟨rfl, hb3⟩
  clear hBc0 hBf0 hBc1 hBf1 hBc2 hBf2 hBc3 hBf3
  clear hIc0 hIf0 hIc1 hIf1 hIc2 hIf2 hIc3 hIf3
  replace hB := hB.after hb3
  replace hI := hI.after hb3
  replace hV1 := hV1.after hb3
  replace hBW := bt hBW hb3
  clear hb3
  go_wp2
  go_loopw [30, 9] (fun i o wr => ∃ k : Nat, k ≤ n ∧ i = .int .i64 k ∧ Hid (outE q a (V.take k) = 0) ∧ LAt wr w3.heap.size o ((V.take k).map (witL q a r)) ∧ Below w3.heap.size w3 wr) (fun i _ _ => n - (intOf i).toNat)
  case atStart => exact ⟨0, by omega, rfl, rfl, LAt.nil _ _, Below.refl _ _⟩
  case round =>
    obtain ⟨k, hk, rfl, HE0, hL, hbr⟩ := hrel
    obtain ⟨wp, hwp⟩ : ∃ wp, wp = wr := ⟨_, rfl⟩
    subst hwp
    have hBp := hB.after hbr
    have hIp := hI.after hbr
    by_cases hlt : k < n
    · have hkl : k < V.length := by rw [HN.out]; exact hlt
      have HVK := Lib.hid (HVR.out _ (List.getElem_mem hkl))
      obtain ⟨HE1, HE2⟩ := outE_take q a V k hkl HE0.out
      have HM := Lib.hid (map_take_succ q a r V k hkl)
      have HLE : Hid (((V.take k).map (witL q a r)).length = k) := by rw [Hid, List.length_map, List.length_take]; omega
      have HWW := Lib.hid (fun w => HW.out V[k] w HVK.out.1 HVK.out.2)
      obtain ⟨b, o, rfl, hbl, hcell⟩ := (hV1.after hbr).at_ hkl
      generalize hvk : V[k]'hkl = vk at hcell HVK HWW HM HE1 HE2
      have HWL : Hid (witE q a vk ≠ 0 → witL q a r vk = []) := fun h => by rw [witL, if_neg h]
      generalize witL q a r vk = L at HWW HM HWL
      generalize witE q a vk = ke at HWW HE1 HE2 HWL
      clear hvk
      have HE1' := Lib.hid HE1
      have HE2' := Lib.hid HE2
      clear HE1 HE2
      have hBpc0 := hBp.cell 0
      have hBpf0 := hBp.free 0
      have hBpc1 := hBp.cell 1
      have hBpf1 := hBp.free 1
      have hBpc2 := hBp.cell 2
      have hBpf2 := hBp.free 2
      have hBpc3 := hBp.cell 3
      have hBpf3 := hBp.free 3
      have hIpc0 := hIp.cell 0
      have hIpf0 := hIp.free 0
      have hIpc1 := hIp.cell 1
      have hIpf1 := hIp.free 1
      have hIpc2 := hIp.cell 2
      have hIpf2 := hIp.free 2
      have hIpc3 := hIp.cell 3
      have hIpf3 := hIp.free 3
      go_wp2_with fail
      refine (HWW.out _).mono ?_
      rintro e w5 ⟨u, rfl, hu, hb5⟩
      clear hBpc0 hBpf0 hBpc1 hBpf1 hBpc2 hBpf2 hBpc3 hBpf3
      clear hIpc0 hIpf0 hIpc1 hIpf1 hIpc2 hIpf2 hIpc3 hIpf3
      replace hBp := hBp.after hb5
      have hbr5 := bt hbr hb5
      have hL5 := hL.after hb5
      by_cases hke : ke = 0
      · subst hke
        obtain ⟨xs, hx1, hx2⟩ := hL5
        rw [HLE.out] at hx1
        have hsz : w3.heap.size ≤ w5.heap.size := hbr5.size
        obtain ⟨uo, uc, rfl⟩ := hu.form
        generalize L.length = ul at hu
        have hoc : ∀ x ∈ [Value.slice uo ul uc], x.oneCell' = true := by intro x hx; rw [List.mem_singleton] at hx; subst hx; rfl
        go_wp2_with (at_builtin; refine wpList_append_lies _ rfl (.tmp 44) (.tmp 46) _ rfl w3.heap.size 49 i0 _ 1 24 Tryz.underlying55 HI0.out HZ0.out HZ1.out HZ2.out rfl (by omega) _ k _ rfl (own_after hx1 (b1 _ (.cells #[.slice uo ul uc] 49))) ⟨w5.heap.size, 0, none⟩ 1 1 [.slice uo ul uc] rfl rfl (Blk.new w5 #[.slice uo ul uc] 49).cells hoc (by omega) (by simp only [maxLen]; omega) (by omega) (by rw [World.size_alloc]; have := hsz; omega) (w5.heap.size + 1) (by simp) ?_; intro ga ca wa hown hgrow hat hlt2)
        have hL6 := LAt.push (L := L) (by rw [HLE.out]; exact own_after hx1 (b1 _ (.cells #[.slice uo ul uc] 49))) (fun j hj => (hx2 j hj).imp fun y hy => ⟨hy.1, hy.2.after (b1 _ _)⟩) (hu.after (b1 _ (.cells #[.slice uo ul uc] 49))) hgrow (by rw [HLE.out]; exact hown)
        rw [← HM.out] at hL6
        have hbr6 := (ba hbr5 (.cells #[.slice uo ul uc] 49)).grown hgrow (by rw [World.size_alloc]; omega) (fun g hg => (own_lt hx1 hg).2)
        clear hown hgrow hat hlt2 hx1 hx2
        go_wp2
        go_roundw
        case rel => exact ⟨k + 1, by omega, by go_num, HE1'.out, hL6, hbr6⟩
        case measure => simp [intOf]; omega
      · have e1 : ((ke : Int) == 0) = false := by rw [beq_eq_false_iff_ne]; omega
        have e2 : ((ke : Int) != 0) = true := by rw [bne_iff_ne]; omega
        have HF : Hid (outE q a V = ke) := HE2'.out hke
        have HLL : Hid (outL q a r V = []) := by rw [Hid, outL, HF.out, if_neg hke]
        clear hke
        go_wp2
        go_ret2
        exact ⟨_, by rw [HF.out]; rfl, by rw [HLL.out]; exact LAt.nil _ _, bt hBW hbr5⟩
    · obtain rfl : k = n := by omega
      have HF : Hid (V.take k = V) := by rw [Hid, ← HN.out, List.take_length]
      rw [HF.out] at HE0 hL
      have HLL : Hid (outL q a r V = V.map (witL q a r)) := by rw [Hid, outL, if_pos HE0.out]
      go_wp2
      go_ret2
      exact ⟨_, by rw [HE0.out]; rfl, by rw [HLL.out]; exact hL.mono (Nat.zero_le _), bt hBW hbr⟩

end Go.Proofs.YtecobjddpinonaaGreat
end

section
set_option linter.unusedVariables false
set_option linter.unusedSimpArgs false
set_option maxRecDepth 100000
namespace Go.Proofs.YtecobjddpinonaaGreat
open Go.RowKit Go.Shelf

set_option maxHeartbeats 6400000 in
theorem rout_c (p q g h a r : Nat) (V : List Int) (ao : Option Addr) (n c : Nat) (w : World) (hp : p < 256 ^ 8) (hq : q < 256 ^ 8) (hgb : g < 256 ^ 8) (hhb : h < 256 ^ 8) (ha : a < q) (hr : r < q) (he : readyN p q g h [] = 0)
    (hn : V.length = n) (h0 : 0 < n) (hn2 : n ≤ 256) (hV : NumsAt w ao V) (hvr : ∀ v ∈ V, -9223372036854775808 ≤ v ∧ v ≤ 9223372036854775807) :
    Calls Tryz.prog 24 #[.agg #[.string (E p), .string (E q), .string (E g), .string (E h)], .agg #[.bool false, .string (E a), .bool false, .string (E r)], .slice ao n c] w (LPost w (outL q a r V) (outE q a V)) := by
  obtain ⟨i0, hi0, hz0, hz1, hz2⟩ := info_parts info_irow
  have HI0 := Lib.hid hi0
  have HZ0 := Lib.hid hz0
  have HZ1 := Lib.hid hz1
  have HZ2 := Lib.hid hz2
  clear hi0 hz0 hz1 hz2
  have hq0 : 0 < q := by omega
  have HRD := Lib.hid (fun w => openedT_c p q g h a r w hp hq hgb hhb ha hr he)
  have hB := blk2a w #[Value.string (E p), Value.string (E q), Value.string (E g), Value.string (E h)] #[.bool false, .string (E a), .bool false, .string (E r)] 26 47
  have hI := blk2b w #[Value.string (E p), Value.string (E q), Value.string (E g), Value.string (E h)] #[.bool false, .string (E a), .bool false, .string (E r)] 26 47
  have hBW := b2 w (.cells #[Value.string (E p), Value.string (E q), Value.string (E g), Value.string (E h)] 26) (.cells #[.bool false, .string (E a), .bool false, .string (E r)] 47)
  have HW := Lib.hid (fun v w h1 h2 => rwit_c p q g h a r v w hq ha hr h1 h2)
  have HMN := Lib.hid (fun w => rmany_c ao n c false w hn2 (decide_eq_false (by omega)))
  have HN := Lib.hid hn
  have HVR := Lib.hid hvr
  have hV1 := hV.after hBW
  have e3 : ((n : Int) == 0) = false := by rw [beq_eq_false_iff_ne]; omega
  have e4 : decide ((256 : Int) < (n : Int)) = false := decide_eq_false (by omega)
  clear hp hq hgb hhb ha hr he hq0 hn hvr hV
  have hBc0 := hB.cell 0
  have hBf0 := hB.free 0
  have hBc1 := hB.cell 1
  have hBf1 := hB.free 1
  have hBc2 := hB.cell 2
  have hBf2 := hB.free 2
  have hBc3 := hB.cell 3
  have hBf3 := hB.free 3
  have hIc0 := hI.cell 0
  have hIf0 := hI.free 0
  have hIc1 := hI.cell 1
  have hIf1 := hI.free 1
  have hIc2 := hI.cell 2
  have hIf2 := hI.free 2
  have hIc3 := hI.cell 3
  have hIf3 := hI.free 3
  go_enter Tryz.func24, Tryz.ntmps24
  go_wp2_with fail
  refine (HRD.out _).mono ?_
  rintro e w3 ⟨rfl, hb3⟩
  clear hBc0 hBf0 hBc1 hBf1 hBc2 hBf2 hBc3 hBf3
  clear hIc0 hIf0 hIc1 hIf1 hIc2 hIf2 hIc3 hIf3
  replace hB := hB.after hb3
  replace hI := hI.after hb3
  replace hV1 := hV1.after hb3
  replace hBW := bt hBW hb3
  clear hb3
  go_wp2_with fail
  refine (HMN.out _).mono ?_
  rintro e w' ⟨rfl, rfl⟩
  go_wp2
  go_loopw [10, 9] (fun i o wr => ∃ k : Nat, k ≤ n ∧ i = .int .i64 k ∧ Hid (outE q a (V.take k) = 0) ∧ LAt wr w3.heap.size o ((V.take k).map (witL q a r)) ∧ Below w3.heap.size w3 wr) (fun i _ _ => n - (intOf i).toNat)
  case atStart => exact ⟨0, by omega, rfl, rfl, LAt.nil _ _, Below.refl _ _⟩
  case round =>
    obtain ⟨k, hk, rfl, HE0, hL, hbr⟩ := hrel
    obtain ⟨wp, hwp⟩ : ∃ wp, wp = wr := ⟨_, rfl⟩
    subst hwp
    have hBp := hB.after hbr
    have hIp := hI.after hbr
    by_cases hlt : k < n
    · have hkl : k < V.length := by rw [HN.out]; exact hlt
      have HVK := Lib.hid (HVR.out _ (List.getElem_mem hkl))
      obtain ⟨HE1, HE2⟩ := outE_take q a V k hkl HE0.out
      have HM := Lib.hid (map_take_succ q a r V k hkl)
      have HLE : Hid (((V.take k).map (witL q a r)).length = k) := by rw [Hid, List.length_map, List.length_take]; omega
      have HWW := Lib.hid (fun w => HW.out V[k] w HVK.out.1 HVK.out.2)
      obtain ⟨b, o, rfl, hbl, hcell⟩ := (hV1.after hbr).at_ hkl
      generalize hvk : V[k]'hkl = vk at hcell HVK HWW HM HE1 HE2
      have HWL : Hid (witE q a vk ≠ 0 → witL q a r vk = []) := fun h => by rw [witL, if_neg h]
      generalize witL q a r vk = L at HWW HM HWL
      generalize witE q a vk = ke at HWW HE1 HE2 HWL
      clear hvk
      have HE1' := Lib.hid HE1
      have HE2' := Lib.hid HE2
      clear HE1 HE2
      have hBpc0 := hBp.cell 0
      have hBpf0 := hBp.free 0
      have hBpc1 := hBp.cell 1
      have hBpf1 := hBp.free 1
      have hBpc2 := hBp.cell 2
      have hBpf2 := hBp.free 2
      have hBpc3 := hBp.cell 3
      have hBpf3 := hBp.free 3
      have hIpc0 := hIp.cell 0
      have hIpf0 := hIp.free 0
      have hIpc1 := hIp.cell 1
      have hIpf1 := hIp.free 1
      have hIpc2 := hIp.cell 2
      have hIpf2 := hIp.free 2
      have hIpc3 := hIp.cell 3
      have hIpf3 := hIp.free 3
      go_wp2_with fail
      go_region_with (go_at_call 48; refine (HWW.out _).mono ?_; rintro e w5 ⟨u, rfl, hu, hb6⟩)
      all_goals
        have hb5 := bt (Below.refl _ wp).drew hb6
        clear hb6
        clear hBpc0 hBpf0 hBpc1 hBpf1 hBpc2 hBpf2 hBpc3 hBpf3
        clear hIpc0 hIpf0 hIpc1 hIpf1 hIpc2 hIpf2 hIpc3 hIpf3
        replace hBp := hBp.after hb5
        have hbr5 := bt hbr hb5
        have hL5 := hL.after hb5
        by_cases hke : ke = 0
        · subst hke
          obtain ⟨xs, hx1, hx2⟩ := hL5
          rw [HLE.out] at hx1
          have hsz : w3.heap.size ≤ w5.heap.size := hbr5.size
          obtain ⟨uo, uc, rfl⟩ := hu.form
          generalize L.length = ul at hu
          have hoc : ∀ x ∈ [Value.slice uo ul uc], x.oneCell' = true := by intro x hx; rw [List.mem_singleton] at hx; subst hx; rfl
          go_wp2_with (at_builtin; refine wpList_append_lies _ rfl (.tmp 40) (.tmp 42) _ rfl w3.heap.size 49 i0 _ 1 24 Tryz.underlying55 HI0.out HZ0.out HZ1.out HZ2.out rfl (by omega) _ k _ rfl (own_after hx1 (b1 _ (.cells #[.slice uo ul uc] 49))) ⟨w5.heap.size, 0, none⟩ 1 1 [.slice uo ul uc] rfl rfl (Blk.new w5 #[.slice uo ul uc] 49).cells hoc (by omega) (by simp only [maxLen]; omega) (by omega) (by rw [World.size_alloc]; have := hsz; omega) (w5.heap.size + 1) (by simp) ?_; intro ga ca wa hown hgrow hat hlt2)
          have hL6 := LAt.push (L := L) (by rw [HLE.out]; exact own_after hx1 (b1 _ (.cells #[.slice uo ul uc] 49))) (fun j hj => (hx2 j hj).imp fun y hy => ⟨hy.1, hy.2.after (b1 _ _)⟩) (hu.after (b1 _ (.cells #[.slice uo ul uc] 49))) hgrow (by rw [HLE.out]; exact hown)
          rw [← HM.out] at hL6
          have hbr6 := (ba hbr5 (.cells #[.slice uo ul uc] 49)).grown hgrow (by rw [World.size_alloc]; omega) (fun g hg => (own_lt hx1 hg).2)
          clear hown hgrow hat hlt2 hx1 hx2
          go_wp2
          go_roundw
          case rel => exact ⟨k + 1, by omega, by go_num, HE1'.out, hL6, hbr6⟩
          case measure => simp [intOf]; omega
        · have e1 : ((ke : Int) == 0) = false := by rw [beq_eq_false_iff_ne]; omega
          have e2 : ((ke : Int) != 0) = true := by rw [bne_iff_ne]; omega
          have HF : Hid (outE q a V = ke) := HE2'.out hke
          have HLL : Hid (outL q a r V = []) := by rw [Hid, outL, HF.out, if_neg hke]
          clear hke
          go_wp2
          go_ret2
          exact ⟨_, by rw [HF.out]; rfl, by rw [HLL.out]; exact LAt.nil _ _, bt hBW hbr5⟩
    · obtain rfl : k = n := by omega
      have HF : Hid (V.take k = V) := by rw [Hid, ← HN.out, List.take_length]
      rw [HF.out] at HE0 hL
      have HLL : Hid (outL q a r V = V.map (witL q a r)) := by rw [Hid, outL, if_pos HE0.out]
      go_wp2
      go_ret2
      exact ⟨_, by rw [HE0.out]; rfl, by rw [HLL.out]; exact hL.mono (Nat.zero_le _), bt hBW hbr⟩

end Go.Proofs.YtecobjddpinonaaGreat
end

section
set_option linter.unusedVariables false
set_option linter.unusedSimpArgs false
set_option maxRecDepth 100000
namespace Go.Proofs.YtecobjddpinonaaGreat
open Go.RowKit Go.Shelf

set_option maxHeartbeats 4000000 in
theorem wits_big (ka kb kc kd : ByteArray) (sn : Bool) (a : ByteArray) (sm : Bool) (r : ByteArray) (ao : Option Addr) (n c : Nat) (w : World) (hs : ∀ s ∈ [a, r] ++ [ka, kb, kc, kd], s.size ≤ 9223372036854775807) (hb : smallB ([a, r] ++ [ka, kb, kc, kd]) = false) :
    Calls Tryz.prog 5 #[.agg #[.string ka, .string kb, .string kc, .string kd], .agg #[.bool sn, .string a, .bool sm, .string r], .slice ao n c] w fun e w' => e = .returned (.bool true) ∧ Below w.heap.size w w' := by
  have HS := Lib.hid (lsmall_c ka kb kc kd [a, r] (w.heap.size + 2) 2 (((w.alloc (.cells #[Value.string ka, Value.string kb, Value.string kc, Value.string kd] 26)).alloc (.cells #[.bool sn, .string a, .bool sm, .string r] 47)).alloc (.cells #[.string a, .string r] 22)) rfl (by omega) (by omega) hs (blk3c _ _ _ _ _ _ _))
  rw [hb] at HS
  have HA := Lib.hid awake_c
  clear hs hb
  have hB := blk2a w #[Value.string ka, Value.string kb, Value.string kc, Value.string kd] #[.bool sn, .string a, .bool sm, .string r] 26 47
  have hI := blk2b w #[Value.string ka, Value.string kb, Value.string kc, Value.string kd] #[.bool sn, .string a, .bool sm, .string r] 26 47
  have hBc0 := hB.cell 0
  have hBf0 := hB.free 0
  have hBc1 := hB.cell 1
  have hBf1 := hB.free 1
  have hBc2 := hB.cell 2
  have hBf2 := hB.free 2
  have hBc3 := hB.cell 3
  have hBf3 := hB.free 3
  have hIc0 := hI.cell 0
  have hIf0 := hI.free 0
  have hIc1 := hI.cell 1
  have hIf1 := hI.free 1
  have hIc2 := hI.cell 2
  have hIf2 := hI.free 2
  have hIc3 := hI.cell 3
  have hIf3 := hI.free 3
  go_enter Tryz.func5, Tryz.ntmps5
  go_wp2_with fail
  refine (HS.out).mono ?_
  rintro e w1 ⟨rfl, hb1⟩
  go_wp2_with fail
  refine (HA.out _).mono ?_
  rintro e w2 ⟨rfl, hb2⟩
  go_wp2
  go_ret
  exact ⟨rfl, bt (bt (b3 _ _ _ _) hb1) hb2⟩

set_option maxHeartbeats 4000000 in
theorem wits_long (ka kb kc kd : ByteArray) (sn : Bool) (a : ByteArray) (sm : Bool) (r : ByteArray) (ao : Option Addr) (n c : Nat) (w : World) (hs : ∀ s ∈ [a, r] ++ [ka, kb, kc, kd], s.size ≤ 9223372036854775807) (hb : smallB ([a, r] ++ [ka, kb, kc, kd]) = true) (hn : 12 < n) :
    Calls Tryz.prog 5 #[.agg #[.string ka, .string kb, .string kc, .string kd], .agg #[.bool sn, .string a, .bool sm, .string r], .slice ao n c] w fun e w' => e = .returned (.bool true) ∧ Below w.heap.size w w' := by
  have HS := Lib.hid (lsmall_c ka kb kc kd [a, r] (w.heap.size + 2) 2 (((w.alloc (.cells #[Value.string ka, Value.string kb, Value.string kc, Value.string kd] 26)).alloc (.cells #[.bool sn, .string a, .bool sm, .string r] 47)).alloc (.cells #[.string a, .string r] 22)) rfl (by omega) (by omega) hs (blk3c _ _ _ _ _ _ _))
  rw [hb] at HS
  have HA := Lib.hid awake_c
  have e1 : decide ((12 : Int) < (n : Int)) = true := decide_eq_true (by omega)
  clear hs hb hn
  have hB := blk2a w #[Value.string ka, Value.string kb, Value.string kc, Value.string kd] #[.bool sn, .string a, .bool sm, .string r] 26 47
  have hI := blk2b w #[Value.string ka, Value.string kb, Value.string kc, Value.string kd] #[.bool sn, .string a, .bool sm, .string r] 26 47
  have hBc0 := hB.cell 0
  have hBf0 := hB.free 0
  have hBc1 := hB.cell 1
  have hBf1 := hB.free 1
  have hBc2 := hB.cell 2
  have hBf2 := hB.free 2
  have hBc3 := hB.cell 3
  have hBf3 := hB.free 3
  have hIc0 := hI.cell 0
  have hIf0 := hI.free 0
  have hIc1 := hI.cell 1
  have hIf1 := hI.free 1
  have hIc2 := hI.cell 2
  have hIf2 := hI.free 2
  have hIc3 := hI.cell 3
  have hIf3 := hI.free 3
  go_enter Tryz.func5, Tryz.ntmps5
  go_wp2_with fail
  refine (HS.out).mono ?_
  rintro e w1 ⟨rfl, hb1⟩
  go_wp2_with fail
  refine (HA.out _).mono ?_
  rintro e w2 ⟨rfl, hb2⟩
  go_wp2
  go_ret
  exact ⟨rfl, bt (bt (b3 _ _ _ _) hb1) hb2⟩

set_option maxHeartbeats 8000000 in
theorem wits_walk (ka kb kc kd : ByteArray) (sn : Bool) (a : ByteArray) (sm : Bool) (r : ByteArray) (V : List Int) (ao : Option Addr) (n c : Nat) (w : World) (hs : ∀ s ∈ [a, r] ++ [ka, kb, kc, kd], s.size ≤ 9223372036854775807) (hb : smallB ([a, r] ++ [ka, kb, kc, kd]) = true) (hn : V.length = n) (hn2 : n ≤ 12) (hV : NumsAt w ao V)
    (WL : Int → List (Bool × ByteArray)) (WE : Int → Nat) (ML OL : List (List (Bool × ByteArray))) (ME OE : Nat)
    (l1 : ∀ v, (WL v).length ≤ 1000000) (l2 : ML.length ≤ 1000000) (l3 : ∀ L ∈ ML, L.length ≤ 1000000) (l4 : OL.length ≤ 1000000) (l5 : ∀ L ∈ OL, L.length ≤ 1000000)
    (h1 : ∀ v ∈ V, ∀ w, Calls Tryz.prog 18 #[.agg #[.string ka, .string kb, .string kc, .string kd], .agg #[.bool sn, .string a, .bool sm, .string r], .int .i64 v] w (WPost w (WL v) (WE v)))
    (h2 : ∀ v ∈ V, ∀ w, Calls Tryz.prog 19 #[.agg #[.string ka, .string kb, .string kc, .string kd], .agg #[.bool sn, .string a, .bool sm, .string r], .int .i64 v] w (WPost w (WL v) (WE v)))
    (h3 : ∀ w, NumsAt w ao V → Calls Tryz.prog 21 #[.agg #[.string ka, .string kb, .string kc, .string kd], .agg #[.bool sn, .string a, .bool sm, .string r], .slice ao n c] w (LPost w ML ME))
    (h4 : ∀ w, NumsAt w ao V → Calls Tryz.prog 22 #[.agg #[.string ka, .string kb, .string kc, .string kd], .agg #[.bool sn, .string a, .bool sm, .string r], .slice ao n c] w (LPost w ML ME))
    (h5 : ∀ w, NumsAt w ao V → Calls Tryz.prog 23 #[.agg #[.string ka, .string kb, .string kc, .string kd], .agg #[.bool sn, .string a, .bool sm, .string r], .slice ao n c] w (LPost w OL OE))
    (h6 : ∀ w, NumsAt w ao V → Calls Tryz.prog 24 #[.agg #[.string ka, .string kb, .string kc, .string kd], .agg #[.bool sn, .string a, .bool sm, .string r], .slice ao n c] w (LPost w OL OE)) :
    Calls Tryz.prog 5 #[.agg #[.string ka, .string kb, .string kc, .string kd], .agg #[.bool sn, .string a, .bool sm, .string r], .slice ao n c] w fun e w' => e = .returned (.bool true) ∧ Below w.heap.size w w' := by
  have HS := Lib.hid (lsmall_c ka kb kc kd [a, r] (w.heap.size + 2) 2 (((w.alloc (.cells #[Value.string ka, Value.string kb, Value.string kc, Value.string kd] 26)).alloc (.cells #[.bool sn, .string a, .bool sm, .string r] 47)).alloc (.cells #[.string a, .string r] 22)) rfl (by omega) (by omega) hs (blk3c _ _ _ _ _ _ _))
  rw [hb] at HS
  have HA := Lib.hid awake_c
  have e1 : decide ((12 : Int) < (n : Int)) = false := decide_eq_false (by omega)
  have H1 := Lib.hid h1
  have H2 := Lib.hid h2
  have H3 := Lib.hid h3
  have H4 := Lib.hid h4
  have H5 := Lib.hid h5
  have H6 := Lib.hid h6
  have HN := Lib.hid hn
  have L1 := Lib.hid l1
  have L2 := Lib.hid l2
  have L3 := Lib.hid l3
  have L4 := Lib.hid l4
  have L5 := Lib.hid l5
  have HEW := Lib.hid (fun w => ewit_c sn a sm r w)
  have hB := blk2a w #[Value.string ka, Value.string kb, Value.string kc, Value.string kd] #[.bool sn, .string a, .bool sm, .string r] 26 47
  have hI := blk2b w #[Value.string ka, Value.string kb, Value.string kc, Value.string kd] #[.bool sn, .string a, .bool sm, .string r] 26 47
  have hBW := b3 w (.cells #[Value.string ka, Value.string kb, Value.string kc, Value.string kd] 26) (.cells #[.bool sn, .string a, .bool sm, .string r] 47) (.cells #[.string a, .string r] 22)
  have hV1 := hV.after hBW
  clear hs hb h1 h2 h3 h4 h5 h6 hn l1 l2 l3 l4 l5 hV
  have hBc0 := hB.cell 0
  have hBf0 := hB.free 0
  have hBc1 := hB.cell 1
  have hBf1 := hB.free 1
  have hBc2 := hB.cell 2
  have hBf2 := hB.free 2
  have hBc3 := hB.cell 3
  have hBf3 := hB.free 3
  have hIc0 := hI.cell 0
  have hIf0 := hI.free 0
  have hIc1 := hI.cell 1
  have hIf1 := hI.free 1
  have hIc2 := hI.cell 2
  have hIf2 := hI.free 2
  have hIc3 := hI.cell 3
  have hIf3 := hI.free 3
  go_enter Tryz.func5, Tryz.ntmps5
  go_wp2_with fail
  refine (HS.out).mono ?_
  rintro e w1 ⟨rfl, hb1⟩
  clear hBc0 hBf0 hBc1 hBf1 hBc2 hBf2 hBc3 hBf3
  clear hIc0 hIf0 hIc1 hIf1 hIc2 hIf2 hIc3 hIf3
  replace hB := (hB.alloc (.cells #[.string a, .string r] 22)).after hb1
  replace hI := (hI.alloc (.cells #[.string a, .string r] 22)).after hb1
  replace hV1 := hV1.after hb1
  replace hBW := bt hBW hb1
  clear hb1
  go_wp2
  go_loopw [39] (fun i wr => ∃ k : Nat, k ≤ n ∧ i = .int .i64 k ∧ Below w1.heap.size w1 wr) (fun i _ => n - (intOf i).toNat)
  case atStart => exact ⟨0, by omega, rfl, Below.refl _ _⟩
  case round =>
    obtain ⟨k, hk, rfl, hbr⟩ := hrel
    obtain ⟨wp, hwp⟩ : ∃ wp, wp = wr := ⟨_, rfl⟩
    subst hwp
    replace hB := hB.after hbr
    replace hI := hI.after hbr
    replace hV1 := hV1.after hbr
    by_cases hlt : k < n
    · have hkl : k < V.length := by rw [HN.out]; exact hlt
      have HW1 := Lib.hid (H1.out _ (List.getElem_mem hkl))
      have HW2 := Lib.hid (H2.out _ (List.getElem_mem hkl))
      have LW := Lib.hid (L1.out (V[k]'hkl))
      obtain ⟨b, o, rfl, hbl, hcell⟩ := hV1.at_ hkl
      generalize V[k]'hkl = vk at hcell HW1 HW2 LW
      generalize WL vk = L at HW1 HW2 LW
      generalize WE vk = ke at HW1 HW2
      have hBc0 := hB.cell 0
      have hBf0 := hB.free 0
      have hBc1 := hB.cell 1
      have hBf1 := hB.free 1
      have hBc2 := hB.cell 2
      have hBf2 := hB.free 2
      have hBc3 := hB.cell 3
      have hBf3 := hB.free 3
      have hIc0 := hI.cell 0
      have hIf0 := hI.free 0
      have hIc1 := hI.cell 1
      have hIf1 := hI.free 1
      have hIc2 := hI.cell 2
      have hIf2 := hI.free 2
      have hIc3 := hI.cell 3
      have hIf3 := hI.free 3
      go_wp2_with fail
      refine (HW1.out _).mono ?_
      rintro e w5 ⟨u, rfl, hu, hb5⟩
      clear hBc0 hBf0 hBc1 hBf1 hBc2 hBf2 hBc3 hBf3
      clear hIc0 hIf0 hIc1 hIf1 hIc2 hIf2 hIc3 hIf3
      replace hB := hB.after hb5
      replace hI := hI.after hb5
      have hBc0 := hB.cell 0
      have hBf0 := hB.free 0
      have hBc1 := hB.cell 1
      have hBf1 := hB.free 1
      have hBc2 := hB.cell 2
      have hBf2 := hB.free 2
      have hBc3 := hB.cell 3
      have hBf3 := hB.free 3
      have hIc0 := hI.cell 0
      have hIf0 := hI.free 0
      have hIc1 := hI.cell 1
      have hIf1 := hI.free 1
      have hIc2 := hI.cell 2
      have hIf2 := hI.free 2
      have hIc3 := hI.cell 3
      have hIf3 := hI.free 3
      go_wp2_with fail
      refine (HW2.out _).mono ?_
      rintro e w6 ⟨u', rfl, hu', hb6⟩
      replace hu := hu.after hb6
      go_wp2_with fail
      refine (iseq_c _ _ L _ LW.out hu hu').mono ?_
      rintro e w7 ⟨rfl, hb7⟩
      go_wp2
      go_roundw
      case rel => exact ⟨k + 1, by omega, by go_num, bt (bt (bt hbr hb5) hb6) hb7⟩
      case measure => simp [intOf]; omega
    · obtain rfl : k = n := by omega
      replace hBW := bt hBW hbr
      clear hbr
      have hBc0 := hB.cell 0
      have hBf0 := hB.free 0
      have hBc1 := hB.cell 1
      have hBf1 := hB.free 1
      have hBc2 := hB.cell 2
      have hBf2 := hB.free 2
      have hBc3 := hB.cell 3
      have hBf3 := hB.free 3
      have hIc0 := hI.cell 0
      have hIf0 := hI.free 0
      have hIc1 := hI.cell 1
      have hIf1 := hI.free 1
      have hIc2 := hI.cell 2
      have hIf2 := hI.free 2
      have hIc3 := hI.cell 3
      have hIf3 := hI.free 3
      go_wp2_with fail
      refine (H3.out _ hV1).mono ?_
      rintro e w3 ⟨v1, rfl, hv1, hb3⟩
      clear hBc0 hBf0 hBc1 hBf1 hBc2 hBf2 hBc3 hBf3
      clear hIc0 hIf0 hIc1 hIf1 hIc2 hIf2 hIc3 hIf3
      replace hB := hB.after hb3
      replace hI := hI.after hb3
      replace hV1 := hV1.after hb3
      replace hBW := bt hBW hb3
      clear hb3
      have hBc0 := hB.cell 0
      have hBf0 := hB.free 0
      have hBc1 := hB.cell 1
      have hBf1 := hB.free 1
      have hBc2 := hB.cell 2
      have hBf2 := hB.free 2
      have hBc3 := hB.cell 3
      have hBf3 := hB.free 3
      have hIc0 := hI.cell 0
      have hIf0 := hI.free 0
      have hIc1 := hI.cell 1
      have hIf1 := hI.free 1
      have hIc2 := hI.cell 2
      have hIf2 := hI.free 2
      have hIc3 := hI.cell 3
      have hIf3 := hI.free 3
      go_wp2_with fail
      refine (H4.out _ hV1).mono ?_
      rintro e w4 ⟨v2, rfl, hv2, hb4⟩
      clear hBc0 hBf0 hBc1 hBf1 hBc2 hBf2 hBc3 hBf3
      clear hIc0 hIf0 hIc1 hIf1 hIc2 hIf2 hIc3 hIf3
      replace hB := hB.after hb4
      replace hI := hI.after hb4
      replace hV1 := hV1.after hb4
      replace hv1 := hv1.after hb4
      replace hBW := bt hBW hb4
      clear hb4
      have hBc0 := hB.cell 0
      have hBf0 := hB.free 0
      have hBc1 := hB.cell 1
      have hBf1 := hB.free 1
      have hBc2 := hB.cell 2
      have hBf2 := hB.free 2
      have hBc3 := hB.cell 3
      have hBf3 := hB.free 3
      have hIc0 := hI.cell 0
      have hIf0 := hI.free 0
      have hIc1 := hI.cell 1
      have hIf1 := hI.free 1
      have hIc2 := hI.cell 2
      have hIf2 := hI.free 2
      have hIc3 := hI.cell 3
      have hIf3 := hI.free 3
      go_wp2_with fail
      refine (H5.out _ hV1).mono ?_
      rintro e w5 ⟨v3, rfl, hv3, hb5⟩
      clear hBc0 hBf0 hBc1 hBf1 hBc2 hBf2 hBc3 hBf3
      clear hIc0 hIf0 hIc1 hIf1 hIc2 hIf2 hIc3 hIf3
      replace hB := hB.after hb5
      replace hI := hI.after hb5
      replace hV1 := hV1.after hb5
      replace hv1 := hv1.after hb5
      replace hv2 := hv2.after hb5
      replace hBW := bt hBW hb5
      clear hb5
      have hBc0 := hB.cell 0
      have hBf0 := hB.free 0
      have hBc1 := hB.cell 1
      have hBf1 := hB.free 1
      have hBc2 := hB.cell 2
      have hBf2 := hB.free 2
      have hBc3 := hB.cell 3
      have hBf3 := hB.free 3
      have hIc0 := hI.cell 0
      have hIf0 := hI.free 0
      have hIc1 := hI.cell 1
      have hIf1 := hI.free 1
      have hIc2 := hI.cell 2
      have hIf2 := hI.free 2
      have hIc3 := hI.cell 3
      have hIf3 := hI.free 3
      go_wp2_with fail
      refine (H6.out _ hV1).mono ?_
      rintro e w6 ⟨v4, rfl, hv4, hb6⟩
      clear hBc0 hBf0 hBc1 hBf1 hBc2 hBf2 hBc3 hBf3
      clear hIc0 hIf0 hIc1 hIf1 hIc2 hIf2 hIc3 hIf3
      replace hB := hB.after hb6
      replace hI := hI.after hb6
      replace hV1 := hV1.after hb6
      replace hv1 := hv1.after hb6
      replace hv2 := hv2.after hb6
      replace hv3 := hv3.after hb6
      replace hBW := bt hBW hb6
      clear hb6 hB hV1
      have hm1 : 1 ≤ maxLen := by unfold maxLen; omega
      have hl1 : ([(sm, r)] : List (Bool × ByteArray)).length ≤ 1000000 := by simp
      have hlI : w.heap.size + 1 < w6.heap.size := hI.lt
      have hIc0 := hI.cell 0
      have hIf0 := hI.free 0
      have hIc1 := hI.cell 1
      have hIf1 := hI.free 1
      have hIc2 := hI.cell 2
      have hIf2 := hI.free 2
      have hIc3 := hI.cell 3
      have hIf3 := hI.free 3
      go_wp2_with fail
      go_region_held3 (fun w' => w'.cell? ⟨w.heap.size + 1, 0, none⟩ = some (.bool sn) ∧ w'.cell? ⟨w.heap.size + 1, 1, none⟩ = some (.string a) ∧ w'.cell? ⟨w.heap.size + 1, 2, none⟩ = some (.bool sm) ∧ w'.cell? ⟨w.heap.size + 1, 3, none⟩ = some (.string r)) ((refine keep4 (T := 47) ?_; repeat (first | (with_reducible exact hIt) | (with_reducible exact hIs) | (with_reducible exact hIr) | (with_reducible exact hIq) | (with_reducible exact hIf) | (with_reducible exact hI.drew) | (with_reducible exact hI) | (with_reducible refine Blk.drew ?_) | (with_reducible refine Blk.alloc ?_ _))))
        (first
          | (go_at_call 25; refine (HEW.out _).mono ?_; rintro e wf ⟨gb, rfl, hgb, hbf⟩; have hbf2 : Below w6.heap.size w6 wf := (by first | exact bt (Below.refl _ w6).drew hbf | exact bt (ba (Below.refl _ w6) _).drew hbf); have hIf := hI.after hbf2)
          | (go_at_call 20; refine (iseq_c _ _ [(sm, r)] _ hl1 (IAt.blk (n := 1) (L := [(sm, r)]) (by first | exact hgb | exact hgb.alloc _) rfl hm1) (IAt.blk (n := 1) (L := [(sm, r)]) (by first | exact Blk.new _ _ _ | exact (Blk.new w6 _ _).drew.after hbf) rfl hm1)).mono ?_; rintro e wq ⟨rfl, hbq⟩; have hbq2 : Below w6.heap.size w6 wq := (by first | exact bt hbf2 hbq | exact bt (ba hbf2 _) hbq); have hIq := hI.after hbq2)
          | (go_at_call 26; refine (samel_c _ _ ML _ L2.out L3.out (hv1.after hbq2) (hv2.after hbq2)).mono ?_; rintro e wr ⟨rfl, hbr1⟩; have hbr2 := bt hbq2 hbr1; have hIr := hI.after hbr2)
          | (go_at_call 26; refine (samel_c _ _ OL _ L4.out L5.out (hv3.after hbr2) (hv4.after hbr2)).mono ?_; rintro e ws ⟨rfl, hbs1⟩; have hbs2 := bt hbr2 hbs1; have hIs := hI.after hbs2)
          | (go_at_call 8; refine (HA.out _).mono ?_; rintro e wt ⟨rfl, hbt⟩; have hIt := hIs.after hbt))
      all_goals
        go_wp2
        go_ret
        exact ⟨rfl, bt hBW (bt hbs2 hbt)⟩

end Go.Proofs.YtecobjddpinonaaGreat
end

section
set_option linter.unusedVariables false
set_option linter.unusedSimpArgs false
set_option maxRecDepth 100000
namespace Go.Proofs.YtecobjddpinonaaGreat
open Go.RowKit Go.Shelf

theorem witL_len (q a r : Nat) (v : Int) : (witL q a r v).length ≤ 1000000 := by unfold witL; split <;> simp

theorem memL_len (q a r : Nat) (V : List Int) (h : V.length ≤ 12) : (memL q a r V).length ≤ 1000000 := by unfold memL; split <;> simp <;> omega

theorem memL_each (q a r : Nat) (V : List Int) : ∀ L ∈ memL q a r V, L.length ≤ 1000000 := by
  intro L hL
  unfold memL at hL
  split at hL
  · obtain ⟨_, rfl⟩ := List.mem_replicate.1 hL; simp
  · simp at hL

theorem outL_len (q a r : Nat) (V : List Int) (h : V.length ≤ 12) : (outL q a r V).length ≤ 1000000 := by unfold outL; split <;> simp <;> omega

theorem outL_each (q a r : Nat) (V : List Int) : ∀ L ∈ outL q a r V, L.length ≤ 1000000 := by
  intro L hL
  unfold outL at hL
  split at hL
  · obtain ⟨v, _, rfl⟩ := List.mem_map.1 hL; exact witL_len q a r v
  · simp at hL

theorem wits_c (ka kb kc kd : ByteArray) (sn : Bool) (a : ByteArray) (sm : Bool) (r : ByteArray) (V : List Int) (ao : Option Addr) (n c : Nat) (w : World) (hs : ∀ s ∈ [a, r] ++ [ka, kb, kc, kd], s.size ≤ 9223372036854775807) (hn : V.length = n) (hV : NumsAt w ao V) (hvr : ∀ v ∈ V, -9223372036854775808 ≤ v ∧ v ≤ 9223372036854775807) :
    Calls Tryz.prog 5 #[.agg #[.string ka, .string kb, .string kc, .string kd], .agg #[.bool sn, .string a, .bool sm, .string r], .slice ao n c] w fun e w' => e = .returned (.bool true) ∧ Below w.heap.size w w' := by
  cases hb : smallB ([a, r] ++ [ka, kb, kc, kd])
  · exact wits_big ka kb kc kd sn a sm r ao n c w hs hb
  · by_cases hl : 12 < n
    · exact wits_long ka kb kc kd sn a sm r ao n c w hs hb hl
    · have hn12 : n ≤ 12 := by omega
      have hb2 := hb
      simp only [smallB, List.cons_append, List.nil_append, List.all_cons, List.all_nil, Bool.and_true, Bool.and_eq_true, decide_eq_true_eq] at hb2
      rcases opened_cases ka kb kc kd sn a sm r hb2.2.2.1 hb2.2.2.2.1 hb2.2.2.2.2.1 hb2.2.2.2.2.2 hb2.1 hb2.2.1 with ⟨k, hk, hR, hQ⟩ | ⟨p, q, g, h, x, y, ⟨a1, a2, a3, a4, a5, a6⟩, rfl, rfl, rfl, rfl, rfl, rfl, rfl, rfl, h0⟩
      · exact wits_walk ka kb kc kd sn a sm r V ao n c w hs hb hn hn12 hV (fun _ => []) (fun _ => k) [] [] k k (fun _ => by simp) (by simp) (by simp) (by simp) (by simp)
          (fun v _ w => wpost_nil rfl rfl (notwit_err ka kb kc kd sn a sm r v k w hk hR)) (fun v _ w => wpost_nil rfl rfl (rnotwit_err ka kb kc kd sn a sm r v k w hk hQ))
          (fun w _ => mem_err ka kb kc kd sn a sm r ao n c k w hk hR) (fun w _ => rmem_err ka kb kc kd sn a sm r ao n c k w hk hQ)
          (fun w _ => out_err ka kb kc kd sn a sm r ao n c k w hk hR) (fun w _ => rout_err ka kb kc kd sn a sm r ao n c k w hk hQ)
      · have H1 := fun v (hv : v ∈ V) w => notwit_c p q g h x y v w a1 a2 a3 a4 a5 a6 h0 (hvr v hv).1 (hvr v hv).2
        have H2 := fun v (hv : v ∈ V) w => rnotwit_c p q g h x y v w a1 a2 a3 a4 a5 a6 h0 (hvr v hv).1 (hvr v hv).2
        by_cases hz : n = 0
        · subst hz
          exact wits_walk (E p) (E q) (E g) (E h) false (E x) false (E y) V ao 0 c w hs hb hn hn12 hV (witL q x y) (witE q x) [] [] 6 6 (witL_len q x y) (by simp) (by simp) (by simp) (by simp) H1 H2
            (fun w _ => mem_zero p q g h x y ao c w a1 a2 a3 a4 a5 a6 h0) (fun w _ => rmem_zero p q g h x y ao c w a1 a2 a3 a4 a5 a6 h0)
            (fun w _ => out_zero p q g h x y ao c w a1 a2 a3 a4 a5 a6 h0) (fun w _ => rout_zero p q g h x y ao c w a1 a2 a3 a4 a5 a6 h0)
        · have hp : 0 < n := Nat.pos_of_ne_zero hz
          have hvl : V.length ≤ 12 := by omega
          exact wits_walk (E p) (E q) (E g) (E h) false (E x) false (E y) V ao n c w hs hb hn hn12 hV (witL q x y) (witE q x) (memL q x y V) (outL q x y V) (memE q x V) (outE q x V)
            (witL_len q x y) (memL_len q x y V hvl) (memL_each q x y V) (outL_len q x y V hvl) (outL_each q x y V) H1 H2
            (fun w hw => mem_c p q g h x y V ao n c w a1 a2 a3 a4 a5 a6 h0 hn hp (by omega) hw hvr) (fun w hw => rmem_c p q g h x y V ao n c w a1 a2 a3 a4 a5 a6 h0 hn hp (by omega) hw hvr)
            (fun w hw => out_c p q g h x y V ao n c w a1 a2 a3 a4 a5 a6 h0 hn hp (by omega) hw hvr) (fun w hw => rout_c p q g h x y V ao n c w a1 a2 a3 a4 a5 a6 h0 hn hp (by omega) hw hvr)

end Go.Proofs.YtecobjddpinonaaGreat
end

section
set_option linter.unusedVariables false
set_option linter.unusedSimpArgs false
set_option maxRecDepth 100000
namespace Go.Proofs.YtecobjddpinonaaGreat
open Go.RowKit Go.WideShapes Go.ChangeShapes Go.ChangeAt Go.Joins Go.Deep
open Go.ChangeMaps (open_string shut_string)

theorem laid_out : laidOutB Tryz.prog = true := by kernel_rfl

section
variable {H : Type} {enc : TypeId × Value → H} {w : World} {base : Nat} {spare : Nat → Bool} {held : Bool}
theorem size_open : Tryz.prog.cellsOf 47 = 4 := by kernel_rfl
theorem size_aint : Tryz.prog.cellsOf 45 = 2 := by kernel_rfl
theorem size_bool : Tryz.prog.cellsOf 4 = 1 := by kernel_rfl
theorem size_int : Tryz.prog.cellsOf 3 = 1 := by kernel_rfl

theorem open_opening {r : Reach} {b0 : Nat} {v : Value} {d : DataW H} {p : List MemPlace} (hv : Value.okWide Tryz.prog w r b0 47 v) (h : DataW.Trod enc Tryz.prog w base spare held 47 v d p) :
    ∃ (s : Bool) (a : ByteArray) (t : Bool) (b : ByteArray), v = .agg #[.bool s, .string a, .bool t, .string b] ∧ a.size ≤ maxLen ∧ b.size ≤ maxLen := by
  obtain ⟨cs, rfl, hsz⟩ := okWide_struct Tryz.underlying47 hv
  obtain ⟨c0, c1, c2, c3, rfl⟩ := array4 (hsz.trans size_open)
  obtain ⟨fuel, hf⟩ := h
  obtain ⟨y0, y1, n, hx, _, h0, h1⟩ := trod_struct2 Tryz.underlying47 hf
  obtain ⟨z0, z1, m, hz, _, g0, g1⟩ := trod_struct2 Tryz.underlying45 h0
  obtain ⟨u0, u1, m', hu, _, k0, k1⟩ := trod_struct2 Tryz.underlying45 h1
  obtain ⟨s, hs, _⟩ := DataW.trod_bool Tryz.underlying4 g0
  obtain ⟨a, ha, _, sa⟩ := DataW.trod_string Tryz.underlying22 g1
  obtain ⟨t, ht, _⟩ := DataW.trod_bool Tryz.underlying4 k0
  obtain ⟨b, hb, _, sb⟩ := DataW.trod_string Tryz.underlying22 k1
  simp [Value.cells, size_aint, size_nat, size_bool] at hs ha ht hb
  subst hs ha ht hb
  exact ⟨s, a, t, b, rfl, sa, sb⟩

/-- a slice of numbers as an argument -/
theorem open_nums {r : Reach} {b0 : Nat} {v : Value} {d : DataW H} {p : List MemPlace} (hv : Value.okWide Tryz.prog w r b0 48 v) (h : DataW.Trod enc Tryz.prog w base (fun _ => true) held 48 v d p) (hlt : ∀ x ∈ p, x.block < w.heap.size) :
    ∃ (ao : Option Addr) (n c : Nat) (V : List Int), v = .slice ao n c ∧ V.length = n ∧ NumsAt w ao V ∧ ∀ z ∈ V, -9223372036854775808 ≤ z ∧ z ≤ 9223372036854775807 := by
  obtain ⟨a0, len, cap, rfl⟩ := okWide_slice Tryz.underlying48 hv
  obtain ⟨fuel, hf⟩ := h
  rcases open_ints Tryz.underlying48 Tryz.underlying3 size_int hf with ⟨hcs, hx⟩ | ⟨a, len', cap', zs, hcs, _, hl, hm, hz, hx, hcell, hwz⟩
  · simp [Value.cells] at hcs
    obtain ⟨rfl, rfl, rfl⟩ := hcs
    exact ⟨_, _, _, [], rfl, rfl, .inl rfl, by simp⟩
  · simp [Value.cells] at hcs
    obtain ⟨rfl, rfl, rfl⟩ := hcs
    simp only [Prod.mk.injEq] at hx
    obtain ⟨rfl, rfl⟩ := hx
    simp only [if_true] at hz
    refine ⟨_, _, _, zs.take len, rfl, by simp; omega, ?_, fun z hz' => by simpa [Lit.wf, IntKind.min, IntKind.max, IntKind.signed, IntKind.bits] using hwz z (List.mem_of_mem_take hz')⟩
    by_cases hl0 : len = 0
    · exact .inl (by simp [hl0])
    · obtain ⟨b, off, spot⟩ := a
      have hspot : spot = none := by simpa [Addr.add] using World.cell?_spot (hcell 0 (by omega))
      subst hspot
      have h0 := hcell 0 (by omega)
      rw [add_plain] at h0
      refine .inr ⟨b, off, rfl, ?_, fun j hj => ?_⟩
      · apply Classical.byContradiction
        intro hge
        have hnone : w.heap[b]? = none := by simpa using hge
        simp [World.cell?, hnone] at h0
      · have hjl : j < zs.length := by simp at hj; omega
        have := hcell j hjl
        rw [add_plain] at this
        rw [this]
        simp [List.getD, List.getElem?_eq_getElem hjl]

end

theorem wits_lifted (os : Os) (started : os.Started) (H : Type) (enc : TypeId × Value → H) :
    ReturnsInHanded {} Tryz.checked os 5 .any (Rows.setproofWitnessesSpec.pre6 enc Tryz.prog Tryz.f5 Rows.setproofWitnessesRow.domain false) (Rows.setproofWitnessesSpec.post enc Tryz.prog Tryz.f5 false true false false) := by
  refine returnsInHanded_of_change (C := Tryz.checked) own_knob started (by kernel_rfl) Tryz.func5
    (ChangeSpec.witness6 (enc := enc) (C := Tryz.checked) false ⟨#[], #[.agg #[.string ⟨#[]⟩, .string ⟨#[]⟩, .string ⟨#[]⟩, .string ⟨#[]⟩], .agg #[.bool false, .string ⟨#[]⟩, .bool false, .string ⟨#[]⟩], .slice none 0 0], []⟩ 8 (by kernel_rfl) (by kernel_rfl) (by kernel_rfl) (by kernel_rfl)) ?_
  intro W base args ds gs before hval0 hW _ _
  have hval : ∀ (j : Nat) t v, Tryz.f5.params[j]? = some t → args[j]? = some v → Value.okWide Tryz.prog W .any base t v := hval0
  have hW' := hW
  obtain ⟨p, q, hA0, hV, rfl, _, _⟩ := hW
  have hA : DataW.TrodAll enc Tryz.prog W 0 (fun _ => true) true Tryz.f5.params.toList args.toList ds p := hA0
  rw [Tryz.params5] at hA hval
  obtain ⟨v0, vs0, d0, ds0, p0, q0, hargs, rfl, rfl, h0, r0⟩ := trodAll_cons hA
  obtain ⟨v1, vs1, d1, ds1, p1, q1, rfl, rfl, rfl, h1, r1⟩ := trodAll_cons r0
  obtain ⟨v2, vs2, d2, ds2, p2, q2, rfl, rfl, rfl, h2, r2⟩ := trodAll_cons r1
  obtain ⟨rfl, rfl, rfl⟩ := trodAll_nil r2
  obtain rfl : args = #[v0, v1, v2] := by cases args; simp_all
  obtain ⟨rfl, rfl⟩ := trodVars_none hV
  simp only [List.append_nil] at hW'
  have hlt : ∀ x ∈ p0 ++ (p1 ++ p2), x.block < W.heap.size := fun x hx => hW'.lt x hx
  have k0 := h0
  have k1 := h1
  have k2 := h2
  obtain ⟨a, b, c, e, rfl, rfl, rfl, sa, sb, sc, se⟩ := open_ped (hval 0 26 v0 rfl rfl) h0
  obtain ⟨sn, x, sm, y, rfl, sx, sy⟩ := open_opening (hval 1 47 v1 rfl rfl) h1
  obtain ⟨ao, n, cp, V, rfl, hn, hN, hvr⟩ := open_nums (hval 2 48 v2 rfl rfl) h2 (fun z hz => hlt z (by simp [hz]))
  clear hA0 hval0 hA r0 r1 r2 h0 h1 h2
  have hsz : ∀ z ∈ [x, y] ++ [a, b, c, e], z.size ≤ 9223372036854775807 := by
    unfold maxLen at sa sb sc se sx sy
    intro z hz
    simp at hz
    rcases hz with rfl | rfl | rfl | rfl | rfl | rfl <;> omega
  refine (wits_c a b c e sn x sm y V ao n cp W hsz hn hN hvr).mono fun en W' hh => ?_
  obtain ⟨rfl, hb⟩ := hh
  have stay : ∀ {t : TypeId} (hr : Tryz.prog.readableRec t = true) (hrow : t < Tryz.prog.types.size) {v : Value} {d : DataW H} {ps : List MemPlace} (h : DataW.Trod enc Tryz.prog W 0 (fun _ => true) true t v d ps) (hl : ∀ z ∈ ps, z.block < W.heap.size) (sp : Nat → Bool) (hs : ∀ z ∈ ps, sp z.block = true), DataW.Trod enc Tryz.prog W' 0 sp true t v d ps :=
    fun hr hrow _ _ _ h hl sp hs => WideElems.Trod_stays laid_out hr hrow h (fun z hz => hb.same (hl z hz)) hs
  exact ⟨_, rfl, post_of_below (pa := [] ++ (p1 ++ (p2 ++ []))) (pv := []) hW' (fun _ _ _ => trodAll_cons_mk (shut_bool Tryz.underlying4 _) trodAll_mk0)
    (fun sp hs => trodAll_cons_mk (shut_ped sa sb sc se) (trodAll_cons_mk (stay (by kernel_rfl) (of_decide_eq_true (by kernel_rfl)) k1 (fun z hz => hlt z (by simp [hz])) sp (fun z hz => hs z (by simp [hz]))) (trodAll_cons_mk (stay (by kernel_rfl) (of_decide_eq_true (by kernel_rfl)) k2 (fun z hz => hlt z (by simp [hz])) sp (fun z hz => hs z (by simp [hz]))) trodAll_mk0))) (fun _ _ => rfl) (by simp) hb
    (ok_one (by kernel_rfl) rfl (okWide_bool_mk Tryz.underlying4 _))⟩

theorem witnesses_holds : Rows.SetproofWitnessesSaid :=
  OpenClaim.holds_of_wide 5 Tryz.f5 rfl rfl rfl rfl rfl rfl rfl ⟨rfl, rfl, rfl, rfl, rfl⟩ rfl rfl rfl rfl rfl (by kernel_rfl) Tryz.func5 (by kernel_rfl)
    (of_decide_eq_true (by kernel_rfl)) (by unfold Func.isWrapper; first | (rw [if_pos (by decide +kernel)]; kernel_rfl) | (rw [if_neg (by decide +kernel)]; exact ⟨rfl, rfl⟩))
    (fun os started H enc _ => wits_lifted os started H enc)

#print axioms witnesses_holds
end Go.Proofs.YtecobjddpinonaaGreat
end
