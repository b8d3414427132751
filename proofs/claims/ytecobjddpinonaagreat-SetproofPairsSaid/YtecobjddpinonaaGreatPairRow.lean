/- For every key and all pairs of commitments, dominolaw28.SetproofPairs returns true and its arguments read as they did: setproof.Same and setproof.Differ return the statements or the error of the reference. No condition. -/
import Derived.Test.YtecobjddpinonaaGreatRSet2
import Derived.Test.YtecobjddpinonaaGreatSet5
import Derived.Test.YtecobjddpinonaaGreatRSet4
import Derived.Test.YtecobjddpinonaaGreatVal1
section
set_option linter.unusedVariables false
set_option linter.unusedSimpArgs false
set_option maxRecDepth 100000
namespace Go.Proofs.YtecobjddpinonaaGreat
open Go.RowKit

theorem nats1 {w : World} {b c : Nat} {T : TypeId} (h : Blk w b T [.string (E c)]) : NatsAt w b [c] := NatsAt.of_blk (T := T) h
theorem ints1 {w : World} {b : Nat} {x : Int} {T : TypeId} (h : Blk w b T [.bool (sg x), .string (E x.natAbs)]) : IntsAt w b [x] := by
  refine ⟨h.lt, fun j hj => ?_⟩
  match j, hj with
  | 0, _ => exact ⟨h.cell 0, h.cell 1⟩

theorem pw1_eq {p x : Nat} (z : Int) (hx : x < p) : pw (prs p [x] [z]) 0 % p = powI x z p := by
  unfold powI prs bse
  simp only [List.zipWith_cons_cons, List.zipWith_nil_left, pw, Nat.pow_zero, Nat.div_one, Nat.mul_one]
  rw [Nat.mod_eq_of_lt hx]
  split <;> rfl

theorem product1_c (p q c : Nat) (z : Int) (bl bz : Nat) (w : World) (hp : p < 256 ^ 8) (hq : q < 256 ^ 128) (he : grpE p q = 0) (hc : hasB p q c = true) (hz : z.natAbs < 256 ^ 128)
    (hL : Blk w bl 22 [.string (E c)]) (hZ : Blk w bz 45 [.bool (sg z), .string (E z.natAbs)]) :
    Calls Tryz.prog 97 #[.agg #[.string (E p), .string (E q)], .slice (some ⟨bl, 0, none⟩) 1 1, .slice (some ⟨bz, 0, none⟩) 1 1] w fun e w' => e = .returned (.tuple #[.string (E (powI c z p)), .int .i64 0]) ∧ Below w.heap.size w w' := by
  rw [← pw1_eq z (has_lt hc)]
  exact product_c p q bl bz 1 1 1 [c] [z] w hp hq he rfl rfl (by omega) (by omega) (by omega) (by omega) (by omega)
    (by intro x hx; simp at hx; subst hx; assumption) (by intro y hy; simp at hy; subst hy; assumption) (nats1 hL) (ints1 hZ)

set_option maxHeartbeats 1600000 in
theorem pexp_c (p q x : Nat) (z : Int) (w : World) (hp : p < 256 ^ 8) (hq : q < 256 ^ 128) (he : grpE p q = 0) (hx : hasB p q x = true) (hz : z.natAbs < 256 ^ 128) :
    Calls Tryz.prog 73 #[.agg #[.string (E p), .string (E q)], .string (E x), .agg #[.bool (sg (z)), .string (E (z).natAbs)]] w fun e w' => e = .returned (.tuple #[.string (E (powI x z p)), .int .i64 0]) ∧ Below w.heap.size w w' := by
  have hL := blk4c w (.cells #[Value.string (E p), Value.string (E q)] 24) (.cells #[.bool (sg z), .string (E z.natAbs)] 45) (.cells #[.bool (sg z), .string (E z.natAbs)] 45) #[.string (E x)] 22
  have hZ := blk4d w (.cells #[Value.string (E p), Value.string (E q)] 24) (.cells #[.bool (sg z), .string (E z.natAbs)] 45) (.cells #[.string (E x)] 22) #[.bool (sg z), .string (E z.natAbs)] 45
  have HPR := Lib.hid (product1_c p q x z _ _ _ hp hq he hx hz hL hZ)
  clear hp hq he hx hz hL hZ
  generalize powI x z p = y at HPR
  go_enter Tryz.func73, Tryz.ntmps73
  go_wp2_with fail
  refine (HPR.out).mono ?_
  rintro e w1 ⟨rfl, hb1⟩
  go_wp2
  go_ret2
  exact ⟨rfl, bt (ba (b3 _ _ _ _) _) hb1⟩

set_option maxHeartbeats 1600000 in
theorem pmul_c (p q a b : Nat) (w : World) (hp : p < 256 ^ 8) (hq : q < 256 ^ 128) (he : grpE p q = 0) (ha : hasB p q a = true) (hb : hasB p q b = true) :
    Calls Tryz.prog 74 #[.agg #[.string (E p), .string (E q)], .string (E a), .string (E b)] w fun e w' => e = .returned (.tuple #[.string (E (a * b % p)), .int .i64 0]) ∧ Below w.heap.size w w' := by
  have hL := blk2b w #[Value.string (E p), Value.string (E q)] #[.string (E a), .string (E b)] 24 22
  have HC := Lib.hid (checked_c p q (w.heap.size + 1) 2 2 0 0 none [a, b] [] _ hp hq he rfl rfl (by omega) (by omega) (by omega) (by omega) (by omega) (by omega)
    (by intro x hx; simp at hx; rcases hx with rfl | rfl <;> assumption) (by intro y hy; cases hy) (nats2 hL) (.inl rfl))
  have hal := Nat.lt_trans (has_lt ha) hp
  have hbl := Nat.lt_trans (has_lt hb) hp
  have HM := Lib.hid (fun w => mmul_c a b p w hal hbl hp (by have := grp_gt he; omega))
  have hB := blk2a w #[Value.string (E p), Value.string (E q)] #[.string (E a), .string (E b)] 24 22
  clear hp hq he ha hb hL hal hbl
  generalize a * b % p = y at HM
  go_enter Tryz.func74, Tryz.ntmps74
  go_wp2_with fail
  refine (HC.out).mono ?_
  rintro e w1 ⟨rfl, hb1⟩
  replace hB := hB.after hb1
  have hBc0 := hB.cell 0
  have hBf0 := hB.free 0
  have hBc1 := hB.cell 1
  have hBf1 := hB.free 1
  go_wp2_with fail
  refine (HM.out _).mono ?_
  rintro e w2 ⟨rfl, hb2⟩
  go_wp2
  go_ret2
  exact ⟨rfl, bt (bt (b2 _ _ _) hb1) hb2⟩

theorem iofm_c (w : World) : Calls Tryz.prog 62 #[.int .i64 (-1)] w fun e w' => e = .returned (.agg #[.bool true, .string (E 1)]) ∧ Below w.heap.size w w' := iof_c (-1) w (by decide) (by decide)

theorem pexpm_c (p q x : Nat) (w : World) (hp : p < 256 ^ 8) (hq : q < 256 ^ 128) (he : grpE p q = 0) (hx : hasB p q x = true) :
    Calls Tryz.prog 73 #[.agg #[.string (E p), .string (E q)], .string (E x), .agg #[.bool true, .string (E 1)]] w fun e w' => e = .returned (.tuple #[.string (E (powI x (-1) p)), .int .i64 0]) ∧ Below w.heap.size w w' :=
  pexp_c p q x (-1) w hp hq he hx (by decide)

set_option maxHeartbeats 1600000 in
theorem quotient_c (p q g h a b : Nat) (w : World) (hp : p < 256 ^ 8) (hq : q < 256 ^ 128) (hq0 : 0 < q) (he : grpE p q = 0) (ha : hasB p q a = true) (hb : hasB p q b = true) :
    Calls Tryz.prog 40 #[.agg #[.string (E p), .string (E q), .string (E g), .string (E h)], .string (E a), .string (E b)] w fun e w' => e = .returned (.string (E (overN p a b 1))) ∧ Below w.heap.size w w' := by
  have HX := Lib.hid (fun w => pexpm_c p q b w hp hq he hb)
  have HM := Lib.hid (fun w => pmul_c p q a (powI b (-1) p) w hp hq he ha (has_powI (-1) (grp_gt he) hq0 hb))
  have HV : Hid (overN p a b 1 = a * powI b (-1) p % p) := rfl
  have hB := Blk.new w #[Value.string (E p), Value.string (E q), Value.string (E g), Value.string (E h)] 26
  clear hp hq hq0 he ha hb
  generalize powI b (-1) p = y at HX HM HV
  generalize a * y % p = x at HM HV
  have hBg0 := hB.gcell 0
  have hBg1 := hB.gcell 1
  have hBg2 := hB.gcell 2
  have hBg3 := hB.gcell 3
  go_enter Tryz.func40, Tryz.ntmps40
  go_wp2_with fail
  refine wp_region_gw (by kernel_rfl) (by kernel_rfl) ?_
  repeat (go_big_quiet_step (first | (go_at_call 62; exact gw_of (iofm_c _)) | (go_at_call 73; exact gw_of (HX.out _))))
  refine wpQuiet_nil ?_
  rintro w1 ⟨xw1, rfl⟩
  have hb1 := gw_below xw1
  generalize gw xw1 = w1 at hb1
  clear hBg0 hBg1 hBg2 hBg3
  replace hB := hB.after hb1
  have hBc0 := hB.cell 0
  have hBf0 := hB.free 0
  have hBc1 := hB.cell 1
  have hBf1 := hB.free 1
  have hBc2 := hB.cell 2
  have hBf2 := hB.free 2
  have hBc3 := hB.cell 3
  have hBf3 := hB.free 3
  go_wp2_with fail
  refine (HM.out _).mono ?_
  rintro e w2 ⟨rfl, hb2⟩
  go_wp2
  go_ret
  exact ⟨rE HV.out.symm, bt (bt (b1 _ _) hb1) hb2⟩

end Go.Proofs.YtecobjddpinonaaGreat
end

section
set_option linter.unusedVariables false
set_option linter.unusedSimpArgs false
set_option maxRecDepth 100000
namespace Go.Proofs.YtecobjddpinonaaGreat
open Go.RowKit

set_option maxHeartbeats 800000 in
theorem psame_err (ka kb kc kd c d : ByteArray) (k : Nat) (w : World) (hk : k ≠ 0)
    (hR : ∀ (w' : World) (b : Nat), Blk w' b 22 [.string c, .string d] → Calls Tryz.prog 33 #[.agg #[.string ka, .string kb, .string kc, .string kd], .slice (some ⟨b, 0, none⟩) 2 2] w' fun e w'' => e = .returned (.int .i64 k) ∧ Below w'.heap.size w' w'') :
    Calls Tryz.prog 14 #[.agg #[.string ka, .string kb, .string kc, .string kd], .string c, .string d] w fun e w' => e = .returned (.tuple #[.agg #[.slice none 0 0, .slice none 0 0, .slice none 0 0], .int .i64 k]) ∧ Below w.heap.size w w' := by
  have HR := Lib.hid hR
  have hr := blk3b w #[Value.string ka, Value.string kb, Value.string kc, Value.string kd] #[Value.slice none 0 0, Value.slice none 0 0, Value.slice none 0 0] #[Value.string c, Value.string d] 26 33 22
  have hs := blk3c w #[Value.string ka, Value.string kb, Value.string kc, Value.string kd] #[Value.slice none 0 0, Value.slice none 0 0, Value.slice none 0 0] #[Value.string c, Value.string d] 26 33 22
  have e1 : ((k : Int) == 0) = false := by rw [beq_eq_false_iff_ne]; omega
  have e2 : ((k : Int) != 0) = true := by rw [bne_iff_ne]; omega
  clear hR
  go_enter Tryz.func14, Tryz.ntmps14
  go_wp2_with fail
  refine (HR.out _ _ hs).mono ?_
  rintro e w1 ⟨rfl, hb1⟩
  replace hr := hr.after hb1
  have hrc0 := hr.cell 0
  have hrf0 := hr.free 0
  have hrc1 := hr.cell 1
  have hrf1 := hr.free 1
  have hrc2 := hr.cell 2
  have hrf2 := hr.free 2
  go_wp2
  refine bodyPost_ret (v := .tuple #[.agg #[.slice none 0 0, .slice none 0 0, .slice none 0 0], .int .i64 k]) ?_ rfl ⟨rfl, ?_⟩
  · simp [results, Tryz.results14, go_sem, hrc0, hrc1, hrc2]
  · exact (((bt (b3 _ _ _ _) hb1).setCell (by simp) _).setCell (by simp) _).setCell (by simp) _

set_option maxHeartbeats 800000 in
theorem differ_err (ka kb kc kd c d : ByteArray) (k : Nat) (w : World) (hk : k ≠ 0)
    (hR : ∀ (w' : World) (b : Nat), Blk w' b 22 [.string c, .string d] → Calls Tryz.prog 33 #[.agg #[.string ka, .string kb, .string kc, .string kd], .slice (some ⟨b, 0, none⟩) 2 2] w' fun e w'' => e = .returned (.int .i64 k) ∧ Below w'.heap.size w' w'') :
    Calls Tryz.prog 16 #[.agg #[.string ka, .string kb, .string kc, .string kd], .string c, .string d] w fun e w' => e = .returned (.tuple #[.agg #[.slice none 0 0, .slice none 0 0, .slice none 0 0], .int .i64 k]) ∧ Below w.heap.size w w' := by
  have HR := Lib.hid hR
  have hr := blk3b w #[Value.string ka, Value.string kb, Value.string kc, Value.string kd] #[Value.slice none 0 0, Value.slice none 0 0, Value.slice none 0 0] #[Value.string c, Value.string d] 26 33 22
  have hs := blk3c w #[Value.string ka, Value.string kb, Value.string kc, Value.string kd] #[Value.slice none 0 0, Value.slice none 0 0, Value.slice none 0 0] #[Value.string c, Value.string d] 26 33 22
  have e1 : ((k : Int) == 0) = false := by rw [beq_eq_false_iff_ne]; omega
  have e2 : ((k : Int) != 0) = true := by rw [bne_iff_ne]; omega
  clear hR
  go_enter Tryz.func16, Tryz.ntmps16
  go_wp2_with fail
  refine (HR.out _ _ hs).mono ?_
  rintro e w1 ⟨rfl, hb1⟩
  replace hr := hr.after hb1
  have hrc0 := hr.cell 0
  have hrf0 := hr.free 0
  have hrc1 := hr.cell 1
  have hrf1 := hr.free 1
  have hrc2 := hr.cell 2
  have hrf2 := hr.free 2
  go_wp2
  refine bodyPost_ret (v := .tuple #[.agg #[.slice none 0 0, .slice none 0 0, .slice none 0 0], .int .i64 k]) ?_ rfl ⟨rfl, ?_⟩
  · simp [results, Tryz.results16, go_sem, hrc0, hrc1, hrc2]
  · exact (((bt (b3 _ _ _ _) hb1).setCell (by simp) _).setCell (by simp) _).setCell (by simp) _

set_option maxHeartbeats 4000000 in
theorem psame_ok (p q g h c d : Nat) (w : World) (hp : p < 256 ^ 8) (hq : q < 256 ^ 128) (hgb : g < 256 ^ 128) (hhb : h < 256 ^ 128) (hcb : c < 256 ^ 128) (hdb : d < 256 ^ 128)
    (he : readyN p q g h [c, d] = 0) (hq0 : 0 < q) (hpe : grpE p q = 0) (hc : hasB p q c = true) (hd : hasB p q d = true) :
    Calls Tryz.prog 14 #[.agg #[.string (E p), .string (E q), .string (E g), .string (E h)], .string (E c), .string (E d)] w (ResPost w p q (overN p c d 1) [h]) := by
  have HR := Lib.hid (fun (w' : World) (b : Nat) (hs : Blk w' b 22 [.string (E c), .string (E d)]) => ready_num p q g h [c, d] (some ⟨b, 0, none⟩) 2 w' rfl (by omega) (by intro x hx; simp at hx; rcases hx with rfl | rfl <;> assumption) (strs2 hs) hp hq hgb hhb)
  rw [he] at HR
  have HSH := Lib.hid (fun w => quotient_c p q g h c d w hp hq hq0 hpe hc hd)
  generalize overN p c d 1 = x at HSH
  have HST := Lib.hid (fun (w' : World) (b : Nat) (hs : Blk w' b 22 [.string (E h)]) => statement_c p q g h x 1 [h] (some ⟨b, 0, none⟩) w' rfl (by omega) (by omega) (strs1 hs))
  have hB := blk3a w #[Value.string (E p), Value.string (E q), Value.string (E g), Value.string (E h)] #[Value.slice none 0 0, Value.slice none 0 0, Value.slice none 0 0] #[Value.string (E c), Value.string (E d)] 26 33 22
  have hr := blk3b w #[Value.string (E p), Value.string (E q), Value.string (E g), Value.string (E h)] #[Value.slice none 0 0, Value.slice none 0 0, Value.slice none 0 0] #[Value.string (E c), Value.string (E d)] 26 33 22
  have hs := blk3c w #[Value.string (E p), Value.string (E q), Value.string (E g), Value.string (E h)] #[Value.slice none 0 0, Value.slice none 0 0, Value.slice none 0 0] #[Value.string (E c), Value.string (E d)] 26 33 22
  have hBW := b3 w (.cells #[Value.string (E p), Value.string (E q), Value.string (E g), Value.string (E h)] 26) (.cells #[Value.slice none 0 0, Value.slice none 0 0, Value.slice none 0 0] 33) (.cells #[Value.string (E c), Value.string (E d)] 22)
  clear hp hq hgb hhb hcb hdb he hpe hc hd hq0
  go_enter Tryz.func14, Tryz.ntmps14
  go_wp2_with fail
  refine (HR.out _ _ hs).mono ?_
  rintro e w1 ⟨rfl, hb1⟩
  replace hB : Blk w1 w.heap.size 26 [Value.string (E p), Value.string (E q), Value.string (E g), Value.string (E h)] := hB.after hb1
  replace hr : Blk w1 (w.heap.size + 1) 33 [.slice none 0 0, .slice none 0 0, .slice none 0 0] := hr.after hb1
  replace hBW := bt hBW hb1
  clear hb1 hs HR
  have y1 : w.heap.size < w1.heap.size := hB.lt
  have y2 : w.heap.size + 1 < w1.heap.size := hr.lt
  have hBc0 := hB.cell 0
  have hBf0 := hB.free 0
  have hBc1 := hB.cell 1
  have hBf1 := hB.free 1
  have hBc2 := hB.cell 2
  have hBf2 := hB.free 2
  have hBc3 := hB.cell 3
  have hBf3 := hB.free 3
  go_wp2_with fail
  go_region_held3 (fun w' => w'.cell? ⟨w.heap.size, 0, none⟩ = some (.string (E p)) ∧ w'.cell? ⟨w.heap.size, 1, none⟩ = some (.string (E q)) ∧ w'.cell? ⟨w.heap.size, 2, none⟩ = some (.string (E g)) ∧ w'.cell? ⟨w.heap.size, 3, none⟩ = some (.string (E h))) ((refine keep4 (T := 26) ?_; repeat (first | (with_reducible exact hBd) | (with_reducible exact hBf) | (with_reducible exact hB) | (with_reducible refine Blk.drew ?_) | (with_reducible refine Blk.alloc ?_ _) | (with_reducible refine Blk.nextSet ?_))))
    (first | (go_at_call 40; refine (HSH.out _).mono ?_; rintro e wf ⟨rfl, hbf⟩; have hBf : Blk wf w.heap.size 26 [Value.string (E p), Value.string (E q), Value.string (E g), Value.string (E h)] := (by first | (with_reducible exact hB.drew.after hbf) | (with_reducible exact (hB.alloc _).drew.after hbf)); have hrf : Blk wf (w.heap.size + 1) 33 [.slice none 0 0, .slice none 0 0, .slice none 0 0] := (by first | (with_reducible exact hr.drew.after hbf) | (with_reducible exact (hr.alloc _).drew.after hbf)); have hBWf : Below w.heap.size w wf := (by first | (with_reducible exact bt hBW.drew hbf) | (with_reducible exact bt (ba hBW _).drew hbf)); have y3 : w.heap.size < wf.heap.size := hBf.lt; have y4 : w.heap.size + 1 < wf.heap.size := hrf.lt) | (go_at_call 34; refine (HST.out _ _ (by first | (with_reducible exact ((Blk.new w1 _ _).drew.after hbf)) | (with_reducible exact Blk.new _ _ _))).mono ?_; rintro e wd ⟨g1, g2, g3, g4, c1, c2, c3, c4, rfl, hstm, ⟨k1, k2, k3, k4⟩, hbd⟩; have hBd : Blk wd w.heap.size 26 [Value.string (E p), Value.string (E q), Value.string (E g), Value.string (E h)] := (by first | (with_reducible exact hBf.after hbd) | (with_reducible exact (hBf.alloc _).after hbd)); have hrd : Blk wd (w.heap.size + 1) 33 [.slice none 0 0, .slice none 0 0, .slice none 0 0] := (by first | (with_reducible exact hrf.after hbd) | (with_reducible exact (hrf.alloc _).after hbd)); have hBWd : Below w.heap.size w wd := (by first | (with_reducible exact bt hBWf hbd) | (with_reducible exact bt (ba hBWf _) hbd)); have r0 := hrd.cell 0; have r1 := hrd.cell 1; have r2 := hrd.cell 2; have q0 := hrd.free 0; have q1 := hrd.free 1; have q2 := hrd.free 2))
  all_goals go_wp2
  all_goals
    have z1 : w.heap.size + 1 < g1 := (by first | omega | (simp only [World.size_alloc] at k1; omega))
    have z2 : w.heap.size + 1 < g2 := (by first | omega | (simp only [World.size_alloc] at k2; omega))
    have z3 : w.heap.size + 1 < g3 := (by first | omega | (simp only [World.size_alloc] at k3; omega))
    have z4 : w.heap.size + 1 < g4 := (by first | omega | (simp only [World.size_alloc] at k4; omega))
    refine bodyPost_ret (v := .tuple #[.agg #[.slice (some ⟨g1, 0, none⟩) 1 c1, .slice (some ⟨g2, 0, none⟩) 1 c2, .slice (some ⟨g3, 0, none⟩) 1 c3], .int .i64 0]) ?_ rfl ⟨g1, g2, g3, g4, c1, c2, c3, c4, rfl, ?_, ?_⟩
    · simp [results, Tryz.results14, go_sem, r0, r1, r2]
    · exact ((hstm.set (by omega) (by omega) (by omega) (by omega)).set (by omega) (by omega) (by omega) (by omega)).set (by omega) (by omega) (by omega) (by omega)
    · exact ((hBWd.setCell (by simp) _).setCell (by simp) _).setCell (by simp) _

set_option maxHeartbeats 4000000 in
theorem differ_ok (p q g h c d : Nat) (w : World) (hp : p < 256 ^ 8) (hq : q < 256 ^ 128) (hgb : g < 256 ^ 128) (hhb : h < 256 ^ 128) (hcb : c < 256 ^ 128) (hdb : d < 256 ^ 128)
    (he : readyN p q g h [c, d] = 0) (hq0 : 0 < q) (hpe : grpE p q = 0) (hc : hasB p q c = true) (hd : hasB p q d = true) :
    Calls Tryz.prog 16 #[.agg #[.string (E p), .string (E q), .string (E g), .string (E h)], .string (E c), .string (E d)] w (ResPost w p q g [overN p c d 1, h]) := by
  have HR := Lib.hid (fun (w' : World) (b : Nat) (hs : Blk w' b 22 [.string (E c), .string (E d)]) => ready_num p q g h [c, d] (some ⟨b, 0, none⟩) 2 w' rfl (by omega) (by intro x hx; simp at hx; rcases hx with rfl | rfl <;> assumption) (strs2 hs) hp hq hgb hhb)
  rw [he] at HR
  have HSH := Lib.hid (fun w => quotient_c p q g h c d w hp hq hq0 hpe hc hd)
  generalize overN p c d 1 = x at HSH
  have HST := Lib.hid (fun (w' : World) (b : Nat) (hs : Blk w' b 22 [.string (E x), .string (E h)]) => statement_c p q g h g 2 [x, h] (some ⟨b, 0, none⟩) w' rfl (by omega) (by omega) (strs2 hs))
  have hB := blk3a w #[Value.string (E p), Value.string (E q), Value.string (E g), Value.string (E h)] #[Value.slice none 0 0, Value.slice none 0 0, Value.slice none 0 0] #[Value.string (E c), Value.string (E d)] 26 33 22
  have hr := blk3b w #[Value.string (E p), Value.string (E q), Value.string (E g), Value.string (E h)] #[Value.slice none 0 0, Value.slice none 0 0, Value.slice none 0 0] #[Value.string (E c), Value.string (E d)] 26 33 22
  have hs := blk3c w #[Value.string (E p), Value.string (E q), Value.string (E g), Value.string (E h)] #[Value.slice none 0 0, Value.slice none 0 0, Value.slice none 0 0] #[Value.string (E c), Value.string (E d)] 26 33 22
  have hBW := b3 w (.cells #[Value.string (E p), Value.string (E q), Value.string (E g), Value.string (E h)] 26) (.cells #[Value.slice none 0 0, Value.slice none 0 0, Value.slice none 0 0] 33) (.cells #[Value.string (E c), Value.string (E d)] 22)
  clear hp hq hgb hhb hcb hdb he hpe hc hd hq0
  go_enter Tryz.func16, Tryz.ntmps16
  go_wp2_with fail
  refine (HR.out _ _ hs).mono ?_
  rintro e w1 ⟨rfl, hb1⟩
  replace hB : Blk w1 w.heap.size 26 [Value.string (E p), Value.string (E q), Value.string (E g), Value.string (E h)] := hB.after hb1
  replace hr : Blk w1 (w.heap.size + 1) 33 [.slice none 0 0, .slice none 0 0, .slice none 0 0] := hr.after hb1
  replace hBW := bt hBW hb1
  clear hb1 hs HR
  have y1 : w.heap.size < w1.heap.size := hB.lt
  have y2 : w.heap.size + 1 < w1.heap.size := hr.lt
  have hBc0 := hB.cell 0
  have hBf0 := hB.free 0
  have hBc1 := hB.cell 1
  have hBf1 := hB.free 1
  have hBc2 := hB.cell 2
  have hBf2 := hB.free 2
  have hBc3 := hB.cell 3
  have hBf3 := hB.free 3
  go_wp2_with fail
  go_region_held3 (fun w' => w'.cell? ⟨w.heap.size, 0, none⟩ = some (.string (E p)) ∧ w'.cell? ⟨w.heap.size, 1, none⟩ = some (.string (E q)) ∧ w'.cell? ⟨w.heap.size, 2, none⟩ = some (.string (E g)) ∧ w'.cell? ⟨w.heap.size, 3, none⟩ = some (.string (E h))) ((refine keep4 (T := 26) ?_; repeat (first | (with_reducible exact hBd) | (with_reducible exact hBf) | (with_reducible exact hB) | (with_reducible refine Blk.drew ?_) | (with_reducible refine Blk.alloc ?_ _) | (with_reducible refine Blk.nextSet ?_))))
    (first | (go_at_call 40; refine (HSH.out _).mono ?_; rintro e wf ⟨rfl, hbf⟩; have hBf : Blk wf w.heap.size 26 [Value.string (E p), Value.string (E q), Value.string (E g), Value.string (E h)] := (by first | (with_reducible exact hB.drew.after hbf) | (with_reducible exact (hB.alloc _).drew.after hbf)); have hrf : Blk wf (w.heap.size + 1) 33 [.slice none 0 0, .slice none 0 0, .slice none 0 0] := (by first | (with_reducible exact hr.drew.after hbf) | (with_reducible exact (hr.alloc _).drew.after hbf)); have hBWf : Below w.heap.size w wf := (by first | (with_reducible exact bt hBW.drew hbf) | (with_reducible exact bt (ba hBW _).drew hbf)); have y3 : w.heap.size < wf.heap.size := hBf.lt; have y4 : w.heap.size + 1 < wf.heap.size := hrf.lt) | (go_at_call 34; refine (HST.out _ _ (by first | (with_reducible exact ((Blk.new w1 _ _).drew.after hbf)) | (with_reducible exact Blk.new _ _ _))).mono ?_; rintro e wd ⟨g1, g2, g3, g4, c1, c2, c3, c4, rfl, hstm, ⟨k1, k2, k3, k4⟩, hbd⟩; have hBd : Blk wd w.heap.size 26 [Value.string (E p), Value.string (E q), Value.string (E g), Value.string (E h)] := (by first | (with_reducible exact hBf.after hbd) | (with_reducible exact (hBf.alloc _).after hbd)); have hrd : Blk wd (w.heap.size + 1) 33 [.slice none 0 0, .slice none 0 0, .slice none 0 0] := (by first | (with_reducible exact hrf.after hbd) | (with_reducible exact (hrf.alloc _).after hbd)); have hBWd : Below w.heap.size w wd := (by first | (with_reducible exact bt hBWf hbd) | (with_reducible exact bt (ba hBWf _) hbd)); have r0 := hrd.cell 0; have r1 := hrd.cell 1; have r2 := hrd.cell 2; have q0 := hrd.free 0; have q1 := hrd.free 1; have q2 := hrd.free 2))
  all_goals go_wp2
  all_goals
    have z1 : w.heap.size + 1 < g1 := (by first | omega | (simp only [World.size_alloc] at k1; omega))
    have z2 : w.heap.size + 1 < g2 := (by first | omega | (simp only [World.size_alloc] at k2; omega))
    have z3 : w.heap.size + 1 < g3 := (by first | omega | (simp only [World.size_alloc] at k3; omega))
    have z4 : w.heap.size + 1 < g4 := (by first | omega | (simp only [World.size_alloc] at k4; omega))
    refine bodyPost_ret (v := .tuple #[.agg #[.slice (some ⟨g1, 0, none⟩) 1 c1, .slice (some ⟨g2, 0, none⟩) 2 c2, .slice (some ⟨g3, 0, none⟩) 1 c3], .int .i64 0]) ?_ rfl ⟨g1, g2, g3, g4, c1, c2, c3, c4, rfl, ?_, ?_⟩
    · simp [results, Tryz.results16, go_sem, r0, r1, r2]
    · exact ((hstm.set (by omega) (by omega) (by omega) (by omega)).set (by omega) (by omega) (by omega) (by omega)).set (by omega) (by omega) (by omega) (by omega)
    · exact ((hBWd.setCell (by simp) _).setCell (by simp) _).setCell (by simp) _

end Go.Proofs.YtecobjddpinonaaGreat
end

section
set_option linter.unusedVariables false
set_option linter.unusedSimpArgs false
set_option maxRecDepth 100000
namespace Go.Proofs.YtecobjddpinonaaGreat
open Go.RowKit

set_option maxHeartbeats 800000 in
theorem rpsame_err (ka kb kc kd c d : ByteArray) (k : Nat) (w : World) (hk : k ≠ 0)
    (hR : ∀ (w' : World) (b : Nat), Blk w' b 22 [.string c, .string d] → Calls Tryz.prog 36 #[.agg #[.string ka, .string kb, .string kc, .string kd], .slice (some ⟨b, 0, none⟩) 2 2] w' fun e w'' => e = .returned (.int .i64 k) ∧ Below w'.heap.size w' w'') :
    Calls Tryz.prog 15 #[.agg #[.string ka, .string kb, .string kc, .string kd], .string c, .string d] w fun e w' => e = .returned (.tuple #[.agg #[.slice none 0 0, .slice none 0 0, .slice none 0 0], .int .i64 k]) ∧ Below w.heap.size w w' := by
  have HR := Lib.hid hR
  have hr := blk3b w #[Value.string ka, Value.string kb, Value.string kc, Value.string kd] #[Value.slice none 0 0, Value.slice none 0 0, Value.slice none 0 0] #[Value.string c, Value.string d] 26 33 22
  have hs := blk3c w #[Value.string ka, Value.string kb, Value.string kc, Value.string kd] #[Value.slice none 0 0, Value.slice none 0 0, Value.slice none 0 0] #[Value.string c, Value.string d] 26 33 22
  have e1 : ((k : Int) == 0) = false := by rw [beq_eq_false_iff_ne]; omega
  have e2 : ((k : Int) != 0) = true := by rw [bne_iff_ne]; omega
  clear hR
  go_enter Tryz.func15, Tryz.ntmps15
  go_wp2_with fail
  refine (HR.out _ _ hs).mono ?_
  rintro e w1 ⟨rfl, hb1⟩
  replace hr := hr.after hb1
  have hrc0 := hr.cell 0
  have hrf0 := hr.free 0
  have hrc1 := hr.cell 1
  have hrf1 := hr.free 1
  have hrc2 := hr.cell 2
  have hrf2 := hr.free 2
  go_wp2
  refine bodyPost_ret (v := .tuple #[.agg #[.slice none 0 0, .slice none 0 0, .slice none 0 0], .int .i64 k]) ?_ rfl ⟨rfl, ?_⟩
  · simp [results, Tryz.results15, go_sem, hrc0, hrc1, hrc2]
  · exact (((bt (b3 _ _ _ _) hb1).setCell (by simp) _).setCell (by simp) _).setCell (by simp) _

set_option maxHeartbeats 800000 in
theorem rdiffer_err (ka kb kc kd c d : ByteArray) (k : Nat) (w : World) (hk : k ≠ 0)
    (hR : ∀ (w' : World) (b : Nat), Blk w' b 22 [.string c, .string d] → Calls Tryz.prog 36 #[.agg #[.string ka, .string kb, .string kc, .string kd], .slice (some ⟨b, 0, none⟩) 2 2] w' fun e w'' => e = .returned (.int .i64 k) ∧ Below w'.heap.size w' w'') :
    Calls Tryz.prog 17 #[.agg #[.string ka, .string kb, .string kc, .string kd], .string c, .string d] w fun e w' => e = .returned (.tuple #[.agg #[.slice none 0 0, .slice none 0 0, .slice none 0 0], .int .i64 k]) ∧ Below w.heap.size w w' := by
  have HR := Lib.hid hR
  have hr := blk3b w #[Value.string ka, Value.string kb, Value.string kc, Value.string kd] #[Value.slice none 0 0, Value.slice none 0 0, Value.slice none 0 0] #[Value.string c, Value.string d] 26 33 22
  have hs := blk3c w #[Value.string ka, Value.string kb, Value.string kc, Value.string kd] #[Value.slice none 0 0, Value.slice none 0 0, Value.slice none 0 0] #[Value.string c, Value.string d] 26 33 22
  have e1 : ((k : Int) == 0) = false := by rw [beq_eq_false_iff_ne]; omega
  have e2 : ((k : Int) != 0) = true := by rw [bne_iff_ne]; omega
  clear hR
  go_enter Tryz.func17, Tryz.ntmps17
  go_wp2_with fail
  refine (HR.out _ _ hs).mono ?_
  rintro e w1 ⟨rfl, hb1⟩
  replace hr := hr.after hb1
  have hrc0 := hr.cell 0
  have hrf0 := hr.free 0
  have hrc1 := hr.cell 1
  have hrf1 := hr.free 1
  have hrc2 := hr.cell 2
  have hrf2 := hr.free 2
  go_wp2
  refine bodyPost_ret (v := .tuple #[.agg #[.slice none 0 0, .slice none 0 0, .slice none 0 0], .int .i64 k]) ?_ rfl ⟨rfl, ?_⟩
  · simp [results, Tryz.results17, go_sem, hrc0, hrc1, hrc2]
  · exact (((bt (b3 _ _ _ _) hb1).setCell (by simp) _).setCell (by simp) _).setCell (by simp) _

set_option maxHeartbeats 4000000 in
theorem rpsame_ok (p q g h c d : Nat) (w : World) (hp : p < 256 ^ 8) (hq : q < 256 ^ 128) (hgb : g < 256 ^ 128) (hhb : h < 256 ^ 128) (hcb : c < 256 ^ 128) (hdb : d < 256 ^ 128)
    (he : readyN p q g h [c, d] = 0) (hq0 : 0 < q) (hpe : grpE p q = 0) (hc : hasB p q c = true) (hd : hasB p q d = true) :
    Calls Tryz.prog 15 #[.agg #[.string (E p), .string (E q), .string (E g), .string (E h)], .string (E c), .string (E d)] w (ResPost w p q (overN p c d 1) [h]) := by
  have HR := Lib.hid (fun (w' : World) (b : Nat) (hs : Blk w' b 22 [.string (E c), .string (E d)]) => rready_num p q g h [c, d] (some ⟨b, 0, none⟩) 2 w' rfl (by omega) (by intro x hx; simp at hx; rcases hx with rfl | rfl <;> assumption) (strs2 hs) hp hq hgb hhb)
  rw [he] at HR
  have HSH := Lib.hid (fun w => rover28_c p q g h c d 1 w hp hq hq0 (by decide) (by decide) hpe hc hd)
  generalize overN p c d 1 = x at HSH
  have HST := Lib.hid (fun (w' : World) => requal_c p q g h x w')
  have hB := blk3a w #[Value.string (E p), Value.string (E q), Value.string (E g), Value.string (E h)] #[Value.slice none 0 0, Value.slice none 0 0, Value.slice none 0 0] #[Value.string (E c), Value.string (E d)] 26 33 22
  have hr := blk3b w #[Value.string (E p), Value.string (E q), Value.string (E g), Value.string (E h)] #[Value.slice none 0 0, Value.slice none 0 0, Value.slice none 0 0] #[Value.string (E c), Value.string (E d)] 26 33 22
  have hs := blk3c w #[Value.string (E p), Value.string (E q), Value.string (E g), Value.string (E h)] #[Value.slice none 0 0, Value.slice none 0 0, Value.slice none 0 0] #[Value.string (E c), Value.string (E d)] 26 33 22
  have hBW := b3 w (.cells #[Value.string (E p), Value.string (E q), Value.string (E g), Value.string (E h)] 26) (.cells #[Value.slice none 0 0, Value.slice none 0 0, Value.slice none 0 0] 33) (.cells #[Value.string (E c), Value.string (E d)] 22)
  clear hp hq hgb hhb hcb hdb he hpe hc hd hq0
  go_enter Tryz.func15, Tryz.ntmps15
  go_wp2_with fail
  refine (HR.out _ _ hs).mono ?_
  rintro e w1 ⟨rfl, hb1⟩
  replace hB : Blk w1 w.heap.size 26 [Value.string (E p), Value.string (E q), Value.string (E g), Value.string (E h)] := hB.after hb1
  replace hr : Blk w1 (w.heap.size + 1) 33 [.slice none 0 0, .slice none 0 0, .slice none 0 0] := hr.after hb1
  replace hBW := bt hBW hb1
  clear hb1 hs HR
  have y1 : w.heap.size < w1.heap.size := hB.lt
  have y2 : w.heap.size + 1 < w1.heap.size := hr.lt
  have hBc0 := hB.cell 0
  have hBf0 := hB.free 0
  have hBc1 := hB.cell 1
  have hBf1 := hB.free 1
  have hBc2 := hB.cell 2
  have hBf2 := hB.free 2
  have hBc3 := hB.cell 3
  have hBf3 := hB.free 3
  go_wp2_with fail
  go_region_held3 (fun w' => w'.cell? ⟨w.heap.size, 0, none⟩ = some (.string (E p)) ∧ w'.cell? ⟨w.heap.size, 1, none⟩ = some (.string (E q)) ∧ w'.cell? ⟨w.heap.size, 2, none⟩ = some (.string (E g)) ∧ w'.cell? ⟨w.heap.size, 3, none⟩ = some (.string (E h))) ((refine keep4 (T := 26) ?_; repeat (first | (with_reducible exact hBd) | (with_reducible exact hBf) | (with_reducible exact hB) | (with_reducible refine Blk.drew ?_) | (with_reducible refine Blk.alloc ?_ _) | (with_reducible refine Blk.nextSet ?_))))
    (first | (go_at_call 38; refine (HSH.out _).mono ?_; rintro e wf ⟨rfl, hbf⟩; have hBf : Blk wf w.heap.size 26 [Value.string (E p), Value.string (E q), Value.string (E g), Value.string (E h)] := (by first | (with_reducible exact hB.drew.after hbf) | (with_reducible exact (hB.alloc _).drew.after hbf)); have hrf : Blk wf (w.heap.size + 1) 33 [.slice none 0 0, .slice none 0 0, .slice none 0 0] := (by first | (with_reducible exact hr.drew.after hbf) | (with_reducible exact (hr.alloc _).drew.after hbf)); have hBWf : Below w.heap.size w wf := (by first | (with_reducible exact bt hBW.drew hbf) | (with_reducible exact bt (ba hBW _).drew hbf)); have y3 : w.heap.size < wf.heap.size := hBf.lt; have y4 : w.heap.size + 1 < wf.heap.size := hrf.lt) | (go_at_call 37; refine (HST.out _).mono ?_; rintro e wd ⟨g1, g2, g3, g4, c1, c2, c3, c4, rfl, hstm, ⟨k1, k2, k3, k4⟩, hbd⟩; have hBd : Blk wd w.heap.size 26 [Value.string (E p), Value.string (E q), Value.string (E g), Value.string (E h)] := (by first | (with_reducible exact hBf.after hbd) | (with_reducible exact (hBf.alloc _).after hbd)); have hrd : Blk wd (w.heap.size + 1) 33 [.slice none 0 0, .slice none 0 0, .slice none 0 0] := (by first | (with_reducible exact hrf.after hbd) | (with_reducible exact (hrf.alloc _).after hbd)); have hBWd : Below w.heap.size w wd := (by first | (with_reducible exact bt hBWf hbd) | (with_reducible exact bt (ba hBWf _) hbd)); have r0 := hrd.cell 0; have r1 := hrd.cell 1; have r2 := hrd.cell 2; have q0 := hrd.free 0; have q1 := hrd.free 1; have q2 := hrd.free 2))
  all_goals go_wp2
  all_goals
    have z1 : w.heap.size + 1 < g1 := (by first | omega | (simp only [World.size_alloc] at k1; omega))
    have z2 : w.heap.size + 1 < g2 := (by first | omega | (simp only [World.size_alloc] at k2; omega))
    have z3 : w.heap.size + 1 < g3 := (by first | omega | (simp only [World.size_alloc] at k3; omega))
    have z4 : w.heap.size + 1 < g4 := (by first | omega | (simp only [World.size_alloc] at k4; omega))
    refine bodyPost_ret (v := .tuple #[.agg #[.slice (some ⟨g1, 0, none⟩) 1 c1, .slice (some ⟨g2, 0, none⟩) 1 c2, .slice (some ⟨g3, 0, none⟩) 1 c3], .int .i64 0]) ?_ rfl ⟨g1, g2, g3, g4, c1, c2, c3, c4, rfl, ?_, ?_⟩
    · simp [results, Tryz.results15, go_sem, r0, r1, r2]
    · exact ((hstm.set (by omega) (by omega) (by omega) (by omega)).set (by omega) (by omega) (by omega) (by omega)).set (by omega) (by omega) (by omega) (by omega)
    · exact ((hBWd.setCell (by simp) _).setCell (by simp) _).setCell (by simp) _

set_option maxHeartbeats 4000000 in
theorem rdiffer_ok (p q g h c d : Nat) (w : World) (hp : p < 256 ^ 8) (hq : q < 256 ^ 128) (hgb : g < 256 ^ 128) (hhb : h < 256 ^ 128) (hcb : c < 256 ^ 128) (hdb : d < 256 ^ 128)
    (he : readyN p q g h [c, d] = 0) (hq0 : 0 < q) (hpe : grpE p q = 0) (hc : hasB p q c = true) (hd : hasB p q d = true) :
    Calls Tryz.prog 17 #[.agg #[.string (E p), .string (E q), .string (E g), .string (E h)], .string (E c), .string (E d)] w (ResPost w p q g [overN p c d 1, h]) := by
  have HR := Lib.hid (fun (w' : World) (b : Nat) (hs : Blk w' b 22 [.string (E c), .string (E d)]) => rready_num p q g h [c, d] (some ⟨b, 0, none⟩) 2 w' rfl (by omega) (by intro x hx; simp at hx; rcases hx with rfl | rfl <;> assumption) (strs2 hs) hp hq hgb hhb)
  rw [he] at HR
  have HSH := Lib.hid (fun w => rover28_c p q g h c d 1 w hp hq hq0 (by decide) (by decide) hpe hc hd)
  generalize overN p c d 1 = x at HSH
  have HST := Lib.hid (fun (w' : World) => rnot_c p q g h x w')
  have hB := blk3a w #[Value.string (E p), Value.string (E q), Value.string (E g), Value.string (E h)] #[Value.slice none 0 0, Value.slice none 0 0, Value.slice none 0 0] #[Value.string (E c), Value.string (E d)] 26 33 22
  have hr := blk3b w #[Value.string (E p), Value.string (E q), Value.string (E g), Value.string (E h)] #[Value.slice none 0 0, Value.slice none 0 0, Value.slice none 0 0] #[Value.string (E c), Value.string (E d)] 26 33 22
  have hs := blk3c w #[Value.string (E p), Value.string (E q), Value.string (E g), Value.string (E h)] #[Value.slice none 0 0, Value.slice none 0 0, Value.slice none 0 0] #[Value.string (E c), Value.string (E d)] 26 33 22
  have hBW := b3 w (.cells #[Value.string (E p), Value.string (E q), Value.string (E g), Value.string (E h)] 26) (.cells #[Value.slice none 0 0, Value.slice none 0 0, Value.slice none 0 0] 33) (.cells #[Value.string (E c), Value.string (E d)] 22)
  clear hp hq hgb hhb hcb hdb he hpe hc hd hq0
  go_enter Tryz.func17, Tryz.ntmps17
  go_wp2_with fail
  refine (HR.out _ _ hs).mono ?_
  rintro e w1 ⟨rfl, hb1⟩
  replace hB : Blk w1 w.heap.size 26 [Value.string (E p), Value.string (E q), Value.string (E g), Value.string (E h)] := hB.after hb1
  replace hr : Blk w1 (w.heap.size + 1) 33 [.slice none 0 0, .slice none 0 0, .slice none 0 0] := hr.after hb1
  replace hBW := bt hBW hb1
  clear hb1 hs HR
  have y1 : w.heap.size < w1.heap.size := hB.lt
  have y2 : w.heap.size + 1 < w1.heap.size := hr.lt
  have hBc0 := hB.cell 0
  have hBf0 := hB.free 0
  have hBc1 := hB.cell 1
  have hBf1 := hB.free 1
  have hBc2 := hB.cell 2
  have hBf2 := hB.free 2
  have hBc3 := hB.cell 3
  have hBf3 := hB.free 3
  go_wp2_with fail
  go_region_held3 (fun w' => w'.cell? ⟨w.heap.size, 0, none⟩ = some (.string (E p)) ∧ w'.cell? ⟨w.heap.size, 1, none⟩ = some (.string (E q)) ∧ w'.cell? ⟨w.heap.size, 2, none⟩ = some (.string (E g)) ∧ w'.cell? ⟨w.heap.size, 3, none⟩ = some (.string (E h))) ((refine keep4 (T := 26) ?_; repeat (first | (with_reducible exact hBd) | (with_reducible exact hBf) | (with_reducible exact hB) | (with_reducible refine Blk.drew ?_) | (with_reducible refine Blk.alloc ?_ _) | (with_reducible refine Blk.nextSet ?_))))
    (first | (go_at_call 38; refine (HSH.out _).mono ?_; rintro e wf ⟨rfl, hbf⟩; have hBf : Blk wf w.heap.size 26 [Value.string (E p), Value.string (E q), Value.string (E g), Value.string (E h)] := (by first | (with_reducible exact hB.drew.after hbf) | (with_reducible exact (hB.alloc _).drew.after hbf)); have hrf : Blk wf (w.heap.size + 1) 33 [.slice none 0 0, .slice none 0 0, .slice none 0 0] := (by first | (with_reducible exact hr.drew.after hbf) | (with_reducible exact (hr.alloc _).drew.after hbf)); have hBWf : Below w.heap.size w wf := (by first | (with_reducible exact bt hBW.drew hbf) | (with_reducible exact bt (ba hBW _).drew hbf)); have y3 : w.heap.size < wf.heap.size := hBf.lt; have y4 : w.heap.size + 1 < wf.heap.size := hrf.lt) | (go_at_call 39; refine (HST.out _).mono ?_; rintro e wd ⟨g1, g2, g3, g4, c1, c2, c3, c4, rfl, hstm, ⟨k1, k2, k3, k4⟩, hbd⟩; have hBd : Blk wd w.heap.size 26 [Value.string (E p), Value.string (E q), Value.string (E g), Value.string (E h)] := (by first | (with_reducible exact hBf.after hbd) | (with_reducible exact (hBf.alloc _).after hbd)); have hrd : Blk wd (w.heap.size + 1) 33 [.slice none 0 0, .slice none 0 0, .slice none 0 0] := (by first | (with_reducible exact hrf.after hbd) | (with_reducible exact (hrf.alloc _).after hbd)); have hBWd : Below w.heap.size w wd := (by first | (with_reducible exact bt hBWf hbd) | (with_reducible exact bt (ba hBWf _) hbd)); have r0 := hrd.cell 0; have r1 := hrd.cell 1; have r2 := hrd.cell 2; have q0 := hrd.free 0; have q1 := hrd.free 1; have q2 := hrd.free 2))
  all_goals go_wp2
  all_goals
    have z1 : w.heap.size + 1 < g1 := (by first | omega | (simp only [World.size_alloc] at k1; omega))
    have z2 : w.heap.size + 1 < g2 := (by first | omega | (simp only [World.size_alloc] at k2; omega))
    have z3 : w.heap.size + 1 < g3 := (by first | omega | (simp only [World.size_alloc] at k3; omega))
    have z4 : w.heap.size + 1 < g4 := (by first | omega | (simp only [World.size_alloc] at k4; omega))
    refine bodyPost_ret (v := .tuple #[.agg #[.slice (some ⟨g1, 0, none⟩) 1 c1, .slice (some ⟨g2, 0, none⟩) 2 c2, .slice (some ⟨g3, 0, none⟩) 1 c3], .int .i64 0]) ?_ rfl ⟨g1, g2, g3, g4, c1, c2, c3, c4, rfl, ?_, ?_⟩
    · simp [results, Tryz.results17, go_sem, r0, r1, r2]
    · exact ((hstm.set (by omega) (by omega) (by omega) (by omega)).set (by omega) (by omega) (by omega) (by omega)).set (by omega) (by omega) (by omega) (by omega)
    · exact ((hBWd.setCell (by simp) _).setCell (by simp) _).setCell (by simp) _

end Go.Proofs.YtecobjddpinonaaGreat
end

section
set_option linter.unusedVariables false
set_option linter.unusedSimpArgs false
set_option maxRecDepth 100000
namespace Go.Proofs.YtecobjddpinonaaGreat
open Go.RowKit

theorem readyN_ok2 {p q g h n m : Nat} (h0 : readyN p q g h [n, m] = 0) : 0 < q ∧ grpE p q = 0 ∧ hasB p q n = true ∧ hasB p q m = true := by
  unfold readyN at h0
  by_cases hp : pedE p q g h = 0
  · rw [if_pos hp] at h0
    by_cases hq : q = 0
    · rw [if_pos hq] at h0; omega
    · rw [if_neg hq] at h0
      by_cases ha : ([n, m].all (hasB p q)) = true
      · have hb : hasB p q n = true ∧ hasB p q m = true := by simpa using ha
        exact ⟨by omega, pedE_grp hp, hb.1, hb.2⟩
      · rw [if_neg ha] at h0; omega
  · rw [if_neg hp] at h0; omega

/-- a key and two commitments of at most 8 bytes: an error that both report, or numbers -/
theorem ready_cases2 (ka kb kc kd c d : ByteArray) (h1 : ka.size ≤ 8) (h2 : kb.size ≤ 8) (h3 : kc.size ≤ 8) (h4 : kd.size ≤ 8) (h5 : c.size ≤ 8) (h6 : d.size ≤ 8) :
    (∃ k : Nat, k ≠ 0 ∧ (∀ (w' : World) (b : Nat), Blk w' b 22 [.string c, .string d] → Calls Tryz.prog 33 #[.agg #[.string ka, .string kb, .string kc, .string kd], .slice (some ⟨b, 0, none⟩) 2 2] w' fun e w'' => e = .returned (.int .i64 k) ∧ Below w'.heap.size w' w'') ∧
      (∀ (w' : World) (b : Nat), Blk w' b 22 [.string c, .string d] → Calls Tryz.prog 36 #[.agg #[.string ka, .string kb, .string kc, .string kd], .slice (some ⟨b, 0, none⟩) 2 2] w' fun e w'' => e = .returned (.int .i64 k) ∧ Below w'.heap.size w' w'')) ∨
    (∃ p q g h n m : Nat, (p < 256 ^ 8 ∧ q < 256 ^ 8 ∧ g < 256 ^ 8 ∧ h < 256 ^ 8 ∧ n < 256 ^ 8 ∧ m < 256 ^ 8) ∧ ka = E p ∧ kb = E q ∧ kc = E g ∧ kd = E h ∧ c = E n ∧ d = E m ∧ readyN p q g h [n, m] = 0) := by
  cases hc : (vldB c && vldB d)
  · left
    refine ⟨3, by decide, fun w' b hb => ?_, fun w' b hb => ?_⟩
    · exact ready_bad1 ka kb kc kd [c, d] _ 2 w' rfl (by omega) (by simp; omega) (strs2 hb) (by simpa using hc)
    · exact rready_bad1 ka kb kc kd [c, d] _ 2 w' rfl (by omega) (by simp; omega) (strs2 hb) (by simpa using hc)
  · cases hk : vl4 ka kb kc kd
    · left
      refine ⟨3, by decide, fun w' b hb => ?_, fun w' b hb => ?_⟩
      · exact ready_bad2 ka kb kc kd [c, d] _ 2 w' rfl (by omega) (by simp; omega) (strs2 hb) (by simpa using hc) (by omega) (by omega) (by omega) (by omega) hk
      · exact rready_bad2 ka kb kc kd [c, d] _ 2 w' rfl (by omega) (by simp; omega) (strs2 hb) (by simpa using hc) (by omega) (by omega) (by omega) (by omega) hk
    · simp only [vl4, Bool.and_eq_true] at hk
      rw [Bool.and_eq_true] at hc
      obtain ⟨n, hn, rfl⟩ := num8 h5 hc.1
      obtain ⟨m, hm, rfl⟩ := num8 h6 hc.2
      obtain ⟨p, hp, rfl⟩ := num8 h1 hk.1.1.1
      obtain ⟨q, hq, rfl⟩ := num8 h2 hk.1.1.2
      obtain ⟨g, hg, rfl⟩ := num8 h3 hk.1.2
      obtain ⟨h, hh, rfl⟩ := num8 h4 hk.2
      by_cases h0 : readyN p q g h [n, m] = 0
      · exact .inr ⟨p, q, g, h, n, m, ⟨hp, hq, hg, hh, hn, hm⟩, rfl, rfl, rfl, rfl, rfl, rfl, h0⟩
      · left
        refine ⟨readyN p q g h [n, m], h0, fun w' b hb => ?_, fun w' b hb => ?_⟩
        · exact ready_num p q g h [n, m] _ 2 w' rfl (by omega) (by intro x hx; simp at hx; rcases hx with rfl | rfl; exact lt128 hn; exact lt128 hm) (strs2 hb) hp (lt128 hq) (lt128 hg) (lt128 hh)
        · exact rready_num p q g h [n, m] _ 2 w' rfl (by omega) (by intro x hx; simp at hx; rcases hx with rfl | rfl; exact lt128 hn; exact lt128 hm) (strs2 hb) hp (lt128 hq) (lt128 hg) (lt128 hh)

set_option maxHeartbeats 4000000 in
theorem pairs_big (ka kb kc kd c d : ByteArray) (w : World) (hs : ∀ s ∈ [c, d] ++ [ka, kb, kc, kd], s.size ≤ 9223372036854775807) (hb : smallB ([c, d] ++ [ka, kb, kc, kd]) = false) :
    Calls Tryz.prog 4 #[.agg #[.string ka, .string kb, .string kc, .string kd], .string c, .string d] w fun e w' => e = .returned (.bool true) ∧ Below w.heap.size w w' := by
  have HS := Lib.hid (lsmall_c ka kb kc kd [c, d] (w.heap.size + 1) 2 ((w.alloc (.cells #[Value.string ka, Value.string kb, Value.string kc, Value.string kd] 26)).alloc (.cells #[.string c, .string d] 22)) rfl (by omega) (by omega) hs (blk2b _ _ _ _ _))
  rw [hb] at HS
  have HA := Lib.hid awake_c
  clear hs hb
  go_enter Tryz.func4, Tryz.ntmps4
  go_wp2_with fail
  refine (HS.out).mono ?_
  rintro e w1 ⟨rfl, hb1⟩
  go_wp2_with fail
  refine (HA.out _).mono ?_
  rintro e w2 ⟨rfl, hb2⟩
  go_wp2
  go_ret
  exact ⟨rfl, bt (bt (b2 _ _ _) hb1) hb2⟩

set_option maxHeartbeats 4000000 in
theorem pairs_err (ka kb kc kd c d : ByteArray) (k : Nat) (w : World) (hs : ∀ s ∈ [c, d] ++ [ka, kb, kc, kd], s.size ≤ 9223372036854775807) (hb : smallB ([c, d] ++ [ka, kb, kc, kd]) = true) (hk : k ≠ 0)
    (hR : ∀ (w' : World) (b : Nat), Blk w' b 22 [.string c, .string d] → Calls Tryz.prog 33 #[.agg #[.string ka, .string kb, .string kc, .string kd], .slice (some ⟨b, 0, none⟩) 2 2] w' fun e w'' => e = .returned (.int .i64 k) ∧ Below w'.heap.size w' w'')
    (hQ : ∀ (w' : World) (b : Nat), Blk w' b 22 [.string c, .string d] → Calls Tryz.prog 36 #[.agg #[.string ka, .string kb, .string kc, .string kd], .slice (some ⟨b, 0, none⟩) 2 2] w' fun e w'' => e = .returned (.int .i64 k) ∧ Below w'.heap.size w' w'') :
    Calls Tryz.prog 4 #[.agg #[.string ka, .string kb, .string kc, .string kd], .string c, .string d] w fun e w' => e = .returned (.bool true) ∧ Below w.heap.size w w' := by
  have HS := Lib.hid (lsmall_c ka kb kc kd [c, d] (w.heap.size + 1) 2 ((w.alloc (.cells #[Value.string ka, Value.string kb, Value.string kc, Value.string kd] 26)).alloc (.cells #[.string c, .string d] 22)) rfl (by omega) (by omega) hs (blk2b _ _ _ _ _))
  rw [hb] at HS
  have HA := Lib.hid awake_c
  have H1 := Lib.hid (fun w => psame_err ka kb kc kd c d k w hk hR)
  have H2 := Lib.hid (fun w => rpsame_err ka kb kc kd c d k w hk hQ)
  have H3 := Lib.hid (fun w => differ_err ka kb kc kd c d k w hk hR)
  have H4 := Lib.hid (fun w => rdiffer_err ka kb kc kd c d k w hk hQ)
  have HN := Lib.hid same_nil
  have hB := blk2a w #[Value.string ka, Value.string kb, Value.string kc, Value.string kd] #[.string c, .string d] 26 22
  have hBW := b2 w (.cells #[Value.string ka, Value.string kb, Value.string kc, Value.string kd] 26) (.cells #[.string c, .string d] 22)
  clear hs hb hk hR hQ
  go_enter Tryz.func4, Tryz.ntmps4
  go_wp2_with fail
  refine (HS.out).mono ?_
  rintro e w1 ⟨rfl, hb1⟩
  replace hB := hB.after hb1
  replace hBW := bt hBW hb1
  -- GEN1
  have yb : w.heap.size < w1.heap.size := hB.lt
  have hBc0 := hB.cell 0
  have hBf0 := hB.free 0
  have hBc1 := hB.cell 1
  have hBf1 := hB.free 1
  have hBc2 := hB.cell 2
  have hBf2 := hB.free 2
  have hBc3 := hB.cell 3
  have hBf3 := hB.free 3
  go_wp2_with fail
  refine (H1.out _).mono ?_
  rintro e w2 ⟨rfl, hb2⟩
  clear hBc0 hBf0 hBc1 hBf1 hBc2 hBf2 hBc3 hBf3
  clear yb
  replace hB := hB.after hb2
  replace hBW := bt hBW hb2
  have yb : w.heap.size < w2.heap.size := hB.lt
  have hx2 := Blk.new w2 #[.slice none 0 0, .slice none 0 0, .slice none 0 0] 33
  clear hb2
  have hBc0 := hB.cell 0
  have hBf0 := hB.free 0
  have hBc1 := hB.cell 1
  have hBf1 := hB.free 1
  have hBc2 := hB.cell 2
  have hBf2 := hB.free 2
  have hBc3 := hB.cell 3
  have hBf3 := hB.free 3
  go_wp2_with fail
  refine (H2.out _).mono ?_
  rintro e w3 ⟨rfl, hb3⟩
  clear hBc0 hBf0 hBc1 hBf1 hBc2 hBf2 hBc3 hBf3
  clear yb
  replace hB := (hB.alloc (.cells #[.slice none 0 0, .slice none 0 0, .slice none 0 0] 33)).after hb3
  replace hBW := bt (ba hBW (.cells #[.slice none 0 0, .slice none 0 0, .slice none 0 0] 33)) hb3
  replace hx2 := hx2.after hb3
  have yb : w.heap.size < w3.heap.size := hB.lt
  have hx3 := Blk.new w3 #[.slice none 0 0, .slice none 0 0, .slice none 0 0] 33
  have hl2_3 := hx2.lt
  clear hb3
  have hBc0 := hB.cell 0
  have hBf0 := hB.free 0
  have hBc1 := hB.cell 1
  have hBf1 := hB.free 1
  have hBc2 := hB.cell 2
  have hBf2 := hB.free 2
  have hBc3 := hB.cell 3
  have hBf3 := hB.free 3
  go_wp2_with fail
  refine (H3.out _).mono ?_
  rintro e w4 ⟨rfl, hb4⟩
  clear hBc0 hBf0 hBc1 hBf1 hBc2 hBf2 hBc3 hBf3
  clear yb
  replace hB := (hB.alloc (.cells #[.slice none 0 0, .slice none 0 0, .slice none 0 0] 33)).after hb4
  replace hBW := bt (ba hBW (.cells #[.slice none 0 0, .slice none 0 0, .slice none 0 0] 33)) hb4
  replace hx2 := (hx2.alloc (.cells #[.slice none 0 0, .slice none 0 0, .slice none 0 0] 33)).after hb4
  replace hx3 := hx3.after hb4
  have yb : w.heap.size < w4.heap.size := hB.lt
  have hx4 := Blk.new w4 #[.slice none 0 0, .slice none 0 0, .slice none 0 0] 33
  have hl2_4 := hx2.lt
  have hl3_4 := hx3.lt
  clear hb4
  have hBc0 := hB.cell 0
  have hBf0 := hB.free 0
  have hBc1 := hB.cell 1
  have hBf1 := hB.free 1
  have hBc2 := hB.cell 2
  have hBf2 := hB.free 2
  have hBc3 := hB.cell 3
  have hBf3 := hB.free 3
  go_wp2_with fail
  refine (H4.out _).mono ?_
  rintro e w5 ⟨rfl, hb5⟩
  clear hBc0 hBf0 hBc1 hBf1 hBc2 hBf2 hBc3 hBf3
  clear yb
  replace hB := (hB.alloc (.cells #[.slice none 0 0, .slice none 0 0, .slice none 0 0] 33)).after hb5
  replace hBW := bt (ba hBW (.cells #[.slice none 0 0, .slice none 0 0, .slice none 0 0] 33)) hb5
  replace hx2 := (hx2.alloc (.cells #[.slice none 0 0, .slice none 0 0, .slice none 0 0] 33)).after hb5
  replace hx3 := (hx3.alloc (.cells #[.slice none 0 0, .slice none 0 0, .slice none 0 0] 33)).after hb5
  replace hx4 := hx4.after hb5
  have yb : w.heap.size < w5.heap.size := hB.lt
  have hx5 := Blk.new w5 #[.slice none 0 0, .slice none 0 0, .slice none 0 0] 33
  have hl2_5 := hx2.lt
  have hl3_5 := hx3.lt
  have hl4_5 := hx4.lt
  clear hb5
  have hx2c0 := hx2.cell 0
  have hx2f0 := hx2.free 0
  have hx2c1 := hx2.cell 1
  have hx2f1 := hx2.free 1
  have hx2c2 := hx2.cell 2
  have hx2f2 := hx2.free 2
  have hx3c0 := hx3.cell 0
  have hx3f0 := hx3.free 0
  have hx3c1 := hx3.cell 1
  have hx3f1 := hx3.free 1
  have hx3c2 := hx3.cell 2
  have hx3f2 := hx3.free 2
  have hx4c0 := hx4.cell 0
  have hx4f0 := hx4.free 0
  have hx4c1 := hx4.cell 1
  have hx4f1 := hx4.free 1
  have hx4c2 := hx4.cell 2
  have hx4f2 := hx4.free 2
  have hx5c0 := hx5.cell 0
  have hx5f0 := hx5.free 0
  have hx5c1 := hx5.cell 1
  have hx5f1 := hx5.free 1
  have hx5c2 := hx5.cell 2
  have hx5f2 := hx5.free 2
  go_wp2_with fail
  refine (HN.out _).mono ?_
  rintro e w6 ⟨rfl, hb6⟩
  clear hx2c0 hx2f0 hx2c1 hx2f1 hx2c2 hx2f2
  clear hx3c0 hx3f0 hx3c1 hx3f1 hx3c2 hx3f2
  clear hx4c0 hx4f0 hx4c1 hx4f1 hx4c2 hx4f2
  clear hx5c0 hx5f0 hx5c1 hx5f1 hx5c2 hx5f2
  replace hx2 := (hx2.alloc (.cells #[.slice none 0 0, .slice none 0 0, .slice none 0 0] 33)).after hb6
  replace hx3 := (hx3.alloc (.cells #[.slice none 0 0, .slice none 0 0, .slice none 0 0] 33)).after hb6
  replace hx4 := (hx4.alloc (.cells #[.slice none 0 0, .slice none 0 0, .slice none 0 0] 33)).after hb6
  replace hx5 := hx5.after hb6
  replace hBW := bt (ba hBW (.cells #[.slice none 0 0, .slice none 0 0, .slice none 0 0] 33)) hb6
  have hx2c0 := hx2.cell 0
  have hx2f0 := hx2.free 0
  have hx2c1 := hx2.cell 1
  have hx2f1 := hx2.free 1
  have hx2c2 := hx2.cell 2
  have hx2f2 := hx2.free 2
  have hx3c0 := hx3.cell 0
  have hx3f0 := hx3.free 0
  have hx3c1 := hx3.cell 1
  have hx3f1 := hx3.free 1
  have hx3c2 := hx3.cell 2
  have hx3f2 := hx3.free 2
  have hx4c0 := hx4.cell 0
  have hx4f0 := hx4.free 0
  have hx4c1 := hx4.cell 1
  have hx4f1 := hx4.free 1
  have hx4c2 := hx4.cell 2
  have hx4f2 := hx4.free 2
  have hx5c0 := hx5.cell 0
  have hx5f0 := hx5.free 0
  have hx5c1 := hx5.cell 1
  have hx5f1 := hx5.free 1
  have hx5c2 := hx5.cell 2
  have hx5f2 := hx5.free 2
  go_wp2_with fail
  refine (HN.out _).mono ?_
  rintro e w7 ⟨rfl, hb7⟩
  go_wp2_with fail
  refine (HA.out _).mono ?_
  rintro e w8 ⟨rfl, hb8⟩
  go_wp2
  go_ret
  exact ⟨rfl, bt (bt hBW hb7) hb8⟩

set_option maxHeartbeats 8000000 in
theorem pairs_ok (p q g h n m : Nat) (w : World) (hp : p < 256 ^ 8) (hq : q < 256 ^ 8) (hg : g < 256 ^ 8) (hh : h < 256 ^ 8) (hn : n < 256 ^ 8) (hm : m < 256 ^ 8) (h0 : readyN p q g h [n, m] = 0) :
    Calls Tryz.prog 4 #[.agg #[.string (E p), .string (E q), .string (E g), .string (E h)], .string (E n), .string (E m)] w fun e w' => e = .returned (.bool true) ∧ Below w.heap.size w w' := by
  have z1 := (E_size_le p 8).2 hp
  have z2 := (E_size_le q 8).2 hq
  have z3 := (E_size_le g 8).2 hg
  have z4 := (E_size_le h 8).2 hh
  have z5 := (E_size_le n 8).2 hn
  have z6 := (E_size_le m 8).2 hm
  obtain ⟨hq0, hge, hc, hd⟩ := readyN_ok2 h0
  have HS := Lib.hid (lsmall_c (E p) (E q) (E g) (E h) [E n, E m] (w.heap.size + 1) 2 ((w.alloc (.cells #[Value.string (E p), Value.string (E q), Value.string (E g), Value.string (E h)] 26)).alloc (.cells #[.string (E n), .string (E m)] 22)) rfl (by omega) (by omega) (by simp; omega) (blk2b _ _ _ _ _))
  rw [show smallB ([E n, E m] ++ [E p, E q, E g, E h]) = true by simp [smallB]; omega] at HS
  have HA := Lib.hid awake_c
  have H1 := Lib.hid (fun w => psame_ok p q g h n m w hp (lt128 hq) (lt128 hg) (lt128 hh) (lt128 hn) (lt128 hm) h0 hq0 hge hc hd)
  have H2 := Lib.hid (fun w => rpsame_ok p q g h n m w hp (lt128 hq) (lt128 hg) (lt128 hh) (lt128 hn) (lt128 hm) h0 hq0 hge hc hd)
  have H3 := Lib.hid (fun w => differ_ok p q g h n m w hp (lt128 hq) (lt128 hg) (lt128 hh) (lt128 hn) (lt128 hm) h0 hq0 hge hc hd)
  have H4 := Lib.hid (fun w => rdiffer_ok p q g h n m w hp (lt128 hq) (lt128 hg) (lt128 hh) (lt128 hn) (lt128 hm) h0 hq0 hge hc hd)
  generalize overN p n m 1 = x at H1 H2 H3 H4
  have hB := blk2a w #[Value.string (E p), Value.string (E q), Value.string (E g), Value.string (E h)] #[.string (E n), .string (E m)] 26 22
  have hBW := b2 w (.cells #[Value.string (E p), Value.string (E q), Value.string (E g), Value.string (E h)] 26) (.cells #[.string (E n), .string (E m)] 22)
  clear hp hq hg hh hn hm h0 z1 z2 z3 z4 z5 z6 hq0 hge hc hd
  go_enter Tryz.func4, Tryz.ntmps4
  go_wp2_with fail
  refine (HS.out).mono ?_
  rintro e w1 ⟨rfl, hb1⟩
  replace hB := hB.after hb1
  replace hBW := bt hBW hb1
  -- GEN1
  have yb : w.heap.size < w1.heap.size := hB.lt
  have hBc0 := hB.cell 0
  have hBf0 := hB.free 0
  have hBc1 := hB.cell 1
  have hBf1 := hB.free 1
  have hBc2 := hB.cell 2
  have hBf2 := hB.free 2
  have hBc3 := hB.cell 3
  have hBf3 := hB.free 3
  go_wp2_with fail
  refine (H1.out _).mono ?_
  rintro e w2 ⟨p2, q2, r2, s2, c2, d2, e2, f2, rfl, hs2, hb2⟩
  clear hBc0 hBf0 hBc1 hBf1 hBc2 hBf2 hBc3 hBf3
  clear yb
  replace hB := hB.after hb2
  replace hBW := bt hBW hb2
  have yb : w.heap.size < w2.heap.size := hB.lt
  have hx2 := Blk.new w2 #[.slice (some ⟨p2, 0, none⟩) 1 c2, .slice (some ⟨q2, 0, none⟩) 1 d2, .slice (some ⟨r2, 0, none⟩) 1 e2] 33
  clear hb2
  have hBc0 := hB.cell 0
  have hBf0 := hB.free 0
  have hBc1 := hB.cell 1
  have hBf1 := hB.free 1
  have hBc2 := hB.cell 2
  have hBf2 := hB.free 2
  have hBc3 := hB.cell 3
  have hBf3 := hB.free 3
  go_wp2_with fail
  refine (H2.out _).mono ?_
  rintro e w3 ⟨p3, q3, r3, s3, c3, d3, e3, f3, rfl, hs3, hb3⟩
  clear hBc0 hBf0 hBc1 hBf1 hBc2 hBf2 hBc3 hBf3
  clear yb
  replace hB := (hB.alloc (.cells #[.slice (some ⟨p2, 0, none⟩) 1 c2, .slice (some ⟨q2, 0, none⟩) 1 d2, .slice (some ⟨r2, 0, none⟩) 1 e2] 33)).after hb3
  replace hBW := bt (ba hBW (.cells #[.slice (some ⟨p2, 0, none⟩) 1 c2, .slice (some ⟨q2, 0, none⟩) 1 d2, .slice (some ⟨r2, 0, none⟩) 1 e2] 33)) hb3
  replace hx2 := hx2.after hb3
  replace hs2 := (hs2.after (b1 _ (.cells #[.slice (some ⟨p2, 0, none⟩) 1 c2, .slice (some ⟨q2, 0, none⟩) 1 d2, .slice (some ⟨r2, 0, none⟩) 1 e2] 33))).after hb3
  have yb : w.heap.size < w3.heap.size := hB.lt
  have hx3 := Blk.new w3 #[.slice (some ⟨p3, 0, none⟩) 1 c3, .slice (some ⟨q3, 0, none⟩) 1 d3, .slice (some ⟨r3, 0, none⟩) 1 e3] 33
  have hl2_3 := hx2.lt
  clear hb3
  have hBc0 := hB.cell 0
  have hBf0 := hB.free 0
  have hBc1 := hB.cell 1
  have hBf1 := hB.free 1
  have hBc2 := hB.cell 2
  have hBf2 := hB.free 2
  have hBc3 := hB.cell 3
  have hBf3 := hB.free 3
  go_wp2_with fail
  refine (H3.out _).mono ?_
  rintro e w4 ⟨p4, q4, r4, s4, c4, d4, e4, f4, rfl, hs4, hb4⟩
  clear hBc0 hBf0 hBc1 hBf1 hBc2 hBf2 hBc3 hBf3
  clear yb
  replace hB := (hB.alloc (.cells #[.slice (some ⟨p3, 0, none⟩) 1 c3, .slice (some ⟨q3, 0, none⟩) 1 d3, .slice (some ⟨r3, 0, none⟩) 1 e3] 33)).after hb4
  replace hBW := bt (ba hBW (.cells #[.slice (some ⟨p3, 0, none⟩) 1 c3, .slice (some ⟨q3, 0, none⟩) 1 d3, .slice (some ⟨r3, 0, none⟩) 1 e3] 33)) hb4
  replace hx2 := (hx2.alloc (.cells #[.slice (some ⟨p3, 0, none⟩) 1 c3, .slice (some ⟨q3, 0, none⟩) 1 d3, .slice (some ⟨r3, 0, none⟩) 1 e3] 33)).after hb4
  replace hx3 := hx3.after hb4
  replace hs2 := (hs2.after (b1 _ (.cells #[.slice (some ⟨p3, 0, none⟩) 1 c3, .slice (some ⟨q3, 0, none⟩) 1 d3, .slice (some ⟨r3, 0, none⟩) 1 e3] 33))).after hb4
  replace hs3 := (hs3.after (b1 _ (.cells #[.slice (some ⟨p3, 0, none⟩) 1 c3, .slice (some ⟨q3, 0, none⟩) 1 d3, .slice (some ⟨r3, 0, none⟩) 1 e3] 33))).after hb4
  have yb : w.heap.size < w4.heap.size := hB.lt
  have hx4 := Blk.new w4 #[.slice (some ⟨p4, 0, none⟩) 1 c4, .slice (some ⟨q4, 0, none⟩) 2 d4, .slice (some ⟨r4, 0, none⟩) 1 e4] 33
  have hl2_4 := hx2.lt
  have hl3_4 := hx3.lt
  clear hb4
  have hBc0 := hB.cell 0
  have hBf0 := hB.free 0
  have hBc1 := hB.cell 1
  have hBf1 := hB.free 1
  have hBc2 := hB.cell 2
  have hBf2 := hB.free 2
  have hBc3 := hB.cell 3
  have hBf3 := hB.free 3
  go_wp2_with fail
  refine (H4.out _).mono ?_
  rintro e w5 ⟨p5, q5, r5, s5, c5, d5, e5, f5, rfl, hs5, hb5⟩
  clear hBc0 hBf0 hBc1 hBf1 hBc2 hBf2 hBc3 hBf3
  clear yb
  replace hB := (hB.alloc (.cells #[.slice (some ⟨p4, 0, none⟩) 1 c4, .slice (some ⟨q4, 0, none⟩) 2 d4, .slice (some ⟨r4, 0, none⟩) 1 e4] 33)).after hb5
  replace hBW := bt (ba hBW (.cells #[.slice (some ⟨p4, 0, none⟩) 1 c4, .slice (some ⟨q4, 0, none⟩) 2 d4, .slice (some ⟨r4, 0, none⟩) 1 e4] 33)) hb5
  replace hx2 := (hx2.alloc (.cells #[.slice (some ⟨p4, 0, none⟩) 1 c4, .slice (some ⟨q4, 0, none⟩) 2 d4, .slice (some ⟨r4, 0, none⟩) 1 e4] 33)).after hb5
  replace hx3 := (hx3.alloc (.cells #[.slice (some ⟨p4, 0, none⟩) 1 c4, .slice (some ⟨q4, 0, none⟩) 2 d4, .slice (some ⟨r4, 0, none⟩) 1 e4] 33)).after hb5
  replace hx4 := hx4.after hb5
  replace hs2 := (hs2.after (b1 _ (.cells #[.slice (some ⟨p4, 0, none⟩) 1 c4, .slice (some ⟨q4, 0, none⟩) 2 d4, .slice (some ⟨r4, 0, none⟩) 1 e4] 33))).after hb5
  replace hs3 := (hs3.after (b1 _ (.cells #[.slice (some ⟨p4, 0, none⟩) 1 c4, .slice (some ⟨q4, 0, none⟩) 2 d4, .slice (some ⟨r4, 0, none⟩) 1 e4] 33))).after hb5
  replace hs4 := (hs4.after (b1 _ (.cells #[.slice (some ⟨p4, 0, none⟩) 1 c4, .slice (some ⟨q4, 0, none⟩) 2 d4, .slice (some ⟨r4, 0, none⟩) 1 e4] 33))).after hb5
  have yb : w.heap.size < w5.heap.size := hB.lt
  have hx5 := Blk.new w5 #[.slice (some ⟨p5, 0, none⟩) 1 c5, .slice (some ⟨q5, 0, none⟩) 2 d5, .slice (some ⟨r5, 0, none⟩) 1 e5] 33
  have hl2_5 := hx2.lt
  have hl3_5 := hx3.lt
  have hl4_5 := hx4.lt
  clear hb5
  have HM := Lib.hid (fun (w' : World) (ha : Stm w' p2 q2 r2 s2 f2 p q x [h]) (hb : Stm w' p3 q3 r3 s3 f3 p q x [h]) => same_c w' p2 q2 r2 s2 c2 d2 e2 f2 p3 q3 r3 s3 c3 d3 e3 f3 p q x 1 [h] rfl (by omega) ha hb)
  have HM2 := Lib.hid (fun (w' : World) (ha : Stm w' p4 q4 r4 s4 f4 p q g [x, h]) (hb : Stm w' p5 q5 r5 s5 f5 p q g [x, h]) => same_c w' p4 q4 r4 s4 c4 d4 e4 f4 p5 q5 r5 s5 c5 d5 e5 f5 p q g 2 [x, h] rfl (by omega) ha hb)
  have hx2c0 := hx2.cell 0
  have hx2f0 := hx2.free 0
  have hx2c1 := hx2.cell 1
  have hx2f1 := hx2.free 1
  have hx2c2 := hx2.cell 2
  have hx2f2 := hx2.free 2
  have hx3c0 := hx3.cell 0
  have hx3f0 := hx3.free 0
  have hx3c1 := hx3.cell 1
  have hx3f1 := hx3.free 1
  have hx3c2 := hx3.cell 2
  have hx3f2 := hx3.free 2
  have hx4c0 := hx4.cell 0
  have hx4f0 := hx4.free 0
  have hx4c1 := hx4.cell 1
  have hx4f1 := hx4.free 1
  have hx4c2 := hx4.cell 2
  have hx4f2 := hx4.free 2
  have hx5c0 := hx5.cell 0
  have hx5f0 := hx5.free 0
  have hx5c1 := hx5.cell 1
  have hx5f1 := hx5.free 1
  have hx5c2 := hx5.cell 2
  have hx5f2 := hx5.free 2
  go_wp2_with fail
  refine (HM.out _ (hs2.after (b1 _ _)) (hs3.after (b1 _ _))).mono ?_
  rintro e w6 ⟨rfl, hb6⟩
  clear hx2c0 hx2f0 hx2c1 hx2f1 hx2c2 hx2f2
  clear hx3c0 hx3f0 hx3c1 hx3f1 hx3c2 hx3f2
  clear hx4c0 hx4f0 hx4c1 hx4f1 hx4c2 hx4f2
  clear hx5c0 hx5f0 hx5c1 hx5f1 hx5c2 hx5f2
  replace hx2 := (hx2.alloc (.cells #[.slice (some ⟨p5, 0, none⟩) 1 c5, .slice (some ⟨q5, 0, none⟩) 2 d5, .slice (some ⟨r5, 0, none⟩) 1 e5] 33)).after hb6
  replace hx3 := (hx3.alloc (.cells #[.slice (some ⟨p5, 0, none⟩) 1 c5, .slice (some ⟨q5, 0, none⟩) 2 d5, .slice (some ⟨r5, 0, none⟩) 1 e5] 33)).after hb6
  replace hx4 := (hx4.alloc (.cells #[.slice (some ⟨p5, 0, none⟩) 1 c5, .slice (some ⟨q5, 0, none⟩) 2 d5, .slice (some ⟨r5, 0, none⟩) 1 e5] 33)).after hb6
  replace hx5 := hx5.after hb6
  replace hBW := bt (ba hBW (.cells #[.slice (some ⟨p5, 0, none⟩) 1 c5, .slice (some ⟨q5, 0, none⟩) 2 d5, .slice (some ⟨r5, 0, none⟩) 1 e5] 33)) hb6
  replace hs2 := (hs2.after (b1 _ (.cells #[.slice (some ⟨p5, 0, none⟩) 1 c5, .slice (some ⟨q5, 0, none⟩) 2 d5, .slice (some ⟨r5, 0, none⟩) 1 e5] 33))).after hb6
  replace hs3 := (hs3.after (b1 _ (.cells #[.slice (some ⟨p5, 0, none⟩) 1 c5, .slice (some ⟨q5, 0, none⟩) 2 d5, .slice (some ⟨r5, 0, none⟩) 1 e5] 33))).after hb6
  replace hs4 := (hs4.after (b1 _ (.cells #[.slice (some ⟨p5, 0, none⟩) 1 c5, .slice (some ⟨q5, 0, none⟩) 2 d5, .slice (some ⟨r5, 0, none⟩) 1 e5] 33))).after hb6
  replace hs5 := (hs5.after (b1 _ (.cells #[.slice (some ⟨p5, 0, none⟩) 1 c5, .slice (some ⟨q5, 0, none⟩) 2 d5, .slice (some ⟨r5, 0, none⟩) 1 e5] 33))).after hb6
  have hx2c0 := hx2.cell 0
  have hx2f0 := hx2.free 0
  have hx2c1 := hx2.cell 1
  have hx2f1 := hx2.free 1
  have hx2c2 := hx2.cell 2
  have hx2f2 := hx2.free 2
  have hx3c0 := hx3.cell 0
  have hx3f0 := hx3.free 0
  have hx3c1 := hx3.cell 1
  have hx3f1 := hx3.free 1
  have hx3c2 := hx3.cell 2
  have hx3f2 := hx3.free 2
  have hx4c0 := hx4.cell 0
  have hx4f0 := hx4.free 0
  have hx4c1 := hx4.cell 1
  have hx4f1 := hx4.free 1
  have hx4c2 := hx4.cell 2
  have hx4f2 := hx4.free 2
  have hx5c0 := hx5.cell 0
  have hx5f0 := hx5.free 0
  have hx5c1 := hx5.cell 1
  have hx5f1 := hx5.free 1
  have hx5c2 := hx5.cell 2
  have hx5f2 := hx5.free 2
  go_wp2_with fail
  refine (HM2.out _ hs4 hs5).mono ?_
  rintro e w7 ⟨rfl, hb7⟩
  go_wp2_with fail
  refine (HA.out _).mono ?_
  rintro e w8 ⟨rfl, hb8⟩
  go_wp2
  go_ret
  exact ⟨rfl, bt (bt hBW hb7) hb8⟩

theorem pairs_c (ka kb kc kd c d : ByteArray) (w : World) (hs : ∀ s ∈ [c, d] ++ [ka, kb, kc, kd], s.size ≤ 9223372036854775807) :
    Calls Tryz.prog 4 #[.agg #[.string ka, .string kb, .string kc, .string kd], .string c, .string d] w fun e w' => e = .returned (.bool true) ∧ Below w.heap.size w w' := by
  cases hb : smallB ([c, d] ++ [ka, kb, kc, kd])
  · exact pairs_big ka kb kc kd c d w hs hb
  · have hb2 := hb
    simp only [smallB, List.cons_append, List.nil_append, List.all_cons, List.all_nil, Bool.and_true, Bool.and_eq_true, decide_eq_true_eq] at hb2
    rcases ready_cases2 ka kb kc kd c d hb2.2.2.1 hb2.2.2.2.1 hb2.2.2.2.2.1 hb2.2.2.2.2.2 hb2.1 hb2.2.1 with ⟨k, hk, hR, hQ⟩ | ⟨p, q, g, h, n, m, ⟨a1, a2, a3, a4, a5, a6⟩, rfl, rfl, rfl, rfl, rfl, rfl, h0⟩
    · exact pairs_err ka kb kc kd c d k w hs hb hk hR hQ
    · exact pairs_ok p q g h n m w a1 a2 a3 a4 a5 a6 h0

end Go.Proofs.YtecobjddpinonaaGreat
end

section
set_option linter.unusedVariables false
set_option linter.unusedSimpArgs false
set_option maxRecDepth 100000
namespace Go.Proofs.YtecobjddpinonaaGreat
open Go.RowKit Go.WideShapes Go.ChangeShapes Go.ChangeAt
open Go.ChangeMaps (open_string shut_string)

theorem pairs_lifted (os : Os) (started : os.Started) (H : Type) (enc : TypeId × Value → H) :
    ReturnsInHanded {} Tryz.checked os 4 .any (Rows.setproofPairsSpec.pre6 enc Tryz.prog Tryz.f4 Rows.setproofPairsRow.domain false) (Rows.setproofPairsSpec.post enc Tryz.prog Tryz.f4 false true false false) := by
  refine returnsInHanded_of_change (C := Tryz.checked) own_knob started (by kernel_rfl) Tryz.func4
    (ChangeSpec.witness6 (enc := enc) (C := Tryz.checked) false ⟨#[], #[.agg #[.string ⟨#[]⟩, .string ⟨#[]⟩, .string ⟨#[]⟩, .string ⟨#[]⟩], .string ⟨#[]⟩, .string ⟨#[]⟩], []⟩ 8 (by kernel_rfl) (by kernel_rfl) (by kernel_rfl) (by kernel_rfl)) ?_
  intro W base args ds gs before hval0 hW _ _
  have hval : ∀ (j : Nat) t v, Tryz.f4.params[j]? = some t → args[j]? = some v → Value.okWide Tryz.prog W .any base t v := hval0
  have hW' := hW
  obtain ⟨p, q, hA0, hV, rfl, _, _⟩ := hW
  have hA : DataW.TrodAll enc Tryz.prog W 0 (fun _ => true) true Tryz.f4.params.toList args.toList ds p := hA0
  rw [Tryz.params4] at hA hval
  obtain ⟨v0, vs0, d0, ds0, p0, q0, hargs, rfl, rfl, h0, r0⟩ := trodAll_cons hA
  obtain ⟨v1, vs1, d1, ds1, p1, q1, rfl, rfl, rfl, h1, r1⟩ := trodAll_cons r0
  obtain ⟨v2, vs2, d2, ds2, p2, q2, rfl, rfl, rfl, h2, r2⟩ := trodAll_cons r1
  obtain ⟨rfl, rfl, rfl⟩ := trodAll_nil r2
  obtain rfl : args = #[v0, v1, v2] := by cases args; simp_all
  obtain ⟨rfl, rfl⟩ := trodVars_none hV
  obtain ⟨a, b, c, e, rfl, rfl, rfl, sa, sb, sc, se⟩ := open_ped (hval 0 26 v0 rfl rfl) h0
  obtain ⟨s, rfl, rfl, rfl, ss⟩ := open_string Tryz.underlying22 (hval 1 22 v1 rfl rfl) h1
  obtain ⟨n, rfl, rfl, rfl, sn⟩ := open_string Tryz.underlying22 (hval 2 22 v2 rfl rfl) h2
  clear hA0 hval0 hA r0 r1 r2 h0 h1 h2
  simp only [List.append_nil] at hW'
  have hsz : ∀ x ∈ [s, n] ++ [a, b, c, e], x.size ≤ 9223372036854775807 := by
    unfold maxLen at sa sb sc se ss sn
    intro x hx
    simp at hx
    rcases hx with rfl | rfl | rfl | rfl | rfl | rfl <;> omega
  refine (pairs_c a b c e s n W hsz).mono fun en W' hh => ?_
  obtain ⟨rfl, hb⟩ := hh
  exact ⟨_, rfl, post_of_below (pa := []) (pv := []) hW' (fun _ _ _ => trodAll_cons_mk (shut_bool Tryz.underlying4 _) trodAll_mk0)
    (fun sp _ => trodAll_cons_mk (shut_ped sa sb sc se) (trodAll_cons_mk (shut_string Tryz.underlying22 ss) (trodAll_cons_mk (shut_string Tryz.underlying22 sn) trodAll_mk0))) (fun _ _ => rfl) rfl hb
    (ok_one (by kernel_rfl) rfl (okWide_bool_mk Tryz.underlying4 _))⟩

theorem pairs_holds : Rows.SetproofPairsSaid :=
  OpenClaim.holds_of_wide 4 Tryz.f4 rfl rfl rfl rfl rfl rfl rfl ⟨rfl, rfl, rfl, rfl, rfl⟩ rfl rfl rfl rfl rfl (by kernel_rfl) Tryz.func4 (by kernel_rfl)
    (of_decide_eq_true (by kernel_rfl)) (by unfold Func.isWrapper; first | (rw [if_pos (by decide +kernel)]; kernel_rfl) | (rw [if_neg (by decide +kernel)]; exact ⟨rfl, rfl⟩))
    (fun os started H enc _ => pairs_lifted os started H enc)

#print axioms pairs_holds
end Go.Proofs.YtecobjddpinonaaGreat
end
