import Derived.Test.YtecobjddpinonaaGreatSet1
import Derived.Deep.RegionHeld3
import Derived.Deep.DrawnRows
section
set_option linter.unusedVariables false
set_option linter.unusedSimpArgs false
set_option maxRecDepth 100000
namespace Go.Proofs.YtecobjddpinonaaGreat
open Go.RowKit

/-- an element times a power of another -/
def shiftN (p c g : Nat) (z : Int) : Nat := pw (prs p [c, g] [1, z]) 0 % p

theorem nats2 {w : World} {b c g : Nat} {T : TypeId} (h : Blk w b T [.string (E c), .string (E g)]) : NatsAt w b [c, g] := NatsAt.of_blk (T := T) h
theorem ints2 {w : World} {b : Nat} {x y : Int} {T : TypeId} (h : Blk w b T [.bool (sg x), .string (E x.natAbs), .bool (sg y), .string (E y.natAbs)]) : IntsAt w b [x, y] := by
  refine ⟨h.lt, fun j hj => ?_⟩
  match j, hj with
  | 0, _ => exact ⟨h.cell 0, h.cell 1⟩
  | 1, _ => exact ⟨h.cell 2, h.cell 3⟩

theorem product2_c (p q c g : Nat) (z : Int) (bl bz : Nat) (w : World) (hp : p < 256 ^ 8) (hq : q < 256 ^ 128) (he : grpE p q = 0) (hc : hasB p q c = true) (hg : hasB p q g = true) (hz : z.natAbs < 256 ^ 128)
    (hL : Blk w bl 22 [.string (E c), .string (E g)]) (hZ : Blk w bz 45 [.bool (sg 1), .string (E 1), .bool (sg z), .string (E z.natAbs)]) :
    Calls Tryz.prog 97 #[.agg #[.string (E p), .string (E q)], .slice (some ⟨bl, 0, none⟩) 2 2, .slice (some ⟨bz, 0, none⟩) 2 2] w fun e w' => e = .returned (.tuple #[.string (E (shiftN p c g z)), .int .i64 0]) ∧ Below w.heap.size w w' :=
  product_c p q bl bz 2 2 2 [c, g] [1, z] w hp hq he rfl rfl (by omega) (by omega) (by omega) (by omega) (by omega)
    (by intro x hx; simp at hx; rcases hx with rfl | rfl <;> assumption) (by intro y hy; simp at hy; rcases hy with rfl | rfl <;> first | decide | assumption) (nats2 hL) (ints2 (x := 1) hZ)

set_option maxHeartbeats 4000000 in
theorem shift_c (p q g h c : Nat) (z : Int) (w : World) (hp : p < 256 ^ 8) (hq : q < 256 ^ 128) (hgb : g < 256 ^ 128) (hhb : h < 256 ^ 128) (hcb : c < 256 ^ 128) (hzb : z.natAbs < 256 ^ 128)
    (he : pedE p q g h = 0) (hc : hasB p q c = true) (hg : hasB p q g = true) :
    Calls Tryz.prog 63 #[.agg #[.string (E p), .string (E q), .string (E g), .string (E h)], .string (E c), .agg #[.bool (sg (z)), .string (E (z).natAbs)]] w fun e w' => e = .returned (.tuple #[.string (E (shiftN p c g z)), .int .i64 0]) ∧ Below w.heap.size w w' := by
  have HF := Lib.hid (fun w => pformedV_c (E p) (E q) (E g) (E h) true w (sz1000 (lt128 hp)) (sz1000 hq) (sz1000 hgb) (sz1000 hhb) (vl4_E (lt128 hp) hq hgb hhb))
  have HPC := Lib.hid (fun w => pedcheckV_c p q g h 0 w hp hq hgb hhb he)
  have HO := Lib.hid (fun w => iof_c 1 w (by decide) (by decide))
  have HCB := Lib.hid hcb
  have HZB := Lib.hid hzb
  have HPR := Lib.hid (fun bl bz w => product2_c p q c g z bl bz w hp hq (pedE_grp he) hc hg hzb)
  have hB := blk2a w #[Value.string (E p), Value.string (E q), Value.string (E g), Value.string (E h)] #[.bool (sg z), .string (E z.natAbs)] 26 45
  have hI := blk2b w #[Value.string (E p), Value.string (E q), Value.string (E g), Value.string (E h)] #[.bool (sg z), .string (E z.natAbs)] 26 45
  have hBW := b2 w (.cells #[Value.string (E p), Value.string (E q), Value.string (E g), Value.string (E h)] 26) (.cells #[.bool (sg z), .string (E z.natAbs)] 45)
  clear hp hq hgb hhb hcb hzb he hc hg
  have hBc0 := hB.cell 0
  have hBf0 := hB.free 0
  have hBc1 := hB.cell 1
  have hBf1 := hB.free 1
  have hBc2 := hB.cell 2
  have hBf2 := hB.free 2
  have hBc3 := hB.cell 3
  have hBf3 := hB.free 3
  have hIc0 := hI.cell 0
  have hIf0 := hI.free 0
  have hIc1 := hI.cell 1
  have hIf1 := hI.free 1
  go_enter Tryz.func63, Tryz.ntmps63
  go_wp2_with fail
  refine (HF.out _).mono ?_
  rintro e w1 ⟨rfl, hb1⟩
  clear hBc0 hBf0 hBc1 hBf1 hBc2 hBf2 hBc3 hBf3
  clear hIc0 hIf0 hIc1 hIf1
  replace hB := hB.after hb1
  replace hI := hI.after hb1
  replace hBW := bt hBW hb1
  have hBc0 := hB.cell 0
  have hBf0 := hB.free 0
  have hBc1 := hB.cell 1
  have hBf1 := hB.free 1
  have hBc2 := hB.cell 2
  have hBf2 := hB.free 2
  have hBc3 := hB.cell 3
  have hBf3 := hB.free 3
  have hIc0 := hI.cell 0
  have hIf0 := hI.free 0
  have hIc1 := hI.cell 1
  have hIf1 := hI.free 1
  go_wp2_with fail
  refine (validE_c c _ HCB.out).mono ?_
  rintro e w' ⟨rfl, rfl⟩
  go_wp2_with fail
  refine (ivalidI_c z _ HZB.out).mono ?_
  rintro e w2 ⟨rfl, hb2⟩
  clear hBc0 hBf0 hBc1 hBf1 hBc2 hBf2 hBc3 hBf3
  clear hIc0 hIf0 hIc1 hIf1
  replace hB := hB.after hb2
  replace hI := hI.after hb2
  replace hBW := bt hBW hb2
  have hBc0 := hB.cell 0
  have hBf0 := hB.free 0
  have hBc1 := hB.cell 1
  have hBf1 := hB.free 1
  have hBc2 := hB.cell 2
  have hBf2 := hB.free 2
  have hBc3 := hB.cell 3
  have hBf3 := hB.free 3
  have hIc0 := hI.cell 0
  have hIf0 := hI.free 0
  have hIc1 := hI.cell 1
  have hIf1 := hI.free 1
  go_wp2_with fail
  refine (HPC.out _).mono ?_
  rintro e w3 ⟨rfl, hb3⟩
  clear hBc0 hBf0 hBc1 hBf1 hBc2 hBf2 hBc3 hBf3
  clear hIc0 hIf0 hIc1 hIf1
  replace hB := hB.after hb3
  replace hI := hI.after hb3
  replace hBW := bt hBW hb3
  have hBc0 := hB.cell 0
  have hBf0 := hB.free 0
  have hBc1 := hB.cell 1
  have hBf1 := hB.free 1
  have hBc2 := hB.cell 2
  have hBf2 := hB.free 2
  have hBc3 := hB.cell 3
  have hBf3 := hB.free 3
  have hIc0 := hI.cell 0
  have hIf0 := hI.free 0
  have hIc1 := hI.cell 1
  have hIf1 := hI.free 1
  clear hb1 hb2 hb3
  have hl3 : w.heap.size < w3.heap.size := hB.lt
  have hl3' : w.heap.size + 1 < w3.heap.size := hI.lt
  go_wp2_with fail
  go_region_held3 (fun w' => w'.cell? ⟨w.heap.size, 0, none⟩ = some (.string (E p)) ∧ w'.cell? ⟨w.heap.size, 1, none⟩ = some (.string (E q)) ∧ w'.cell? ⟨w.heap.size, 2, none⟩ = some (.string (E g)) ∧ w'.cell? ⟨w.heap.size + 1, 0, none⟩ = some (.bool (sg z)) ∧ w'.cell? ⟨w.heap.size + 1, 1, none⟩ = some (.string (E z.natAbs))) (first | exact ⟨d0, d1, d2, j0, j1⟩ | exact ⟨f0, f1, f2, i0, i1⟩ | go_keep)
    (first | (go_at_call 62; refine (HO.out _).mono ?_; rintro e wf ⟨rfl, hbf⟩; have hBf : Blk wf w.heap.size 26 [Value.string (E p), Value.string (E q), Value.string (E g), Value.string (E h)] := (by first | exact hB.drew.after hbf | exact (hB.alloc _).drew.after hbf); have hIf : Blk wf (w.heap.size + 1) 45 [.bool (sg z), .string (E z.natAbs)] := (by first | exact hI.drew.after hbf | exact (hI.alloc _).drew.after hbf); have hBWf : Below w.heap.size w wf := (by first | exact bt hBW.drew hbf | exact bt (ba hBW _).drew hbf); have f0 := hBf.cell 0; have f1 := hBf.cell 1; have f2 := hBf.cell 2; have i0 := hIf.cell 0; have i1 := hIf.cell 1; have hlf : w.heap.size < wf.heap.size := hBf.lt; have hlf' : w.heap.size + 1 < wf.heap.size := hIf.lt) | (go_at_call 97; refine (HPR.out _ _ _ (by first | exact ((Blk.new w3 _ _).drew.after hbf).alloc _ | exact blk2a _ _ _ _ _ | exact blk2b _ _ _ _ _ | exact ((Blk.new w3 _ _).drew.after hbf)) (by first | exact Blk.new _ _ _ | exact blk2a _ _ _ _ _ | exact blk2b _ _ _ _ _)).mono ?_; rintro e wd ⟨rfl, hbd⟩; have hBd : Blk wd w.heap.size 26 [Value.string (E p), Value.string (E q), Value.string (E g), Value.string (E h)] := (by first | exact ((hBf.alloc _).alloc _).after hbd | exact (hBf.alloc _).after hbd); have hId : Blk wd (w.heap.size + 1) 45 [.bool (sg z), .string (E z.natAbs)] := (by first | exact ((hIf.alloc _).alloc _).after hbd | exact (hIf.alloc _).after hbd); have hBWd : Below w.heap.size w wd := (by first | exact bt (ba (ba hBWf _) _) hbd | exact bt (ba hBWf _) hbd); have d0 := hBd.cell 0; have d1 := hBd.cell 1; have d2 := hBd.cell 2; have j0 := hId.cell 0; have j1 := hId.cell 1))
  all_goals go_wp2
  all_goals (go_ret2; exact ⟨rfl, by first | exact hBWd | exact hBWd.drew⟩)

end Go.Proofs.YtecobjddpinonaaGreat
end

section
set_option linter.unusedVariables false
set_option linter.unusedSimpArgs false
set_option maxRecDepth 100000
namespace Go.Proofs.YtecobjddpinonaaGreat
open Go.RowKit

theorem natAbs_i64 {v : Int} (h1 : -9223372036854775808 ≤ v) (h2 : v ≤ 9223372036854775807) : v.natAbs < 256 ^ 128 :=
  Nat.lt_of_le_of_lt (show v.natAbs ≤ 9223372036854775808 by omega) (by decide)

theorem shiftS_c (p q g h c : Nat) (z : Int) (w : World) (hp : p < 256 ^ 8) (hq : q < 256 ^ 128) (hgb : g < 256 ^ 128) (hhb : h < 256 ^ 128) (hcb : c < 256 ^ 128) (hzb : z.natAbs < 256 ^ 128)
    (he : pedE p q g h = 0) (hc : hasB p q c = true) (hg : hasB p q g = true) :
    Calls Tryz.prog 63 #[.agg #[.string (E p), .string (E q), .string (E g), .string (E h)], .string (E c), .agg #[.bool (sg (-z)), .string (E z.natAbs)]] w fun e w' => e = .returned (.tuple #[.string (E (shiftN p c g (-z))), .int .i64 0]) ∧ Below w.heap.size w w' := by
  have := shift_c p q g h c (-z) w hp hq hgb hhb hcb (by rw [Int.natAbs_neg]; exact hzb) he hc hg
  rwa [Int.natAbs_neg] at this

set_option maxHeartbeats 1600000 in
theorem shifted_c (p q g h c : Nat) (v : Int) (w : World) (hp : p < 256 ^ 8) (hq : q < 256 ^ 128) (hgb : g < 256 ^ 128) (hhb : h < 256 ^ 128) (hcb : c < 256 ^ 128) (h1 : -9223372036854775808 ≤ v) (h2 : v ≤ 9223372036854775807)
    (he : pedE p q g h = 0) (hc : hasB p q c = true) (hg : hasB p q g = true) :
    Calls Tryz.prog 35 #[.agg #[.string (E p), .string (E q), .string (E g), .string (E h)], .string (E c), .int .i64 v] w fun e w' => e = .returned (.string (E (shiftN p c g (-v)))) ∧ Below w.heap.size w w' := by
  have hvb := natAbs_i64 h1 h2
  have HVB := Lib.hid hvb
  have HSH := Lib.hid (fun w => shiftS_c p q g h c v w hp hq hgb hhb hcb hvb he hc hg)
  have HO := Lib.hid (fun w => iof_c v w h1 h2)
  have hB := Blk.new w #[Value.string (E p), Value.string (E q), Value.string (E g), Value.string (E h)] 26
  clear hp hq hgb hhb hcb he hc hg hvb
  have hBg0 := hB.gcell 0
  have hBg1 := hB.gcell 1
  have hBg2 := hB.gcell 2
  have hBg3 := hB.gcell 3
  go_enter Tryz.func35, Tryz.ntmps35
  go_wp2_with fail
  refine wp_region_gw (by kernel_rfl) (by kernel_rfl) ?_
  repeat (go_big_quiet_step (first | (go_at_call 62; exact gw_of (HO.out _)) | (go_at_call 64; exact gw_of (inegS_c v _ HVB.out)) | (go_at_call 63; exact gw_of (HSH.out _))))
  refine wpQuiet_nil ?_
  rintro w1 ⟨xw1, rfl⟩
  have hb1 := gw_below xw1
  generalize gw xw1 = w1 at hb1
  go_wp2
  go_ret
  exact ⟨rfl, bt (b1 _ _) hb1⟩

end Go.Proofs.YtecobjddpinonaaGreat
end
