/- For every key, commitment and list of values, dominolaw28.SetproofSets returns true and its arguments read as they did: setproof.Member and setproof.Outside return the clauses or the error of the reference. No condition. -/
import Derived.Test.YtecobjddpinonaaGreatVal1
import Derived.Deep.RegionHeld3
import Derived.Laws.OwnMore
import Derived.Test.YtecobjddpinonaaGreatRSet4
import Derived.Carry
import Derived.ChangeSlices
import Derived.WideKeyArgs
section
set_option linter.unusedVariables false
set_option linter.unusedSimpArgs false
set_option maxRecDepth 100000
namespace Go.Proofs.YtecobjddpinonaaGreat
open Go.RowKit

theorem keep5 {w : World} {b d : Nat} {T U : TypeId} {x y z u c : Value} (h : Blk w b T [x, y, z, u]) (k : Blk w d U [c]) : w.cell? ⟨b, 0, none⟩ = some x ∧ w.cell? ⟨b, 1, none⟩ = some y ∧ w.cell? ⟨b, 2, none⟩ = some z ∧ w.cell? ⟨b, 3, none⟩ = some u ∧ w.cell? ⟨d, 0, none⟩ = some c := ⟨h.cell 0, h.cell 1, h.cell 2, h.cell 3, k.cell 0⟩

theorem Blk.belowSet {w : World} {g r i : Nat} {T : TypeId} {cs : List Value} {v : Value} (h : Blk w g T cs) (hr : g < r) : Blk (w.setCell ⟨r, i, none⟩ v) g T cs := h.other _ _ (by simp; omega)

set_option maxHeartbeats 4000000 in
theorem mclo_c (p q g h c : Nat) (v : Int) (bk bc : Nat) (w : World) (hp : p < 256 ^ 8) (hq : q < 256 ^ 128) (hgb : g < 256 ^ 128) (hhb : h < 256 ^ 128) (hcb : c < 256 ^ 128) (h1 : -9223372036854775808 ≤ v) (h2 : v ≤ 9223372036854775807)
    (hpe : pedE p q g h = 0) (hc : hasB p q c = true) (hg : hasB p q g = true) (hB : Blk w bk 26 [Value.string (E p), Value.string (E q), Value.string (E g), Value.string (E h)]) (hC : Blk w bc 22 [.string (E c)]) :
    Calls Tryz.prog 54 #[.int .i64 v, .pointer (some ⟨bk, 0, none⟩), .pointer (some ⟨bc, 0, none⟩)] w (StmPost w p q (shiftN p c g (-v)) [h]) := by
  have HSH := Lib.hid (fun w => shifted_c p q g h c v w hp hq hgb hhb hcb h1 h2 hpe hc hg)
  generalize shiftN p c g (-v) = x at HSH ⊢
  have HST := Lib.hid (fun (w' : World) (b : Nat) (hs : Blk w' b 22 [.string (E h)]) => statement_c p q g h x 1 [h] (some ⟨b, 0, none⟩) w' rfl (by omega) (by omega) (strs1 hs))
  have hk1 : bk < w.heap.size := hB.lt
  have hk2 : bc < w.heap.size := hC.lt
  have hr := Blk.new w #[Value.slice none 0 0, Value.slice none 0 0, Value.slice none 0 0] 33
  have hBW := b1 w (.cells #[Value.slice none 0 0, Value.slice none 0 0, Value.slice none 0 0] 33)
  replace hB := hB.alloc (.cells #[Value.slice none 0 0, Value.slice none 0 0, Value.slice none 0 0] 33)
  replace hC := hC.alloc (.cells #[Value.slice none 0 0, Value.slice none 0 0, Value.slice none 0 0] 33)
  clear hp hq hgb hhb hcb hpe hc hg
  go_enter Tryz.func54, Tryz.ntmps54
  go_wp2_with fail
  generalize w.alloc (.cells #[Value.slice none 0 0, Value.slice none 0 0, Value.slice none 0 0] 33) = w1 at hr hBW hB hC
  obtain ⟨R, hR⟩ : ∃ R, w.heap.size = R := ⟨_, rfl⟩
  replace hr : Blk w1 w.heap.size 33 [.slice none 0 0, .slice none 0 0, .slice none 0 0] := hr
  rw [hR] at hr hk1 hk2
  have hRW : w.heap.size ≤ R := by omega
  simp only [hR]
  clear hR
  have y2 : R < w1.heap.size := hr.lt
  have y0 : bk < w1.heap.size := hB.lt
  have y1 : bc < w1.heap.size := hC.lt
  have hBc0 := hB.cell 0
  have hBc1 := hB.cell 1
  have hBc2 := hB.cell 2
  have hBc3 := hB.cell 3
  have hCc0 := hC.cell 0
  go_region_held3 (fun w' => w'.cell? ⟨bk, 0, none⟩ = some (.string (E p)) ∧ w'.cell? ⟨bk, 1, none⟩ = some (.string (E q)) ∧ w'.cell? ⟨bk, 2, none⟩ = some (.string (E g)) ∧ w'.cell? ⟨bk, 3, none⟩ = some (.string (E h)) ∧ w'.cell? ⟨bc, 0, none⟩ = some (.string (E c))) ((refine keep5 (T := 26) (U := 22) ?_ ?_ <;> repeat (first | (with_reducible exact hBd) | (with_reducible exact hCd) | (with_reducible exact hBf) | (with_reducible exact hCf) | (with_reducible exact hB) | (with_reducible exact hC) | (with_reducible refine Blk.drew ?_) | (with_reducible refine Blk.alloc ?_ _) | (with_reducible refine Blk.belowSet ?_ hk1) | (with_reducible refine Blk.belowSet ?_ hk2))))
    (first | (go_at_call 35; refine (HSH.out _).mono ?_; rintro e wf ⟨rfl, hbf⟩; have hBf : Blk wf bk 26 [Value.string (E p), Value.string (E q), Value.string (E g), Value.string (E h)] := (by first | (with_reducible exact hB.drew.after hbf) | (with_reducible exact (hB.alloc _).drew.after hbf)); have hCf : Blk wf bc 22 [.string (E c)] := (by first | (with_reducible exact hC.drew.after hbf) | (with_reducible exact (hC.alloc _).drew.after hbf)); have hrf : Blk wf R 33 [.slice none 0 0, .slice none 0 0, .slice none 0 0] := (by first | (with_reducible exact hr.drew.after hbf) | (with_reducible exact (hr.alloc _).drew.after hbf)); have hBWf : Below w.heap.size w wf := (by first | (with_reducible exact bt hBW.drew hbf) | (with_reducible exact bt (ba hBW _).drew hbf)); have y3 : R < wf.heap.size := hrf.lt) | (go_at_call 34; refine (HST.out _ _ (by first | (with_reducible exact ((Blk.new w1 _ _).drew.after hbf)) | (with_reducible exact Blk.new _ _ _))).mono ?_; rintro e wd ⟨g1, g2, g3, g4, c1, c2, c3, c4, rfl, hstm, ⟨k1, k2, k3, k4⟩, hbd⟩; have hBd : Blk wd bk 26 [Value.string (E p), Value.string (E q), Value.string (E g), Value.string (E h)] := (by first | (with_reducible exact hBf.after hbd) | (with_reducible exact (hBf.alloc _).after hbd)); have hCd : Blk wd bc 22 [.string (E c)] := (by first | (with_reducible exact hCf.after hbd) | (with_reducible exact (hCf.alloc _).after hbd)); have hrd : Blk wd R 33 [.slice none 0 0, .slice none 0 0, .slice none 0 0] := (by first | (with_reducible exact hrf.after hbd) | (with_reducible exact (hrf.alloc _).after hbd)); have hBWd : Below w.heap.size w wd := (by first | (with_reducible exact bt hBWf hbd) | (with_reducible exact bt (ba hBWf _) hbd)); have r0 := hrd.cell 0; have r1 := hrd.cell 1; have r2 := hrd.cell 2; have q0 := hrd.free 0; have q1 := hrd.free 1; have q2 := hrd.free 2))
  all_goals go_wp2
  all_goals
    have z1 : R < g1 := (by first | omega | (simp only [World.size_alloc] at k1; omega))
    have z2 : R < g2 := (by first | omega | (simp only [World.size_alloc] at k2; omega))
    have z3 : R < g3 := (by first | omega | (simp only [World.size_alloc] at k3; omega))
    have z4 : R < g4 := (by first | omega | (simp only [World.size_alloc] at k4; omega))
    refine bodyPost_ret (v := .agg #[.slice (some ⟨g1, 0, none⟩) 1 c1, .slice (some ⟨g2, 0, none⟩) 1 c2, .slice (some ⟨g3, 0, none⟩) 1 c3]) ?_ rfl ⟨g1, g2, g3, g4, c1, c2, c3, c4, rfl, ?_, ⟨by omega, by omega, by omega, by omega⟩, ?_⟩
    · simp [results, Tryz.results54, go_sem, r0, r1, r2]
    · exact ((hstm.set (by omega) (by omega) (by omega) (by omega)).set (by omega) (by omega) (by omega) (by omega)).set (by omega) (by omega) (by omega) (by omega)
    · exact ((hBWd.setCell hRW _).setCell hRW _).setCell hRW _

set_option maxHeartbeats 4000000 in
theorem oclo_c (p q g h c : Nat) (v : Int) (bk bc : Nat) (w : World) (hp : p < 256 ^ 8) (hq : q < 256 ^ 128) (hgb : g < 256 ^ 128) (hhb : h < 256 ^ 128) (hcb : c < 256 ^ 128) (h1 : -9223372036854775808 ≤ v) (h2 : v ≤ 9223372036854775807)
    (hpe : pedE p q g h = 0) (hc : hasB p q c = true) (hg : hasB p q g = true) (hB : Blk w bk 26 [Value.string (E p), Value.string (E q), Value.string (E g), Value.string (E h)]) (hC : Blk w bc 22 [.string (E c)]) :
    Calls Tryz.prog 56 #[.int .i64 v, .pointer (some ⟨bk, 0, none⟩), .pointer (some ⟨bc, 0, none⟩)] w (StmPost w p q g [shiftN p c g (-v), h]) := by
  have HSH := Lib.hid (fun w => shifted_c p q g h c v w hp hq hgb hhb hcb h1 h2 hpe hc hg)
  generalize shiftN p c g (-v) = x at HSH ⊢
  have HST := Lib.hid (fun (w' : World) (b : Nat) (hs : Blk w' b 22 [.string (E x), .string (E h)]) => statement_c p q g h g 2 [x, h] (some ⟨b, 0, none⟩) w' rfl (by omega) (by omega) (strs2 hs))
  have hk1 : bk < w.heap.size := hB.lt
  have hk2 : bc < w.heap.size := hC.lt
  have hr := Blk.new w #[Value.slice none 0 0, Value.slice none 0 0, Value.slice none 0 0] 33
  have hBW := b1 w (.cells #[Value.slice none 0 0, Value.slice none 0 0, Value.slice none 0 0] 33)
  replace hB := hB.alloc (.cells #[Value.slice none 0 0, Value.slice none 0 0, Value.slice none 0 0] 33)
  replace hC := hC.alloc (.cells #[Value.slice none 0 0, Value.slice none 0 0, Value.slice none 0 0] 33)
  clear hp hq hgb hhb hcb hpe hc hg
  go_enter Tryz.func56, Tryz.ntmps56
  go_wp2_with fail
  generalize w.alloc (.cells #[Value.slice none 0 0, Value.slice none 0 0, Value.slice none 0 0] 33) = w1 at hr hBW hB hC
  obtain ⟨R, hR⟩ : ∃ R, w.heap.size = R := ⟨_, rfl⟩
  replace hr : Blk w1 w.heap.size 33 [.slice none 0 0, .slice none 0 0, .slice none 0 0] := hr
  rw [hR] at hr hk1 hk2
  have hRW : w.heap.size ≤ R := by omega
  simp only [hR]
  clear hR
  have y2 : R < w1.heap.size := hr.lt
  have y0 : bk < w1.heap.size := hB.lt
  have y1 : bc < w1.heap.size := hC.lt
  have hBc0 := hB.cell 0
  have hBc1 := hB.cell 1
  have hBc2 := hB.cell 2
  have hBc3 := hB.cell 3
  have hCc0 := hC.cell 0
  go_region_held3 (fun w' => w'.cell? ⟨bk, 0, none⟩ = some (.string (E p)) ∧ w'.cell? ⟨bk, 1, none⟩ = some (.string (E q)) ∧ w'.cell? ⟨bk, 2, none⟩ = some (.string (E g)) ∧ w'.cell? ⟨bk, 3, none⟩ = some (.string (E h)) ∧ w'.cell? ⟨bc, 0, none⟩ = some (.string (E c))) ((refine keep5 (T := 26) (U := 22) ?_ ?_ <;> repeat (first | (with_reducible exact hBd) | (with_reducible exact hCd) | (with_reducible exact hBf) | (with_reducible exact hCf) | (with_reducible exact hB) | (with_reducible exact hC) | (with_reducible refine Blk.drew ?_) | (with_reducible refine Blk.alloc ?_ _) | (with_reducible refine Blk.belowSet ?_ hk1) | (with_reducible refine Blk.belowSet ?_ hk2))))
    (first | (go_at_call 35; refine (HSH.out _).mono ?_; rintro e wf ⟨rfl, hbf⟩; have hBf : Blk wf bk 26 [Value.string (E p), Value.string (E q), Value.string (E g), Value.string (E h)] := (by first | (with_reducible exact hB.drew.after hbf) | (with_reducible exact (hB.alloc _).drew.after hbf)); have hCf : Blk wf bc 22 [.string (E c)] := (by first | (with_reducible exact hC.drew.after hbf) | (with_reducible exact (hC.alloc _).drew.after hbf)); have hrf : Blk wf R 33 [.slice none 0 0, .slice none 0 0, .slice none 0 0] := (by first | (with_reducible exact hr.drew.after hbf) | (with_reducible exact (hr.alloc _).drew.after hbf)); have hBWf : Below w.heap.size w wf := (by first | (with_reducible exact bt hBW.drew hbf) | (with_reducible exact bt (ba hBW _).drew hbf)); have y3 : R < wf.heap.size := hrf.lt) | (go_at_call 34; refine (HST.out _ _ (by first | (with_reducible exact ((Blk.new w1 _ _).drew.after hbf)) | (with_reducible exact Blk.new _ _ _))).mono ?_; rintro e wd ⟨g1, g2, g3, g4, c1, c2, c3, c4, rfl, hstm, ⟨k1, k2, k3, k4⟩, hbd⟩; have hBd : Blk wd bk 26 [Value.string (E p), Value.string (E q), Value.string (E g), Value.string (E h)] := (by first | (with_reducible exact hBf.after hbd) | (with_reducible exact (hBf.alloc _).after hbd)); have hCd : Blk wd bc 22 [.string (E c)] := (by first | (with_reducible exact hCf.after hbd) | (with_reducible exact (hCf.alloc _).after hbd)); have hrd : Blk wd R 33 [.slice none 0 0, .slice none 0 0, .slice none 0 0] := (by first | (with_reducible exact hrf.after hbd) | (with_reducible exact (hrf.alloc _).after hbd)); have hBWd : Below w.heap.size w wd := (by first | (with_reducible exact bt hBWf hbd) | (with_reducible exact bt (ba hBWf _) hbd)); have r0 := hrd.cell 0; have r1 := hrd.cell 1; have r2 := hrd.cell 2; have q0 := hrd.free 0; have q1 := hrd.free 1; have q2 := hrd.free 2))
  all_goals go_wp2
  all_goals
    have z1 : R < g1 := (by first | omega | (simp only [World.size_alloc] at k1; omega))
    have z2 : R < g2 := (by first | omega | (simp only [World.size_alloc] at k2; omega))
    have z3 : R < g3 := (by first | omega | (simp only [World.size_alloc] at k3; omega))
    have z4 : R < g4 := (by first | omega | (simp only [World.size_alloc] at k4; omega))
    refine bodyPost_ret (v := .agg #[.slice (some ⟨g1, 0, none⟩) 1 c1, .slice (some ⟨g2, 0, none⟩) 2 c2, .slice (some ⟨g3, 0, none⟩) 1 c3]) ?_ rfl ⟨g1, g2, g3, g4, c1, c2, c3, c4, rfl, ?_, ⟨by omega, by omega, by omega, by omega⟩, ?_⟩
    · simp [results, Tryz.results56, go_sem, r0, r1, r2]
    · exact ((hstm.set (by omega) (by omega) (by omega) (by omega)).set (by omega) (by omega) (by omega) (by omega)).set (by omega) (by omega) (by omega) (by omega)
    · exact ((hBWd.setCell hRW _).setCell hRW _).setCell hRW _

end Go.Proofs.YtecobjddpinonaaGreat
end

section
set_option linter.unusedVariables false
set_option linter.unusedSimpArgs false
set_option maxRecDepth 100000
namespace Go.Proofs.YtecobjddpinonaaGreat
open Go.RowKit Go.Shelf

set_option maxHeartbeats 800000 in
theorem leaf_c (w : World) :
    Calls Tryz.prog 91 #[] w fun e w' => ∃ b, e = .returned (.agg #[.slice (some ⟨b, 0, none⟩) 1 1]) ∧ Blk w' b 136 [.int .i64 0, .slice none 0 0, .int .i64 0] ∧ w.heap.size ≤ b ∧ Below w.heap.size w w' := by
  go_enter Tryz.func91, Tryz.ntmps91
  go_wp2
  refine bodyPost_ret (v := .agg #[.slice (some ⟨w.heap.size + 1, 0, none⟩) 1 1]) ?_ rfl ⟨w.heap.size + 1, rfl, ?_, by omega, ?_⟩
  · simp [results, Tryz.results91, go_sem]
  · exact blk2b w _ #[.int .i64 0, .slice none 0 0, .int .i64 0] 66 136
  · exact b2 _ _ _

set_option maxHeartbeats 1600000 in
theorem visit_c (s gb : Nat) (vp : Value) (w0 w : World) (hg : gb < s) (hF : Blk w s 66 [.slice (some ⟨gb, 0, none⟩) 1 1]) (hN : Blk w (s + 1) 3 [.int .i64 0]) (hC : Blk w (s + 2) 3 [.int .i64 0]) (hG : Blk w gb 136 [.int .i64 0, .slice none 0 0, .int .i64 0]) (hb : Below s w0 w) :
    Calls Tryz.prog 161 #[.int .i64 0, .pointer (some ⟨s + 1, 0, none⟩), .pointer (some ⟨s, 0, none⟩), .pointer (some ⟨s + 2, 0, none⟩), vp] w fun e w' => e = .returned (.bool true) ∧ Blk w' s 66 [.slice (some ⟨gb, 0, none⟩) 1 1] ∧ Blk w' (s + 1) 3 [.int .i64 1] ∧ Blk w' (s + 2) 3 [.int .i64 1] ∧ Below s w0 w' := by
  have l1 : s + 2 < w.heap.size := hC.lt
  have l2 : s + 1 < w.heap.size := hN.lt
  have l3 : s < w.heap.size := hF.lt
  have l4 : gb < w.heap.size := hG.lt
  have n1 : gb ≠ s + 1 := by omega
  have n2 : gb ≠ s + 2 := by omega
  have n3 : s + 1 ≠ gb := by omega
  have n4 : s + 2 ≠ gb := by omega
  have hFc0 := hF.cell 0
  have hFf0 := hF.free 0
  have hNc0 := hN.cell 0
  have hNf0 := hN.free 0
  have hCc0 := hC.cell 0
  have hCf0 := hC.free 0
  have hGc0 := hG.cell 0
  have hGf0 := hG.free 0
  have hGc1 := hG.cell 1
  have hGf1 := hG.free 1
  have hGc2 := hG.cell 2
  have hGf2 := hG.free 2
  go_enter Tryz.func161, Tryz.ntmps161
  go_wp2
  go_ret
  exact ⟨rfl, ((hF.other ⟨s + 1, 0, none⟩ _ (by simp)).other ⟨s + 2, 0, none⟩ _ (by simp)).alloc _, ((hN.set 0 _).other ⟨s + 2, 0, none⟩ _ (by simp)).alloc _, ((hC.other ⟨s + 1, 0, none⟩ _ (by simp)).set 0 _).alloc _, ((hb.setCell (show s ≤ s + 1 by omega) _).setCell (show s ≤ s + 2 by omega) _).trans (b1 _ _ |>.mono (by simp; omega))⟩

set_option maxHeartbeats 1600000 in
theorem leaves_c (gb : Nat) (w : World) (hG : Blk w gb 136 [.int .i64 0, .slice none 0 0, .int .i64 0]) :
    Calls Tryz.prog 128 #[.agg #[.slice (some ⟨gb, 0, none⟩) 1 1]] w fun e w' => e = .returned (.tuple #[.int .i64 1, .bool true]) ∧ Below w.heap.size w w' := by
  have hg := hG.lt
  have hsf := fun (a : Addr) (c : Array Value) (w : World) => run_store Tryz.prog w a (.func (.func 161) #[] c) .plain rfl
  go_enter Tryz.func128, Tryz.ntmps128
  go_wp2_with fail
  refine (visit_c w.heap.size gb _ w _ hg ((blk3a w #[.slice (some ⟨gb, 0, none⟩) 1 1] #[.int .i64 0] #[.int .i64 0] 66 3 3).alloc _) ((blk3b w #[.slice (some ⟨gb, 0, none⟩) 1 1] #[.int .i64 0] #[.int .i64 0] 66 3 3).alloc _) ((blk3c w #[.slice (some ⟨gb, 0, none⟩) 1 1] #[.int .i64 0] #[.int .i64 0] 66 3 3).alloc _) ((((hG.alloc _).alloc _).alloc _).alloc _) (ba (b3 _ _ _ _) _)).mono ?_
  rintro e w2 ⟨rfl, hF2, hN2, hC2, hb2⟩
  replace hC2 : Blk w2 (w.heap.size + 1 + 1) 3 [.int .i64 1] := hC2
  have l1 : w.heap.size < w2.heap.size := hF2.lt
  have l2 : w.heap.size + 1 < w2.heap.size := hN2.lt
  have l3 : w.heap.size + 1 + 1 < w2.heap.size := hC2.lt
  go_wp2_with fail
  have hF2g0 := hF2.gcell 0
  have hN2g0 := hN2.gcell 0
  have hC2g0 := hC2.gcell 0
  go_wp2_with fail
  refine wp_region_gw (by kernel_rfl) (by kernel_rfl) ?_
  repeat (go_big_quiet_step (first | (fail)))
  refine wpQuiet_nil ?_
  rintro w3 ⟨xw3, rfl⟩
  have hb3 := gw_below xw3
  generalize gw xw3 = w3 at hb3
  go_wp2
  go_ret2
  exact ⟨rfl, bt hb2 hb3⟩

end Go.Proofs.YtecobjddpinonaaGreat
end

section
set_option linter.unusedVariables false
set_option linter.unusedSimpArgs false
set_option maxRecDepth 100000
namespace Go.Proofs.YtecobjddpinonaaGreat
open Go.RowKit Go.Shelf

theorem cell_of_heap {w w' : World} {a : Addr} (h : w'.heap[a.block]? = w.heap[a.block]?) : w'.cell? a = w.cell? a := by simp only [World.cell?, h]

/-- a row whose first cell is another one than a block's -/
theorem own_ne_cell {w : World} {base n size g : Nat} {e : TypeId} {v u u' : Value} {xs : List Value} (h : w.ownsRow base e size v n xs) (hx : xs[0]? = some u) (hg : w.cell? ⟨g, 0, none⟩ = some u') (hne : u ≠ u') : v.ownBlock ≠ some g := by
  intro ho
  have h0 := h
  rcases h.2 with ⟨rfl, h2⟩ | ⟨b, cap, cur, rfl, _⟩
  · simp [Value.ownBlock] at ho
  · have : b = g := by simpa [Value.ownBlock] using ho
    subst this
    have := own_cellS h0 0 u hx
    rw [this] at hg
    exact hne (by simpa using hg)

theorem Stm.keep {w w' : World} {g1 g2 g3 g4 c4 p q t : Nat} {B : List Nat} (h : Stm w g1 g2 g3 g4 c4 p q t B) (hs : w.heap.size ≤ w'.heap.size) (k1 : w'.heap[g1]? = w.heap[g1]?) (k2 : w'.heap[g2]? = w.heap[g2]?) (k3 : w'.heap[g3]? = w.heap[g3]?) (k4 : w'.heap[g4]? = w.heap[g4]?) : Stm w' g1 g2 g3 g4 c4 p q t B :=
  ⟨Nat.lt_of_lt_of_le h.l1 hs, Nat.lt_of_lt_of_le h.l2 hs, Nat.lt_of_lt_of_le h.l3 hs, Nat.lt_of_lt_of_le h.l4 hs,
   (cell_of_heap (a := ⟨g1, 0, none⟩) k1).trans h.m0, (cell_of_heap (a := ⟨g1, 1, none⟩) k1).trans h.m1, fun j hj => (cell_of_heap (a := ⟨g2, j, none⟩) k2).trans (h.vs j hj),
   (cell_of_heap (a := ⟨g3, 0, none⟩) k3).trans h.e0, (cell_of_heap (a := ⟨g3, 1, none⟩) k3).trans h.e1, (cell_of_heap (a := ⟨g3, 2, none⟩) k3).trans h.e2,
   fun j hj => (cell_of_heap (a := ⟨g4, j * 4, none⟩) k4).trans (h.t0 j hj), fun j hj => (cell_of_heap (a := ⟨g4, j * 4 + 1, none⟩) k4).trans (h.t1 j hj),
   fun j hj => (cell_of_heap (a := ⟨g4, j * 4 + 2, none⟩) k4).trans (h.t2 j hj), fun j hj => (cell_of_heap (a := ⟨g4, j * 4 + 3, none⟩) k4).trans (h.t3 j hj), h.cap⟩

/-- a statement with one group and at least one base lies apart from a row of slices -/
theorem Stm.grown {w w' : World} {g1 g2 g3 g4 c4 p q t : Nat} {B : List Nat} (h : Stm w g1 g2 g3 g4 c4 p q t B) (hB : 0 < B.length) {base n size : Nat} {e : TypeId} {v : Value} {xs : List Value} (k : w.ownsRow base e size v n xs)
    (hx : xs = [] ∨ ∃ a m c, xs[0]? = some (.slice a m c)) (hnil : xs = [] → v.ownBlock = none) (hg : w.grownBy w' v.ownBlock) : Stm w' g1 g2 g3 g4 c4 p q t B := by
  have ne : ∀ {g : Nat} {u : Value}, w.cell? ⟨g, 0, none⟩ = some u → (∀ a m c, u ≠ .slice a m c) → v.ownBlock ≠ some g := by
    intro g u hu hne
    rcases hx with hx | ⟨a, m, c, hx⟩
    · rw [hnil hx]; simp
    · exact own_ne_cell k hx hu (fun e => hne a m c e.symm)
  refine h.keep hg.size (hg.block g1 h.l1 (fun e => ne h.m0 (by simp) e.symm)) (hg.block g2 h.l2 (fun e => ne (h.vs 0 hB) (by simp) e.symm)) (hg.block g3 h.l3 (fun e => ne h.e0 (by simp) e.symm)) (hg.block g4 h.l4 (fun e => ne (g := g4) (u := .string (E B[0])) (by simpa using h.t0 0 hB) (by simp) e.symm))

/-- a row of statements: target and bases of each leaf -/
def CLs (w : World) (base : Nat) (v : Value) (p q : Nat) (L : List (Nat × List Nat)) : Prop := ∃ xs, w.ownsRow base 33 3 v L.length xs ∧ ∀ j (h : j < L.length), ∃ g1 g2 g3 g4 c1 c2 c3 c4 : Nat,
  xs[j * 3]? = some (.slice (some ⟨g1, 0, none⟩) 1 c1) ∧ xs[j * 3 + 1]? = some (.slice (some ⟨g2, 0, none⟩) L[j].2.length c2) ∧ xs[j * 3 + 2]? = some (.slice (some ⟨g3, 0, none⟩) 1 c3) ∧ Stm w g1 g2 g3 g4 c4 p q L[j].1 L[j].2 ∧ (base ≤ g1 ∧ base ≤ g2 ∧ base ≤ g3 ∧ base ≤ g4)

theorem CLs.nil (w : World) (base p q : Nat) : CLs w base (.slice none 0 0) p q [] := ⟨[], World.ownsRow_nil _ _ _ _, fun j h => absurd h (Nat.not_lt_zero _)⟩

theorem CLs.after {w w' : World} {base p q : Nat} {v : Value} {L : List (Nat × List Nat)} (h : CLs w base v p q L) (hb : Below w.heap.size w w') : CLs w' base v p q L := by
  obtain ⟨xs, h1, h2⟩ := h
  refine ⟨xs, own_after h1 hb, fun j hj => ?_⟩
  obtain ⟨g1, g2, g3, g4, c1, c2, c3, c4, x1, x2, x3, x4, x5⟩ := h2 j hj
  exact ⟨g1, g2, g3, g4, c1, c2, c3, c4, x1, x2, x3, x4.after hb, x5⟩

/-- a store below the base -/
theorem CLs.set {w : World} {base p q r i : Nat} {v u : Value} {L : List (Nat × List Nat)} (h : CLs w base v p q L) (hr : r < base) : CLs (w.setCell ⟨r, i, none⟩ u) base v p q L := by
  obtain ⟨xs, h1, h2⟩ := h
  refine ⟨xs, own_set h1 (fun e => ?_), fun j hj => ?_⟩
  · have := (own_lt h1 e).2; omega
  · obtain ⟨g1, g2, g3, g4, c1, c2, c3, c4, x1, x2, x3, x4, y1, y2, y3, y4⟩ := h2 j hj
    exact ⟨g1, g2, g3, g4, c1, c2, c3, c4, x1, x2, x3, x4.set (by omega) (by omega) (by omega) (by omega), y1, y2, y3, y4⟩

theorem row_first {w : World} {base n size : Nat} {e : TypeId} {v : Value} {xs : List Value} (h : w.ownsRow base e size v n xs) (hs : 0 < size) (hv : ∀ b c, v ≠ .slice (some b) 0 c) : xs = [] → v.ownBlock = none := by
  rintro rfl
  have h0 : n = 0 := by
    have hm : 0 = n * size := h.1
    rcases Nat.mul_eq_zero.1 hm.symm with h | h
    · exact h
    · omega
  rcases h.2 with ⟨rfl, _⟩ | ⟨b, cap, cur, rfl, _⟩
  · rfl
  · subst h0; exact absurd rfl (hv _ _)

/-- another row of slices has grown -/
theorem CLs.grown {w w' : World} {base p q : Nat} {v : Value} {L : List (Nat × List Nat)} (h : CLs w base v p q L) (hL : ∀ x ∈ L, 0 < x.2.length) {base' n size : Nat} {e : TypeId} {v' : Value} {ys : List Value} (k : w.ownsRow base' e size v' n ys) (he : e ≠ 33)
    (hx : ys = [] ∨ ∃ a m c, ys[0]? = some (.slice a m c)) (hnil : ys = [] → v'.ownBlock = none) (hg : w.grownBy w' v'.ownBlock) : CLs w' base v p q L := by
  obtain ⟨xs, h1, h2⟩ := h
  refine ⟨xs, own_keep h1 fun g hv => hg.block g (own_lt h1 hv).1 (fun e' => own_ne2 h1 k (Ne.symm he) hv e'.symm), fun j hj => ?_⟩
  obtain ⟨g1, g2, g3, g4, c1, c2, c3, c4, x1, x2, x3, x4, x5⟩ := h2 j hj
  exact ⟨g1, g2, g3, g4, c1, c2, c3, c4, x1, x2, x3, x4.grown (hL _ (List.getElem_mem hj)) k hx hnil hg, x5⟩

/-- a leaf is appended -/
theorem CLs.push {w w' : World} {base p q t g1 g2 g3 g4 c1 c2 c3 c4 : Nat} {v v' : Value} {B : List Nat} {L : List (Nat × List Nat)} {xs : List Value} (h1 : w.ownsRow base 33 3 v L.length xs) (h2 : ∀ j (h : j < L.length), ∃ g1 g2 g3 g4 c1 c2 c3 c4 : Nat,
      xs[j * 3]? = some (.slice (some ⟨g1, 0, none⟩) 1 c1) ∧ xs[j * 3 + 1]? = some (.slice (some ⟨g2, 0, none⟩) L[j].2.length c2) ∧ xs[j * 3 + 2]? = some (.slice (some ⟨g3, 0, none⟩) 1 c3) ∧ Stm w g1 g2 g3 g4 c4 p q L[j].1 L[j].2 ∧ (base ≤ g1 ∧ base ≤ g2 ∧ base ≤ g3 ∧ base ≤ g4))
    (hL : ∀ x ∈ L, 0 < x.2.length) (hnil : xs = [] → v.ownBlock = none) (hs : Stm w g1 g2 g3 g4 c4 p q t B) (hB : 0 < B.length) (hk : base ≤ g1 ∧ base ≤ g2 ∧ base ≤ g3 ∧ base ≤ g4)
    (hg : w.grownBy w' v.ownBlock) (ho : w'.ownsRow base 33 3 v' (L.length + 1) (xs ++ [.slice (some ⟨g1, 0, none⟩) 1 c1, .slice (some ⟨g2, 0, none⟩) B.length c2, .slice (some ⟨g3, 0, none⟩) 1 c3])) : CLs w' base v' p q (L ++ [(t, B)]) := by
  have hl : xs.length = L.length * 3 := h1.1
  have hx : xs = [] ∨ ∃ a m c, xs[0]? = some (.slice a m c) := by
    by_cases h0 : 0 < L.length
    · obtain ⟨a1, a2, a3, a4, d1, d2, d3, d4, x1, _⟩ := h2 0 h0
      exact .inr ⟨_, _, _, by simpa using x1⟩
    · exact .inl (List.length_eq_zero_iff.1 (by omega))
  refine ⟨_, by simpa using ho, fun j hj => ?_⟩
  by_cases hjl : j < L.length
  · obtain ⟨a1, a2, a3, a4, d1, d2, d3, d4, x1, x2, x3, x4, x5⟩ := h2 j hjl
    refine ⟨a1, a2, a3, a4, d1, d2, d3, d4, ?_, ?_, ?_, ?_, x5⟩
    · rw [List.getElem?_append_left (by omega)]; exact x1
    · rw [List.getElem?_append_left (by omega), List.getElem_append_left hjl]; exact x2
    · rw [List.getElem?_append_left (by omega)]; exact x3
    · rw [List.getElem_append_left hjl]; exact x4.grown (hL _ (List.getElem_mem hjl)) h1 hx hnil hg
  · have hjj : j = L.length := by simp at hj; omega
    subst hjj
    refine ⟨g1, g2, g3, g4, c1, c2, c3, c4, ?_, ?_, ?_, ?_, hk⟩
    · rw [List.getElem?_append_right (by omega), hl]; simp
    · rw [List.getElem?_append_right (by omega), hl, show L.length * 3 + 1 - L.length * 3 = 1 by omega]; simp
    · rw [List.getElem?_append_right (by omega), hl, show L.length * 3 + 2 - L.length * 3 = 2 by omega]; simp
    · simpa using hs.grown hB h1 hx hnil hg

end Go.Proofs.YtecobjddpinonaaGreat
end

section
set_option linter.unusedVariables false
set_option linter.unusedSimpArgs false
set_option maxRecDepth 100000
namespace Go.Proofs.YtecobjddpinonaaGreat
open Go.RowKit Go.Shelf

/-- a row of formulas of one leaf each -/
def FAt (w : World) (base : Nat) (v : Value) (n : Nat) : Prop := ∃ xs, w.ownsRow base 66 1 v n xs ∧ ∀ j, j < n → ∃ b, xs[j]? = some (.slice (some ⟨b, 0, none⟩) 1 1) ∧ Blk w b 136 [.int .i64 0, .slice none 0 0, .int .i64 0] ∧ base ≤ b

theorem FAt.nil (w : World) (base : Nat) : FAt w base (.slice none 0 0) 0 := ⟨[], World.ownsRow_nil _ _ _ _, fun j h => absurd h (Nat.not_lt_zero _)⟩

theorem FAt.after {w w' : World} {base n : Nat} {v : Value} (h : FAt w base v n) (hb : Below w.heap.size w w') : FAt w' base v n := by
  obtain ⟨xs, h1, h2⟩ := h
  refine ⟨xs, own_after h1 hb, fun j hj => ?_⟩
  obtain ⟨b, x1, x2, x3⟩ := h2 j hj
  exact ⟨b, x1, x2.after hb, x3⟩

theorem FAt.set {w : World} {base n r i : Nat} {v u : Value} (h : FAt w base v n) (hr : r < base) : FAt (w.setCell ⟨r, i, none⟩ u) base v n := by
  obtain ⟨xs, h1, h2⟩ := h
  refine ⟨xs, own_set h1 (fun e => ?_), fun j hj => ?_⟩
  · have := (own_lt h1 e).2; omega
  · obtain ⟨b, x1, x2, x3⟩ := h2 j hj
    exact ⟨b, x1, x2.other _ _ (by simp; omega), x3⟩

/-- another row has grown -/
theorem FAt.grown {w w' : World} {base n : Nat} {v : Value} (h : FAt w base v n) {base' n' size : Nat} {e : TypeId} {v' : Value} {ys : List Value} (k : w.ownsRow base' e size v' n' ys) (he : e ≠ 66) (he2 : e ≠ 136) (hg : w.grownBy w' v'.ownBlock) : FAt w' base v n := by
  obtain ⟨xs, h1, h2⟩ := h
  refine ⟨xs, own_keep h1 fun g hv => hg.block g (own_lt h1 hv).1 (fun e' => own_ne2 h1 k (Ne.symm he) hv e'.symm), fun j hj => ?_⟩
  obtain ⟨b, x1, x2, x3⟩ := h2 j hj
  exact ⟨b, x1, x2.grown hg (own_ne k x2 he2), x3⟩

theorem FAt.push {w w' : World} {base n b : Nat} {v v' : Value} {xs : List Value} (h1 : w.ownsRow base 66 1 v n xs) (h2 : ∀ j, j < n → ∃ b, xs[j]? = some (.slice (some ⟨b, 0, none⟩) 1 1) ∧ Blk w b 136 [.int .i64 0, .slice none 0 0, .int .i64 0] ∧ base ≤ b)
    (hb : Blk w b 136 [.int .i64 0, .slice none 0 0, .int .i64 0]) (hk : base ≤ b) (hg : w.grownBy w' v.ownBlock) (ho : w'.ownsRow base 66 1 v' (n + 1) (xs ++ [.slice (some ⟨b, 0, none⟩) 1 1])) : FAt w' base v' (n + 1) := by
  have hl : xs.length = n := by have := h1.1; omega
  refine ⟨_, ho, fun j hj => ?_⟩
  by_cases hjl : j < n
  · obtain ⟨d, x1, x2, x3⟩ := h2 j hjl
    exact ⟨d, by rw [List.getElem?_append_left (by omega)]; exact x1, x2.grown hg (own_ne h1 x2 (by decide)), x3⟩
  · have hjj : j = n := by omega
    subst hjj
    exact ⟨b, by rw [List.getElem?_append_right (by omega), hl]; simp, hb.grown hg (own_ne h1 hb (by decide)), hk⟩

end Go.Proofs.YtecobjddpinonaaGreat
end

section
set_option linter.unusedVariables false
set_option linter.unusedSimpArgs false
set_option maxRecDepth 100000
namespace Go.Proofs.YtecobjddpinonaaGreat
open Go.RowKit Go.Shelf

/-- the cells of a formula with one gate over leaves -/
def gls (n : Nat) : List Value := (List.range n).flatMap fun (j : Nat) => [.int .i64 0, .slice none 0 0, .int .i64 (j : Int)]
def gcs (need : Int) (kv : Value) (n : Nat) : List Value := .int .i64 need :: kv :: .int .i64 0 :: gls n
/-- the kids of its root -/
def kcs (n : Nat) : List Value := (List.range n).map fun (j : Nat) => .int .i64 ((j : Int) + 1)

theorem gls_succ (n : Nat) : gls (n + 1) = gls n ++ [.int .i64 0, .slice none 0 0, .int .i64 (n : Int)] := by
  simp [gls, List.range_succ]

theorem gls_len (n : Nat) : (gls n).length = n * 3 := by
  induction n with
  | zero => rfl
  | succ n ih => rw [gls_succ, List.length_append, ih]; simp; omega

theorem gls_get (n j : Nat) (h : j < n) : (gls n)[j * 3]? = some (.int .i64 0) ∧ (gls n)[j * 3 + 1]? = some (.slice none 0 0) ∧ (gls n)[j * 3 + 2]? = some (.int .i64 (j : Int)) := by
  induction n with
  | zero => omega
  | succ n ih =>
    rw [gls_succ]
    have hl := gls_len n
    by_cases hj : j < n
    · rw [List.getElem?_append_left (by omega), List.getElem?_append_left (by omega), List.getElem?_append_left (by omega)]
      exact ih hj
    · obtain rfl : j = n := by omega
      rw [List.getElem?_append_right (by omega), List.getElem?_append_right (by omega), List.getElem?_append_right (by omega), hl, show j * 3 - j * 3 = 0 by omega, show j * 3 + 1 - j * 3 = 1 by omega, show j * 3 + 2 - j * 3 = 2 by omega]
      exact ⟨rfl, rfl, rfl⟩

theorem gcs_succ (need : Int) (kv : Value) (n : Nat) : gcs need kv (n + 1) = gcs need kv n ++ [.int .i64 0, .slice none 0 0, .int .i64 (n : Int)] := by
  simp [gcs, gls_succ]

theorem gcs_len (need : Int) (kv : Value) (n : Nat) : (gcs need kv n).length = (n + 1) * 3 := by
  simp [gcs, gls_len]; omega

theorem gcs_set (need : Int) (kv kv' : Value) (n : Nat) : (gcs need kv n).set 1 kv' = gcs need kv' n := rfl
theorem gcs_set0 (need need' : Int) (kv : Value) (n : Nat) : (gcs need kv n).set 0 (.int .i64 need') = gcs need' kv n := rfl
theorem gcs_set2 (need : Int) (kv : Value) (n : Nat) : (gcs need kv n).set 2 (.int .i64 0) = gcs need kv n := rfl

theorem gcs_get (need : Int) (kv : Value) (n j : Nat) (h : j < n) : (gcs need kv n)[(j + 1) * 3]? = some (.int .i64 0) ∧ (gcs need kv n)[(j + 1) * 3 + 1]? = some (.slice none 0 0) ∧ (gcs need kv n)[(j + 1) * 3 + 2]? = some (.int .i64 (j : Int)) := by
  have := gls_get n j h
  rw [show (j + 1) * 3 = j * 3 + 3 by omega]
  simpa [gcs] using this

theorem kcs_succ (n : Nat) : kcs (n + 1) = kcs n ++ [.int .i64 ((n : Int) + 1)] := by simp [kcs, List.range_succ]

theorem kcs_get (n j : Nat) (h : j < n) : (kcs n)[j]? = some (.int .i64 ((j : Int) + 1)) := by simp [kcs, h]

theorem own_mono {w : World} {base b' : Nat} {e : TypeId} {size : Nat} {v : Value} {n : Nat} {xs : List Value} (h : w.ownsRow base e size v n xs) (hb : b' ≤ base) : w.ownsRow b' e size v n xs := by
  refine ⟨h.1, ?_⟩
  rcases h.2 with h1 | ⟨g, cap, cur, h3, h4, h5⟩
  · exact .inl h1
  · exact .inr ⟨g, cap, cur, h3, Nat.le_trans hb h4, h5⟩

/-- a row of another type has grown -/
theorem own_grown {w w' : World} {b1 b2 : Nat} {e1 e2 : TypeId} {s1 s2 n1 n2 : Nat} {v1 v2 : Value} {x1 x2 : List Value} (h : w.ownsRow b1 e1 s1 v1 n1 x1) (k : w.ownsRow b2 e2 s2 v2 n2 x2) (hne : e1 ≠ e2) (hg : w.grownBy w' v2.ownBlock) : w'.ownsRow b1 e1 s1 v1 n1 x1 :=
  own_keep h fun x hv => hg.block x (own_lt h hv).1 (fun e' => own_ne2 h k hne hv e'.symm)

/-- a slice of gates: a root over leaves; the root has m kids -/
def GAm (w : World) (base : Nat) (v : Value) (need : Int) (n m : Nat) : Prop := ∃ kv, w.ownsRow base 136 3 v (n + 1) (gcs need kv n) ∧ w.ownsRow base 3 1 kv m (kcs m)
def GAt (w : World) (base : Nat) (v : Value) (need : Int) (n : Nat) : Prop := GAm w base v need n n

theorem GAm.after {w w' : World} {base n m : Nat} {v : Value} {need : Int} (h : GAm w base v need n m) (hb : Below w.heap.size w w') : GAm w' base v need n m := by
  obtain ⟨kv, h1, h2⟩ := h
  exact ⟨kv, own_after h1 hb, own_after h2 hb⟩

theorem GAt.after {w w' : World} {base n : Nat} {v : Value} {need : Int} (h : GAt w base v need n) (hb : Below w.heap.size w w') : GAt w' base v need n := GAm.after h hb

theorem GAt.mono {w : World} {base b' n : Nat} {v : Value} {need : Int} (h : GAt w base v need n) (hb : b' ≤ base) : GAt w b' v need n := by
  obtain ⟨kv, h1, h2⟩ := h
  exact ⟨kv, own_mono h1 hb, own_mono h2 hb⟩

theorem GAm.set {w : World} {base n m r i : Nat} {v u : Value} {need : Int} (h : GAm w base v need n m) (hr : r < base) : GAm (w.setCell ⟨r, i, none⟩ u) base v need n m := by
  obtain ⟨kv, h1, h2⟩ := h
  refine ⟨kv, own_set h1 (fun e => ?_), own_set h2 (fun e => ?_)⟩
  · have := (own_lt h1 e).2; omega
  · have := (own_lt h2 e).2; omega

theorem GAm.form {w : World} {base n m : Nat} {v : Value} {need : Int} (h : GAm w base v need n m) : ∃ g c, v = .slice (some ⟨g, 0, none⟩) (n + 1) c ∧ base ≤ g ∧ g < w.heap.size := by
  obtain ⟨kv, h1, h2⟩ := h
  rcases h1.2 with ⟨_, h2⟩ | ⟨g, cap, cur, rfl, h3, h4, _⟩
  · omega
  · exact ⟨_, _, rfl, h3, (Array.getElem?_eq_some_iff.1 h4).1⟩

/-- the root and a leaf -/
theorem GAt.root {w : World} {base g c n : Nat} {need : Int} (h : GAt w base (.slice (some ⟨g, 0, none⟩) (n + 1) c) need n) :
    ∃ ko kc, g < w.heap.size ∧ w.cell? ⟨g, 0, none⟩ = some (.int .i64 need) ∧ w.cell? ⟨g, 1, none⟩ = some (.slice ko n kc) ∧ w.cell? ⟨g, 2, none⟩ = some (.int .i64 0) ∧ (∀ j, j < n → ∃ b, ko = some ⟨b, 0, none⟩ ∧ b < w.heap.size ∧ w.cell? ⟨b, j, none⟩ = some (.int .i64 ((j : Int) + 1))) := by
  obtain ⟨kv, h1, h2⟩ := h
  have hk : ∃ ko kc, kv = .slice ko n kc := by
    rcases h2.2 with ⟨rfl, h3⟩ | ⟨g, cap, cur, rfl, _⟩
    · exact ⟨none, 0, by rw [h3]⟩
    · exact ⟨_, _, rfl⟩
  obtain ⟨ko, kc, rfl⟩ := hk
  refine ⟨ko, kc, (own_cap h1).1, own_cellS h1 0 _ rfl, own_cellS h1 1 _ rfl, own_cellS h1 2 _ rfl, fun j hj => ?_⟩
  have h0 := h2
  rcases h2.2 with ⟨hv, h3⟩ | ⟨b, cap, cur, hv, _, h4, _⟩
  · omega
  · injection hv with e1 e2 e3
    subst e1 e3
    exact ⟨b, rfl, (Array.getElem?_eq_some_iff.1 h4).1, own_cellS h0 j _ (kcs_get n j hj)⟩

theorem GAt.leaf {w : World} {base g c n : Nat} {need : Int} (h : GAt w base (.slice (some ⟨g, 0, none⟩) (n + 1) c) need n) {j : Nat} (hj : j < n) :
    w.cell? ⟨g, (j + 1) * 3, none⟩ = some (.int .i64 0) ∧ w.cell? ⟨g, (j + 1) * 3 + 1, none⟩ = some (.slice none 0 0) ∧ w.cell? ⟨g, (j + 1) * 3 + 2, none⟩ = some (.int .i64 (j : Int)) := by
  obtain ⟨kv, h1, h2⟩ := h
  obtain ⟨x1, x2, x3⟩ := gcs_get need kv n j hj
  exact ⟨own_cellS h1 _ _ x1, own_cellS h1 _ _ x2, own_cellS h1 _ _ x3⟩

theorem CLs.mono {w : World} {base b' p q : Nat} {v : Value} {L : List (Nat × List Nat)} (h : CLs w base v p q L) (hb : b' ≤ base) : CLs w b' v p q L := by
  obtain ⟨xs, h1, h2⟩ := h
  refine ⟨xs, own_mono h1 hb, fun j hj => ?_⟩
  obtain ⟨g1, g2, g3, g4, c1, c2, c3, c4, x1, x2, x3, x4, y1, y2, y3, y4⟩ := h2 j hj
  exact ⟨g1, g2, g3, g4, c1, c2, c3, c4, x1, x2, x3, x4, by omega, by omega, by omega, by omega⟩

theorem CLs.form {w : World} {base p q : Nat} {v : Value} {L : List (Nat × List Nat)} (h : CLs w base v p q L) : ∃ ao c, v = .slice ao L.length c := by
  obtain ⟨xs, ⟨_, h1⟩, _⟩ := h
  rcases h1 with ⟨rfl, h2⟩ | ⟨g, cap, cur, rfl, _⟩
  · exact ⟨none, 0, by rw [h2]⟩
  · exact ⟨_, _, rfl⟩

theorem CLs.at_ {w : World} {base n c p q : Nat} {ao : Option Addr} {L : List (Nat × List Nat)} (h : CLs w base (.slice ao n c) p q L) {j : Nat} (hj : j < L.length) :
    ∃ b g1 g2 g3 g4 c1 c2 c3 c4, ao = some ⟨b, 0, none⟩ ∧ b < w.heap.size ∧ w.cell? ⟨b, j * 3, none⟩ = some (.slice (some ⟨g1, 0, none⟩) 1 c1) ∧ w.cell? ⟨b, j * 3 + 1, none⟩ = some (.slice (some ⟨g2, 0, none⟩) L[j].2.length c2) ∧ w.cell? ⟨b, j * 3 + 2, none⟩ = some (.slice (some ⟨g3, 0, none⟩) 1 c3) ∧ Stm w g1 g2 g3 g4 c4 p q L[j].1 L[j].2 := by
  obtain ⟨xs, h0, h2⟩ := h
  obtain ⟨g1, g2, g3, g4, c1, c2, c3, c4, x1, x2, x3, x4, _⟩ := h2 j hj
  have h0' := h0
  rcases h0.2 with ⟨hv, h2⟩ | ⟨g, cap, cur, hv, h3, h4, _⟩
  · omega
  · injection hv with e1 e2 e3
    subst e1 e2 e3
    exact ⟨g, g1, g2, g3, g4, c1, c2, c3, c4, rfl, (Array.getElem?_eq_some_iff.1 h4).1, own_cellS h0' _ _ x1, own_cellS h0' _ _ x2, own_cellS h0' _ _ x3, x4⟩

end Go.Proofs.YtecobjddpinonaaGreat
end

section
set_option linter.unusedVariables false
set_option linter.unusedSimpArgs false
set_option maxRecDepth 100000
namespace Go.Proofs.YtecobjddpinonaaGreat
open Go.RowKit Go.Shelf

theorem info_gate : (Tryz.prog.info? 136).map (fun i => (i.zero, i.size, i.bytes)) = some (some (.agg #[.int .i64 0, .slice none 0 0, .int .i64 0]), 3, 40) := by kernel_rfl

theorem FAt.form {w : World} {base n : Nat} {v : Value} (h : FAt w base v n) (hn : 0 < n) : ∃ fb c, v = .slice (some ⟨fb, 0, none⟩) n c := by
  obtain ⟨xs, h1, _⟩ := h
  rcases h1.2 with ⟨_, h2⟩ | ⟨g, cap, cur, rfl, _⟩
  · omega
  · exact ⟨_, _, rfl⟩

theorem FAt.at_ {w : World} {base fb n c : Nat} (h : FAt w base (.slice (some ⟨fb, 0, none⟩) n c) n) {k : Nat} (hk : k < n) :
    ∃ b, fb < w.heap.size ∧ w.cell? ⟨fb, k, none⟩ = some (.slice (some ⟨b, 0, none⟩) 1 1) ∧ Blk w b 136 [.int .i64 0, .slice none 0 0, .int .i64 0] := by
  obtain ⟨xs, h1, h2⟩ := h
  obtain ⟨b, x1, x2, _⟩ := h2 k hk
  exact ⟨b, (own_cap h1).1, own_cellS h1 k _ x1, x2⟩

theorem GAt.start (w : World) (need : Int) : GAt (w.alloc (.cells #[.int .i64 need, .slice none 0 0, .int .i64 0] 136)) w.heap.size (.slice (some ⟨w.heap.size, 0, none⟩) 1 1) need 0 :=
  ⟨.slice none 0 0, World.ownsRow_lit w #[.int .i64 need, .slice none 0 0, .int .i64 0] 1 (Nat.le_refl _) (by unfold maxLen; omega) rfl, World.ownsRow_nil _ _ _ _⟩

theorem keep2 {w : World} {b : Nat} {T : TypeId} {x y z : Value} (h : Blk w b T [x, y, z]) : w.cell? ⟨b, 0, none⟩ = some x ∧ w.cell? ⟨b, 1, none⟩ = some y := ⟨h.cell 0, h.cell 1⟩

set_option maxHeartbeats 8000000 in
theorem join_c (n : Nat) (need : Int) (v : Value) (base : Nat) (w : World) (h0 : 0 < n) (hn : n ≤ 256) (hd1 : 1 ≤ need) (hd2 : need ≤ (n : Int)) (hF : FAt w base v n) :
    Calls Tryz.prog 92 #[.int .i64 need, v] w fun e w' => ∃ gv, e = .returned (.tuple #[.agg #[gv], .int .i64 0]) ∧ GAt w' w.heap.size gv need n ∧ Below w.heap.size w w' := by
  obtain ⟨i0, hi0, hz00, hz01, hz02⟩ := info_parts info_int
  obtain ⟨i1, hi1, hz10, hz11, hz12⟩ := info_parts info_gate
  have HI0 := Lib.hid hi0
  have HA0 := Lib.hid hz00
  have HB0 := Lib.hid hz01
  have HC0 := Lib.hid hz02
  have HI1 := Lib.hid hi1
  have HA1 := Lib.hid hz10
  have HB1 := Lib.hid hz11
  have HC1 := Lib.hid hz12
  clear hi0 hz00 hz01 hz02 hi1 hz10 hz11 hz12
  obtain ⟨fb, fc, rfl⟩ := hF.form h0
  have hr := Blk.new w #[.slice none 0 0] 66
  have hBW := b1 w (.cells #[.slice none 0 0] 66)
  replace hF := hF.after hBW
  have e1 : ((n : Int) == 0) = false := by rw [beq_eq_false_iff_ne]; omega
  have e2 : decide (need < 1) = false := decide_eq_false (by omega)
  have e3 : decide ((n : Int) < need) = false := decide_eq_false (by omega)
  have e4 : decide ((512 : Int) < (n : Int) + 1) = false := decide_eq_false (by omega)
  have e5 : decide ((256 : Int) < (n : Int)) = false := decide_eq_false (by omega)
  go_enter Tryz.func92, Tryz.ntmps92
  go_wp2
  generalize w.alloc (.cells #[.slice none 0 0] 66) = w1 at hr hBW hF
  go_loopw [26] (fun i wr => ∃ k : Nat, k ≤ n ∧ i = .int .i64 k ∧ Below w1.heap.size w1 wr) (fun i _ => n - (intOf i).toNat)
  case atStart => exact ⟨0, by omega, rfl, Below.refl _ _⟩
  case round =>
    obtain ⟨k, hk, rfl, hbr⟩ := hrel
    obtain ⟨wp, hwp⟩ : ∃ wp, wp = wr := ⟨_, rfl⟩
    subst hwp
    replace hF := hF.after hbr
    replace hr := hr.after hbr
    by_cases hlt : k < n
    · obtain ⟨b, hfl, hfc, hg⟩ := hF.at_ hlt
      have hB := Blk.new wp #[.slice (some ⟨b, 0, none⟩) 1 1] 66
      have h0k : (0 : Int) ≤ (k : Int) := by omega
      have h1k : (k : Int) < (n : Int) := by omega
      go_wp2_with fail
      refine (leaves_c b _ (hg.alloc _)).mono ?_
      rintro e w2 ⟨rfl, hb2⟩
      replace hB := hB.after hb2
      have hl2 : wp.heap.size < w2.heap.size := hB.lt
      have hBc0 := hB.cell 0
      have hBf0 := hB.free 0
      go_wp2
      go_roundw
      case rel => exact ⟨k + 1, by omega, by go_num, bt (ba hbr _) hb2⟩
      case measure => simp [intOf]; omega
    · obtain rfl : k = n := by omega
      replace hBW := bt hBW hbr
      clear hbr hlt hk
      have hG0 := GAt.start wp need
      have hB0 := Below.refl wp.heap.size wp |>.alloc (Nat.le_refl _) (.cells #[.int .i64 need, .slice none 0 0, .int .i64 0] 136)
      have hF0 := hF
      go_wp2
      generalize wp.alloc (.cells #[.int .i64 need, .slice none 0 0, .int .i64 0] 136) = w2 at hG0 hB0
      go_loopw [65, 10, 11] (fun i o c wr => ∃ m : Nat, m ≤ k ∧ i = .int .i64 m ∧ c = .int .i64 m ∧ GAt wr wp.heap.size o need m ∧ Below wp.heap.size wp wr) (fun i _ _ _ => k - (intOf i).toNat)
      case atStart => exact ⟨0, by omega, rfl, rfl, hG0, hB0⟩
      case round =>
        obtain ⟨m, hm, rfl, rfl, hG, hbr⟩ := hrel
        clear hG0 hB0
        obtain ⟨wq, hwq⟩ : ∃ wq, wq = wr := ⟨_, rfl⟩
        subst hwq
        have hsz := hbr.size
        by_cases hlt : m < k
        · obtain ⟨g, gc, rfl, hg1, hg2⟩ := GAm.form hG
          obtain ⟨b, hfB, hfc0, hgb0⟩ := hF.at_ hlt
          have hbB := hgb0.lt
          have hfl : fb < wq.heap.size := by omega
          have hfc := (hbr.cell (p := ⟨fb, m, none⟩) hfB).trans hfc0
          clear hfc0
          obtain ⟨kv, hr1, hr2⟩ := hG
          have hc0 : wq.cell? ⟨g, 1, none⟩ = some kv := own_cellS hr1 1 _ rfl
          have hbox := blk2a wq #[.slice (some ⟨b, 0, none⟩) 1 1] #[.int .i64 ((m : Int) + 1)] 66 3
          have hbox2 := blk2b wq #[.slice (some ⟨b, 0, none⟩) 1 1] #[.int .i64 ((m : Int) + 1)] 66 3
          have hB2 := b2 wq (.cells #[.slice (some ⟨b, 0, none⟩) 1 1] 66) (.cells #[.int .i64 ((m : Int) + 1)] 3)
          have h0k : (0 : Int) ≤ (m : Int) := by omega
          have h1k : (m : Int) < (k : Int) := by omega
          have q1 : (0 : Int) < (m : Int) + 1 := by omega
          have q2 : g ≠ wq.heap.size := by omega
          have q3 : wq.heap.size ≠ g := by omega
          go_wp2_with (at_builtin; refine wpList_append_lies _ rfl (.tmp 75) (.tmp 77) _ rfl wp.heap.size 3 i0 _ 1 8 Tryz.underlying48 HI0.out HA0.out HB0.out HC0.out rfl (by omega) kv m _ rfl (own_after hr2 hB2) ⟨wq.heap.size + 1, 0, none⟩ 1 1 [.int .i64 ((m : Int) + 1)] rfl rfl hbox2.cells (by simp [Value.oneCell']) (by omega) (by simp only [maxLen]; omega) (by omega) (by rw [World.size_alloc, World.size_alloc]; omega) (wq.heap.size + 2) (by simp) ?_; intro ga ca wa hown hgrow hat hlt2; have hra := own_grown (own_after hr1 hB2) (own_after hr2 hB2) (by decide) hgrow; have m0 := own_cellS hra 1 kv rfl; have m1 := hra.frozenAt 1; have hboxa := hbox.grown hgrow (own_ne (own_after hr2 hB2) hbox (by decide)); have m2 := hboxa.cell 0)
          have hGm : GAm (wa.setCell ⟨g, 1, none⟩ (.slice (some ⟨ga, 0, none⟩) (m + 1) ca)) wp.heap.size (.slice (some ⟨g, 0, none⟩) (m + 1) gc) need m (m + 1) := ⟨_, (hra.stored 1 (.slice (some ⟨ga, 0, none⟩) (m + 1) ca)).1, own_set (by rw [kcs_succ]; exact hown) (own_ne2 hra hown (by decide) rfl)⟩
          have hbm : Below wp.heap.size wp (wa.setCell ⟨g, 1, none⟩ (.slice (some ⟨ga, 0, none⟩) (m + 1) ca)) := ((hbr.trans (hB2.mono hsz)).grown hgrow (by rw [World.size_alloc, World.size_alloc]; omega) (fun x hx => (own_lt hr2 hx).2)).setCell hg1 _
          clear hown hgrow hat hlt2 hra m0 m1 m2 hboxa hbox hbox2 hB2 hr1 hr2 hc0 q2 q3
          generalize wa.setCell ⟨g, 1, none⟩ (.slice (some ⟨ga, 0, none⟩) (m + 1) ca) = w3 at hGm hbm
          go_loopw [84, 10, 15] (fun i o c wr => ((i = .int .i64 0 ∧ c = .int .i64 0 ∧ GAm wr wp.heap.size o need m (m + 1)) ∨ (i = .int .i64 1 ∧ c = .int .i64 1 ∧ GAm wr wp.heap.size o need (m + 1) (m + 1))) ∧ Below wp.heap.size wp wr) (fun i _ _ _ => 1 - (intOf i).toNat)
          case atStart => exact ⟨.inl ⟨rfl, rfl, hGm⟩, hbm⟩
          case round =>
            obtain ⟨hio, hbs⟩ := hrel
            clear hGm hbm
            obtain ⟨wt, hwt⟩ : ∃ wt, wt = wr := ⟨_, rfl⟩
            subst hwt
            have hsz2 := hbs.size
            rcases hio with ⟨rfl, rfl, hG⟩ | ⟨rfl, rfl, hG⟩
            · obtain ⟨g', gc', rfl, hg1', hg2'⟩ := GAm.form hG
              have hgb := hgb0.below hbs hbB
              have hgl := hgb.lt
              have hx1 := Blk.new wt #[.int .i64 0, .slice none 0 0, .int .i64 0] 136
              have hgbc0 := hgb.cell 0
              have hgbf0 := hgb.free 0
              have hgbc1 := hgb.cell 1
              have hgbf1 := hgb.free 1
              have hgbc2 := hgb.cell 2
              have hgbf2 := hgb.free 2
              go_upto_region 22 with fail
              generalize hw4 : wt.alloc (.cells #[.int .i64 0, .slice none 0 0, .int .i64 0] 136) = w4 at hx1
              have hb4 : Below wt.heap.size wt w4 := by rw [← hw4]; exact b1 _ _
              have hx1l := hx1.lt
              clear hw4
              clear hgbc0 hgbf0 hgbc1 hgbf1 hgbc2 hgbf2
              have hx1c0 := hx1.cell 0
              have hx1f0 := hx1.free 0
              have hx1c1 := hx1.cell 1
              have hx1f1 := hx1.free 1
              have hx1c2 := hx1.cell 2
              have hx1f2 := hx1.free 2
              go_cut [18] (fun s wx => ∃ h, s = .pointer (some ⟨h, 0, none⟩) ∧ Blk wx h 136 [.int .i64 0, .slice none 0 0, .int .i64 0] ∧ w4.heap.size ≤ h ∧ Below w4.heap.size w4 wx)
              case first =>
                go_region_held3 (fun w' => w'.cell? ⟨wt.heap.size, 0, none⟩ = some (.int .i64 0) ∧ w'.cell? ⟨wt.heap.size, 1, none⟩ = some (.slice none 0 0)) ((refine keep2 (T := 136) (z := .int .i64 0) ?_; repeat (first | (with_reducible exact hx1) | (with_reducible refine Blk.drew ?_) | (with_reducible refine Blk.alloc ?_ _))))
                  (first | (go_at_call 129; refine (Tryz.slices_Clone_int_nil _ _ _).mono ?_; rintro e wf ⟨rfl, rfl⟩))
                all_goals
                  go_wp2_with fail
                  go_meet
                  exact ⟨_, rfl, (Blk.new _ _ _).drew, Nat.le_refl _, (b1 _ _).drew⟩
              case rest =>
                obtain ⟨h, rfl, hx2, hhl, hb5⟩ := hcut
                clear hx1c0 hx1f0 hx1c1 hx1f1 hx1c2 hx1f2
                obtain ⟨w5, hw5⟩ : ∃ w5, w5 = wc := ⟨_, rfl⟩
                subst hw5
                have hsz4 := hb4.size
                have hbs5 := (hbs.trans (hb4.mono hsz2)).trans (hb5.mono (Nat.le_trans hsz2 hsz4))
                replace hx1 := hx1.after hb5
                obtain ⟨kv', hr1, hr2⟩ := (hG.after hb4).after hb5
                have hx2l := hx2.lt
                have hx1l' := hx1.lt
                have q2 : h ≠ wt.heap.size := by omega
                have q3 : wt.heap.size ≠ h := by omega
                replace hr1 : (w5.setCell ⟨h, 2, none⟩ (.int .i64 (m : Int))).ownsRow wp.heap.size 136 3 (.slice (some ⟨g', 0, none⟩) (m + 1) gc') (m + 1) (gcs need kv' m) := own_set hr1 (by simp [Value.ownBlock]; omega)
                have hk2 : kv'.ownBlock ≠ some h := by
                  intro e'
                  obtain ⟨kv2, _, k2⟩ := hG
                  exact own_ne hr2 hx2 (by decide) e'
                replace hr2 : (w5.setCell ⟨h, 2, none⟩ (.int .i64 (m : Int))).ownsRow wp.heap.size 3 1 kv' (m + 1) (kcs (m + 1)) := own_set hr2 hk2
                have hbs6 := hbs5.setCell (p := ⟨h, 2, none⟩) (by simp; omega) (.int .i64 (m : Int))
                have hn6 : Blk ((w5.setCell ⟨h, 2, none⟩ (.int .i64 (m : Int))).alloc (.cells #[.int .i64 0, .slice none 0 0, .int .i64 (m : Int)] 136)) w5.heap.size 136 [.int .i64 0, .slice none 0 0, .int .i64 (m : Int)] := by
                  have := Blk.new (w5.setCell ⟨h, 2, none⟩ (.int .i64 (m : Int))) #[.int .i64 0, .slice none 0 0, .int .i64 (m : Int)] 136
                  rwa [World.size_setCell] at this
                have hsz5 := hb5.size
                have hx1c0 := hx1.cell 0
                have hx1f0 := hx1.free 0
                have hx1c1 := hx1.cell 1
                have hx1f1 := hx1.free 1
                have hx1c2 := hx1.cell 2
                have hx1f2 := hx1.free 2
                have hx2c0 := hx2.cell 0
                have hx2f0 := hx2.free 0
                have hx2c1 := hx2.cell 1
                have hx2f1 := hx2.free 1
                have hx2c2 := hx2.cell 2
                have hx2f2 := hx2.free 2
                go_wp2
                go_loop [97] (fun i => i = .int .i64 0) (fun _ => 0)
                case atStart => rfl
                case round =>
                  obtain rfl := hrel
                  go_wp2_with (at_builtin; refine wpList_append_lies _ rfl (.tmp 120) (.tmp 122) _ rfl wp.heap.size 136 i1 _ 3 40 Tryz.underlying64 HI1.out HA1.out HB1.out HC1.out rfl (by omega) (.slice (some ⟨g', 0, none⟩) (m + 1) gc') (m + 1) _ rfl (own_after hr1 (b1 _ (.cells #[.int .i64 0, .slice none 0 0, .int .i64 (m : Int)] 136))) ⟨w5.heap.size, 0, none⟩ 1 1 [.int .i64 0, .slice none 0 0, .int .i64 (m : Int)] rfl rfl hn6.cells (by simp [Value.oneCell']) (by omega) (by simp only [maxLen]; omega) (by omega) (by rw [World.size_alloc, World.size_setCell]; omega) (w5.heap.size + 1) (by simp) ?_; intro ga ca wa hown hgrow hat hlt2)
                  have hGe : GAm wa wp.heap.size (.slice (some ⟨ga, 0, none⟩) (m + 1 + 1) ca) need (m + 1) (m + 1) := ⟨kv', by rw [gcs_succ]; exact hown, own_grown (own_after hr2 (b1 _ _)) (own_after hr1 (b1 _ _)) (by decide) hgrow⟩
                  have hbe : Below wp.heap.size wp wa := (hbs6.alloc hbs6.size _).grown hgrow (by rw [World.size_alloc, World.size_setCell]; omega) (fun x hx => (own_lt hr1 hx).2)
                  go_roundw
                  case rel => exact ⟨.inr ⟨by go_num, by go_num, hGe⟩, hbe⟩
                  case measure => simp [intOf]
            · obtain ⟨g', gc', rfl, hg1', hg2'⟩ := GAm.form hG
              go_wp2
              go_roundw
              case rel => exact ⟨m + 1, by omega, by go_num, by go_num, hG, hbs⟩
              case measure => simp [intOf]; omega
        · obtain rfl : m = k := by omega
          obtain ⟨g, gc, rfl, hg1, hg2⟩ := GAm.form hG
          have hrr := hr.below hbr hr.lt
          have hrl := hrr.lt
          have hrrc0 := hrr.cell 0
          have hrrf0 := hrr.free 0
          go_wp2
          refine bodyPost_ret (v := .tuple #[.agg #[.slice (some ⟨g, 0, none⟩) (m + 1) gc], .int .i64 0]) ?_ rfl ⟨_, rfl, ?_, ?_⟩
          · simp [results, Tryz.results92, go_sem, hrrc0]
          · exact GAt.mono (GAm.set hG hr.lt) (Nat.le_of_lt hr.lt)
          · exact (hBW.trans (hbr.mono hBW.size)).setCell (by simp) _

end Go.Proofs.YtecobjddpinonaaGreat
end

section
set_option linter.unusedVariables false
set_option linter.unusedSimpArgs false
set_option maxRecDepth 100000
namespace Go.Proofs.YtecobjddpinonaaGreat
open Go.RowKit Go.Shelf

def gN (need : Int) (k : Nat) : Int := if k = 0 then need else 0
def gM (n k : Nat) : Nat := if k = 0 then n else 0
def gL (k : Nat) : Int := ((k - 1 : Nat) : Int)

theorem gM_le (n k : Nat) : gM n k ≤ n := by unfold gM; split <;> omega

/-- any gate of a root over leaves -/
theorem GAt.gate {w : World} {base g c n : Nat} {need : Int} (h : GAt w base (.slice (some ⟨g, 0, none⟩) (n + 1) c) need n) {k : Nat} (hk : k < n + 1) :
    ∃ ko kc, g < w.heap.size ∧ w.cell? ⟨g, k * 3, none⟩ = some (.int .i64 (gN need k)) ∧ w.cell? ⟨g, k * 3 + 1, none⟩ = some (.slice ko (gM n k) kc) ∧ w.cell? ⟨g, k * 3 + 2, none⟩ = some (.int .i64 (gL k)) ∧ (∀ j, j < gM n k → ∃ b, ko = some ⟨b, 0, none⟩ ∧ b < w.heap.size ∧ w.cell? ⟨b, j, none⟩ = some (.int .i64 ((j : Int) + 1))) := by
  cases k with
  | zero =>
    obtain ⟨ko, kc, h1, h2, h3, h4, h5⟩ := h.root
    exact ⟨ko, kc, h1, h2, h3, h4, h5⟩
  | succ j =>
    obtain ⟨_, _, h1, _⟩ := h.root
    obtain ⟨x1, x2, x3⟩ := h.leaf (j := j) (by omega)
    exact ⟨none, 0, h1, x1, x2, x3, fun i hi => absurd hi (by simp [gM])⟩

/-- the two gates of a round -/
def GBox (w : World) (x y : Int) (m : Nat) (ko lo : Option Addr) (kc lc : Nat) (s6 s7 : Value) (wx : World) : Prop :=
  ∃ h6 h7 : Nat, s6 = .pointer (some ⟨h6, 0, none⟩) ∧ s7 = .pointer (some ⟨h7, 0, none⟩) ∧
    Blk wx h6 136 [.int .i64 x, .slice ko m kc, .int .i64 y] ∧ Blk wx h7 136 [.int .i64 x, .slice lo m lc, .int .i64 y] ∧ Below w.heap.size w wx

theorem gcellOf7 {w : World} {a : Addr} {v : Value} (hb : a.block < w.heap.size) (h : w.cell? a = some v) : ∀ x : GW w, (Proofs.YtecobjddpinonaaGreat.gw x).cell? a = some v := fun x => ((gw_below x).cell hb).trans h

set_option maxHeartbeats 800000 in
theorem same20_nil (w : World) :
    Calls Tryz.prog 58 #[.agg #[.slice none 0 0], .agg #[.slice none 0 0]] w fun e w' => e = .returned (.bool true) ∧ Below w.heap.size w w' := by
  have hA := blk2a w #[Value.slice none 0 0] #[Value.slice none 0 0] 66 66
  have hB := blk2b w #[Value.slice none 0 0] #[Value.slice none 0 0] 66 66
  have hAc0 := hA.cell 0
  have hAf0 := hA.free 0
  have hBc0 := hB.cell 0
  have hBf0 := hB.free 0
  go_enter Tryz.func58, Tryz.ntmps58
  go_wp2
  go_loop [5] (fun i => i = .int .i64 0) (fun _ => 0)
  case atStart => rfl
  case round =>
    obtain rfl := hrel
    go_wp2
    go_ret
    exact ⟨rfl, b2 _ _ _⟩

set_option maxHeartbeats 4000000 in
theorem same20_c (n : Nat) (need : Int) (u v : Value) (w : World) (hn : n ≤ 1000) (hA : GAt w 0 u need n) (hB : GAt w 0 v need n) :
    Calls Tryz.prog 58 #[.agg #[u], .agg #[v]] w fun e w' => e = .returned (.bool true) ∧ Below w.heap.size w w' := by
  obtain ⟨g, c, rfl, _, _⟩ := GAm.form hA
  obtain ⟨g', c', rfl, _, _⟩ := GAm.form hB
  have hP := blk2a w #[Value.slice (some ⟨g, 0, none⟩) (n + 1) c] #[Value.slice (some ⟨g', 0, none⟩) (n + 1) c'] 66 66
  have hQ := blk2b w #[Value.slice (some ⟨g, 0, none⟩) (n + 1) c] #[Value.slice (some ⟨g', 0, none⟩) (n + 1) c'] 66 66
  have hBW := b2 w (.cells #[Value.slice (some ⟨g, 0, none⟩) (n + 1) c] 66) (.cells #[Value.slice (some ⟨g', 0, none⟩) (n + 1) c'] 66)
  replace hA := hA.after hBW
  replace hB := hB.after hBW
  have hPc0 := hP.cell 0
  have hPf0 := hP.free 0
  have hQc0 := hQ.cell 0
  have hQf0 := hQ.free 0
  go_enter Tryz.func58, Tryz.ntmps58
  go_wp2
  clear hPc0 hPf0
  clear hQc0 hQf0
  generalize ((w.alloc (.cells #[Value.slice (some ⟨g, 0, none⟩) (n + 1) c] 66)).alloc (.cells #[Value.slice (some ⟨g', 0, none⟩) (n + 1) c'] 66)) = w1 at hP hQ hBW hA hB
  go_loopw [5] (fun i wr => ∃ k : Nat, k ≤ n + 1 ∧ i = .int .i64 k ∧ Below w1.heap.size w1 wr) (fun i _ => n + 1 - (intOf i).toNat)
  case atStart => exact ⟨0, by omega, rfl, Below.refl _ _⟩
  case round =>
    obtain ⟨k, hk, rfl, hbr⟩ := hrel
    obtain ⟨wp, hwp⟩ : ∃ wp, wp = wr := ⟨_, rfl⟩
    subst hwp
    replace hA := hA.after hbr
    replace hB := hB.after hbr
    replace hP := hP.after hbr
    replace hQ := hQ.after hbr
    by_cases hlt : k < n + 1
    · obtain ⟨ko, kc, gl, f0, f1, f2, fk⟩ := hA.gate hlt
      obtain ⟨lo, lc, gl', g0, g1, g2, gk⟩ := hB.gate hlt
      have hmn := gM_le n k
      have HF := Lib.hid fk
      have HG := Lib.hid gk
      generalize gN need k = x at f0 g0
      generalize gL k = y at f2 g2
      generalize gM n k = m at f1 g1 HF HG hmn
      clear fk gk
      have y3 := hP.lt
      have y4 := hQ.lt
      have h0k : (0 : Int) ≤ (k : Int) := by omega
      have h1k : (k : Int) < (n : Int) + 1 := by omega
      have hPc0 := hP.cell 0
      have hPf0 := hP.free 0
      have hQc0 := hQ.cell 0
      have hQf0 := hQ.free 0
      go_upto_region 6 with fail
      go_cut [6, 7] (fun s6 s7 wx => GBox wp x y m ko lo kc lc s6 s7 wx)
      case first =>
        go_region_held3 (fun w' => w'.cell? ⟨w.heap.size, 0, none⟩ = some (.slice (some ⟨g, 0, none⟩) (n + 1) c) ∧ w'.cell? ⟨w.heap.size + 1, 0, none⟩ = some (.slice (some ⟨g', 0, none⟩) (n + 1) c') ∧ w'.cell? ⟨g, k * 3, none⟩ = some (.int .i64 x) ∧ w'.cell? ⟨g, k * 3 + 1, none⟩ = some (.slice ko m kc) ∧ w'.cell? ⟨g, k * 3 + 2, none⟩ = some (.int .i64 y) ∧ w'.cell? ⟨g', k * 3, none⟩ = some (.int .i64 x) ∧ w'.cell? ⟨g', k * 3 + 1, none⟩ = some (.slice lo m lc) ∧ w'.cell? ⟨g', k * 3 + 2, none⟩ = some (.int .i64 y)) (go_keep) (fail)
        all_goals
          go_wp2_with fail
          go_meet
          first
          | exact ⟨_, _, rfl, rfl, (blk2a _ _ _ _ _).drew, (blk2b _ _ _ _ _).drew, (Proofs.YtecobjddpinonaaGreat.b2 _ _ _).drew⟩
          | exact ⟨_, _, rfl, rfl, (blk2b _ _ _ _ _).drew, (blk2a _ _ _ _ _).drew, (Proofs.YtecobjddpinonaaGreat.b2 _ _ _).drew⟩
      case rest =>
        obtain ⟨h6, h7, rfl, rfl, h6b, h7b, hbx⟩ := hcut
        clear hPc0 hPf0
        clear hQc0 hQf0
        clear f0 f1 f2 g0 g1 g2 y3 y4
        obtain ⟨wx, hwx⟩ : ∃ wx, wx = wc := ⟨_, rfl⟩
        subst hwx
        replace hA := hA.after hbx
        replace hB := hB.after hbx
        replace hP := hP.after hbx
        replace hQ := hQ.after hbx
        have h6bc0 := h6b.cell 0
        have h6bf0 := h6b.free 0
        have h6bc1 := h6b.cell 1
        have h6bf1 := h6b.free 1
        have h6bc2 := h6b.cell 2
        have h6bf2 := h6b.free 2
        have h7bc0 := h7b.cell 0
        have h7bf0 := h7b.free 0
        have h7bc1 := h7b.cell 1
        have h7bf1 := h7b.free 1
        have h7bc2 := h7b.cell 2
        have h7bf2 := h7b.free 2
        go_wp2
        clear h6bc0 h6bf0 h6bc1 h6bf1 h6bc2 h6bf2
        clear h7bc0 h7bf0 h7bc1 h7bf1 h7bc2 h7bf2
        go_loopw [8] (fun i wr => ∃ k' : Nat, k' ≤ m ∧ i = .int .i64 k' ∧ Below wx.heap.size wx wr) (fun i _ => m - (intOf i).toNat)
        case atStart => exact ⟨0, by omega, rfl, Below.refl _ _⟩
        case round =>
          obtain ⟨k', hk', rfl, hbs⟩ := hrel
          obtain ⟨wy, hwy⟩ : ∃ wy, wy = wr := ⟨_, rfl⟩
          subst hwy
          replace h6b := h6b.after hbs
          replace h7b := h7b.after hbs
          by_cases hlt' : k' < m
          · obtain ⟨b, rfl, bl, bc⟩ := HF.out k' hlt'
            obtain ⟨d, rfl, dl, dc⟩ := HG.out k' hlt'
            have bc' := (hbs.cell (p := ⟨b, k', none⟩) (Nat.lt_of_lt_of_le bl hbx.size)).trans ((hbx.cell (p := ⟨b, k', none⟩) bl).trans bc)
            have dc' := (hbs.cell (p := ⟨d, k', none⟩) (Nat.lt_of_lt_of_le dl hbx.size)).trans ((hbx.cell (p := ⟨d, k', none⟩) dl).trans dc)
            have k0 := gcellOf7 (a := ⟨b, k', none⟩) (Nat.lt_of_lt_of_le (Nat.lt_of_lt_of_le bl hbx.size) hbs.size) bc'
            have k1 := gcellOf7 (a := ⟨d, k', none⟩) (Nat.lt_of_lt_of_le (Nat.lt_of_lt_of_le dl hbx.size) hbs.size) dc'
            have h0k' : (0 : Int) ≤ (k' : Int) := by omega
            have h1k' : (k' : Int) < (m : Int) := by omega
            clear bc dc bc' dc'
            have h6bg0 := h6b.gcell 0
            have h6bg1 := h6b.gcell 1
            have h6bg2 := h6b.gcell 2
            have h7bg0 := h7b.gcell 0
            have h7bg1 := h7b.gcell 1
            have h7bg2 := h7b.gcell 2
            have h6bc0 := h6b.cell 0
            have h6bf0 := h6b.free 0
            have h6bc1 := h6b.cell 1
            have h6bf1 := h6b.free 1
            have h6bc2 := h6b.cell 2
            have h6bf2 := h6b.free 2
            have h7bc0 := h7b.cell 0
            have h7bf0 := h7b.free 0
            have h7bc1 := h7b.cell 1
            have h7bf1 := h7b.free 1
            have h7bc2 := h7b.cell 2
            have h7bf2 := h7b.free 2
            go_wp2_with fail
            go_wp2_with fail
            refine wp_region_gw (by kernel_rfl) (by kernel_rfl) ?_
            repeat (go_big_quiet_step (first | (fail)))
            refine wpQuiet_nil ?_
            rintro w2 ⟨xw2, rfl⟩
            have hb2 := gw_below xw2
            generalize gw xw2 = w2 at hb2
            go_wp2
            go_roundw
            case rel => exact ⟨k' + 1, by omega, by go_num, bt hbs hb2⟩
            case measure => simp [intOf]; omega
          · obtain rfl : k' = m := by omega
            have h6bc0 := h6b.cell 0
            have h6bf0 := h6b.free 0
            have h6bc1 := h6b.cell 1
            have h6bf1 := h6b.free 1
            have h6bc2 := h6b.cell 2
            have h6bf2 := h6b.free 2
            have h7bc0 := h7b.cell 0
            have h7bf0 := h7b.free 0
            have h7bc1 := h7b.cell 1
            have h7bf1 := h7b.free 1
            have h7bc2 := h7b.cell 2
            have h7bf2 := h7b.free 2
            go_wp2
            go_roundw
            case rel => exact ⟨k + 1, by omega, by go_num, bt (bt hbr hbx) hbs⟩
            case measure => simp [intOf]; omega
    · obtain rfl : k = n + 1 := by omega
      replace hBW := bt hBW hbr
      have hPc0 := hP.cell 0
      have hPf0 := hP.free 0
      have hQc0 := hQ.cell 0
      have hQf0 := hQ.free 0
      go_wp2
      go_ret
      exact ⟨rfl, hBW⟩

end Go.Proofs.YtecobjddpinonaaGreat
end

section
set_option linter.unusedVariables false
set_option linter.unusedSimpArgs false
set_option maxRecDepth 100000
namespace Go.Proofs.YtecobjddpinonaaGreat
open Go.RowKit Go.Shelf

theorem info_form : (Tryz.prog.info? 66).map (fun i => (i.zero, i.size, i.bytes)) = some (some (.agg #[.slice none 0 0]), 1, 24) := by kernel_rfl
theorem info_stmt : (Tryz.prog.info? 33).map (fun i => (i.zero, i.size, i.bytes)) = some (some (.agg #[.slice none 0 0, .slice none 0 0, .slice none 0 0]), 3, 72) := by kernel_rfl

/-- a call of a function value at a step of a region that draws its order -/
theorem step_dyn {P : Program} {ops : Array Oper} {o : Oper} {a : Act} {w : World} {K : Act → World → Prop} {Q : Exit → Act → World → Prop} {E : Prop} (hgd : o.guard = none) (f : FuncId) (x y : Operand) (t : TypeId) (cs : Array Value)
    (ho : o.op = .call { callee := .value x, args := #[y], argTypes := #[t] }) (hx : a.eval x = .func (.func f) #[] cs) (hE : ∀ args w, (callFunc f args).run P w = .ok (.enter f args) w) (u : Value) (hy : a.eval y = u) {R : Ending → World → Prop}
    (hc : Calls P f (#[u] ++ cs) w R) (h : ∀ e w', R e w' → ∃ v, e = .returned v ∧ K (a.put o.dst v) w') :
    if Region.wanted o (yielded ops a.tmps) = true then Oper.wp P o a w K Q else E := by
  have hw : Region.wanted o (yielded ops a.tmps) = true := by simp [Region.wanted, hgd]
  rw [if_pos hw]
  have hg : ∀ ρ : Operand → Value, ρ x = .func (.func f) #[] cs → ρ y = u → (execOp ρ o).run P w = .ok (.enter f (#[u] ++ cs)) w := by
    intro ρ h1 h2
    simp [execOp, ho, resolve, invoke, go_sem, hE, h1, h2, Deferred.ofValue]
  have hrun := hg a.eval hx hy
  unfold Oper.wp
  rw [hrun, Oper.upon_enter]
  refine hc.mono fun e w' he => ?_
  obtain ⟨v, rfl, hK⟩ := h e w' he
  exact hK

/-- a call of a function with any result -/
theorem step_callP {P : Program} {ops : Array Oper} {o : Oper} {a : Act} {w : World} {K : Act → World → Prop} {Q : Exit → Act → World → Prop} {E : Prop} (hgd : o.guard = none) (f : FuncId) (xs : Array Operand) (ts : Array TypeId)
    (ho : o.op = .call { callee := .value (.func f), args := xs, argTypes := ts }) (hE : ∀ args w, (callFunc f args).run P w = .ok (.enter f args) w) (us : Array Value) (hu : xs.map a.eval = us) {R : Ending → World → Prop}
    (hc : Calls P f us w R) (h : ∀ e w', R e w' → ∃ v, e = .returned v ∧ K (a.put o.dst v) w') :
    if Region.wanted o (yielded ops a.tmps) = true then Oper.wp P o a w K Q else E := by
  have hw : Region.wanted o (yielded ops a.tmps) = true := by simp [Region.wanted, hgd]
  rw [if_pos hw]
  have hrun : (execOp a.eval o).run P w = .ok (.enter f us) w := by
    simp [execOp, ho, resolve, invoke, go_sem, hE, hu]
  unfold Oper.wp
  rw [hrun, Oper.upon_enter]
  refine hc.mono fun e w' he => ?_
  obtain ⟨v, rfl, hK⟩ := h e w' he
  exact hK

/-- a slice of numbers that came in -/
def NumsAt (w : World) (ao : Option Addr) (V : List Int) : Prop := V.length = 0 ∨ ∃ b o, ao = some ⟨b, o, none⟩ ∧ b < w.heap.size ∧ ∀ j (h : j < V.length), w.cell? ⟨b, o + j, none⟩ = some (.int .i64 V[j])

theorem NumsAt.after {w w' : World} {ao : Option Addr} {V : List Int} (h : NumsAt w ao V) (hb : Below w.heap.size w w') : NumsAt w' ao V := by
  rcases h with h | ⟨b, o, h1, h2, h3⟩
  · exact .inl h
  · exact .inr ⟨b, o, h1, Nat.lt_of_lt_of_le h2 hb.size, fun j hj => (hb.cell (p := ⟨b, o + j, none⟩) h2).trans (h3 j hj)⟩

theorem NumsAt.at_ {w : World} {ao : Option Addr} {V : List Int} (h : NumsAt w ao V) {k : Nat} (hk : k < V.length) : ∃ b o, ao = some ⟨b, o, none⟩ ∧ b < w.heap.size ∧ w.cell? ⟨b, o + k, none⟩ = some (.int .i64 V[k]) := by
  rcases h with h | ⟨b, o, h1, h2, h3⟩
  · omega
  · exact ⟨b, o, h1, h2, h3 k hk⟩

/-- a clause as it lies in memory: nothing, or leaves and a gate over them -/
def CX (p q : Nat) (o : Option (List (Nat × List Nat) × Int × Nat)) (base : Nat) (w : World) (lv gv : Value) : Prop :=
  match o with
  | none => lv = .slice none 0 0 ∧ gv = .slice none 0 0
  | some (L, need, n) => CLs w base lv p q L ∧ GAt w base gv need n

theorem CX.after {p q base : Nat} {o : Option (List (Nat × List Nat) × Int × Nat)} {w w' : World} {lv gv : Value} (h : CX p q o base w lv gv) (hb : Below w.heap.size w w') : CX p q o base w' lv gv := by
  match o, h with
  | none, h => exact h
  | some (L, need, n), h => exact ⟨CLs.after h.1 hb, GAt.after h.2 hb⟩

theorem CX.set {p q base r i : Nat} {o : Option (List (Nat × List Nat) × Int × Nat)} {w : World} {lv gv u : Value} (h : CX p q o base w lv gv) (hr : r < base) : CX p q o base (w.setCell ⟨r, i, none⟩ u) lv gv := by
  match o, h with
  | none, h => exact h
  | some (L, need, n), h => exact ⟨CLs.set h.1 hr, GAm.set h.2 hr⟩

theorem CX.mono {p q base b' : Nat} {o : Option (List (Nat × List Nat) × Int × Nat)} {w : World} {lv gv : Value} (h : CX p q o base w lv gv) (hb : b' ≤ base) : CX p q o b' w lv gv := by
  match o, h with
  | none, h => exact h
  | some (L, need, n), h => exact ⟨CLs.mono h.1 hb, GAt.mono h.2 hb⟩

theorem CX.form {p q base : Nat} {o : Option (List (Nat × List Nat) × Int × Nat)} {w : World} {lv gv : Value} (h : CX p q o base w lv gv) : ∃ a1 n1 c1 a2 n2 c2, lv = .slice a1 n1 c1 ∧ gv = .slice a2 n2 c2 := by
  match o, h with
  | none, h => exact ⟨_, _, _, _, _, _, h.1, h.2⟩
  | some (L, need, n), h =>
    obtain ⟨a, c, h1⟩ := CLs.form h.1
    obtain ⟨g, c', h2, _⟩ := GAm.form h.2
    exact ⟨_, _, _, _, _, _, h1, h2⟩

/-- what a function that returns a clause or an error returns -/
def CPost (w : World) (p q : Nat) (o : Option (List (Nat × List Nat) × Int × Nat)) (k : Nat) (e : Ending) (w' : World) : Prop :=
  ∃ lv gv, e = .returned (.tuple #[.agg #[lv, gv], .int .i64 (k : Int)]) ∧ CX p q o w.heap.size w' lv gv ∧ Below w.heap.size w w'

theorem map_take1 (LF : Int → Nat × List Nat) (V : List Int) (k : Nat) (h : k < V.length) : (V.take (k + 1)).map LF = (V.take k).map LF ++ [LF V[k]] := by
  rw [List.take_succ_eq_append_getElem h, List.map_append]; rfl

theorem CLs.pushed {w w' : World} {o : Obj} {base p q t g1 g2 g3 g4 c1 c2 c3 c4 : Nat} {v v' : Value} {B : List Nat} {L : List (Nat × List Nat)} {xs : List Value} (h1 : w.ownsRow base 33 3 v L.length xs) (h2 : ∀ j (h : j < L.length), ∃ g1 g2 g3 g4 c1 c2 c3 c4 : Nat,
      xs[j * 3]? = some (.slice (some ⟨g1, 0, none⟩) 1 c1) ∧ xs[j * 3 + 1]? = some (.slice (some ⟨g2, 0, none⟩) L[j].2.length c2) ∧ xs[j * 3 + 2]? = some (.slice (some ⟨g3, 0, none⟩) 1 c3) ∧ Stm w g1 g2 g3 g4 c4 p q L[j].1 L[j].2 ∧ (base ≤ g1 ∧ base ≤ g2 ∧ base ≤ g3 ∧ base ≤ g4))
    (hL : ∀ x ∈ L, 0 < x.2.length) (hnil : L = [] → v = .slice none 0 0) (hs : Stm w g1 g2 g3 g4 c4 p q t B) (hB : 0 < B.length) (hk : base ≤ g1 ∧ base ≤ g2 ∧ base ≤ g3 ∧ base ≤ g4)
    (hg : (w.alloc o).grownBy w' v.ownBlock) (ho : w'.ownsRow base 33 3 v' (L.length + 1) (xs ++ [.slice (some ⟨g1, 0, none⟩) 1 c1, .slice (some ⟨g2, 0, none⟩) B.length c2, .slice (some ⟨g3, 0, none⟩) 1 c3])) : CLs w' base v' p q (L ++ [(t, B)]) := by
  refine CLs.push (own_after h1 (b1 _ o)) (fun j hj => ?_) hL (fun hx => ?_) (hs.after (b1 _ o)) hB hk hg ho
  · obtain ⟨g1, g2, g3, g4, c1, c2, c3, c4, x1, x2, x3, x4, x5⟩ := h2 j hj
    exact ⟨g1, g2, g3, g4, c1, c2, c3, c4, x1, x2, x3, x4.after (b1 _ o), x5⟩
  · have hl := h1.1
    rw [hx] at hl
    have h0 : L.length = 0 := by have h3 : (0 : Nat) = L.length * 3 := hl; omega
    rw [hnil (List.length_eq_zero_iff.1 h0)]
    rfl

/-- between two rounds of 'clause' -/
def CRel (B ob p q : Nat) (L : List (Nat × List Nat)) (k : Nat) (fv : Value) (w0 wr : World) : Prop :=
  ∃ lv, Blk wr ob 68 [lv, .slice none 0 0] ∧ CLs wr B lv p q L ∧ (L = [] → lv = .slice none 0 0) ∧ (k = 0 → fv = .slice none 0 0) ∧ FAt wr B fv k ∧ Below w0.heap.size w0 wr

set_option maxHeartbeats 8000000 in
theorem clause_c (ka kb kc kd cc : ByteArray) (p q : Nat) (V : List Int) (ao : Option Addr) (n cap : Nat) (need : Int) (f : FuncId) (bk bc : Nat) (LF : Int → Nat × List Nat) (w : World)
    (hR : ∀ (w' : World) (b : Nat), Blk w' b 22 [.string cc] → Calls Tryz.prog 33 #[.agg #[.string ka, .string kb, .string kc, .string kd], .slice (some ⟨b, 0, none⟩) 1 1] w' fun e w'' => e = .returned (.int .i64 0) ∧ Below w'.heap.size w' w'')
    (hn : V.length = n) (h0 : 0 < n) (hn2 : n ≤ 256) (hV : NumsAt w ao V) (hd1 : 1 ≤ need) (hd2 : need ≤ (n : Int)) (hLF : ∀ v, 0 < (LF v).2.length)
    (hE : ∀ args w, (callFunc f args).run Tryz.prog w = .ok (.enter f args) w)
    (hK : Blk w bk 26 [.string ka, .string kb, .string kc, .string kd]) (hC : Blk w bc 22 [.string cc])
    (hleaf : ∀ v ∈ V, ∀ (w' : World), Blk w' bk 26 [.string ka, .string kb, .string kc, .string kd] → Blk w' bc 22 [.string cc] → Calls Tryz.prog f #[.int .i64 v, .pointer (some ⟨bk, 0, none⟩), .pointer (some ⟨bc, 0, none⟩)] w' (StmPost w' p q (LF v).1 (LF v).2)) :
    Calls Tryz.prog 53 #[.agg #[.string ka, .string kb, .string kc, .string kd], .string cc, .slice ao n cap, .int .i64 need, .func (.func f) #[] #[.pointer (some ⟨bk, 0, none⟩), .pointer (some ⟨bc, 0, none⟩)]] w (CPost w p q (some (V.map LF, need, n)) 0) := by
  obtain ⟨i0, hi0, hz00, hz01, hz02⟩ := info_parts info_stmt
  obtain ⟨i1, hi1, hz10, hz11, hz12⟩ := info_parts info_form
  have HI0 := Lib.hid hi0
  have HA0 := Lib.hid hz00
  have HB0 := Lib.hid hz01
  have HC0 := Lib.hid hz02
  have HI1 := Lib.hid hi1
  have HA1 := Lib.hid hz10
  have HB1 := Lib.hid hz11
  have HC1 := Lib.hid hz12
  clear hi0 hz00 hz01 hz02 hi1 hz10 hz11 hz12
  have HR := Lib.hid hR
  have HN := Lib.hid hn
  have HLF := Lib.hid hLF
  have HE := Lib.hid hE
  have HLEAF := Lib.hid hleaf
  have hr := blk3b w #[.string ka, .string kb, .string kc, .string kd] #[.slice none 0 0, .slice none 0 0] #[.string cc] 26 68 22
  have hs := blk3c w #[.string ka, .string kb, .string kc, .string kd] #[.slice none 0 0, .slice none 0 0] #[.string cc] 26 68 22
  have hBW := b3 w (.cells #[.string ka, .string kb, .string kc, .string kd] 26) (.cells #[.slice none 0 0, .slice none 0 0] 68) (.cells #[.string cc] 22)
  replace hK := hK.after hBW
  replace hC := hC.after hBW
  replace hV := hV.after hBW
  have e3 : ((n : Int) == 0) = false := by rw [beq_eq_false_iff_ne]; omega
  have e4 : decide ((256 : Int) < (n : Int)) = false := decide_eq_false (by omega)
  clear hR hn hLF hE hleaf
  go_enter Tryz.func53, Tryz.ntmps53
  go_wp2_with fail
  refine (HR.out _ _ hs).mono ?_
  rintro e w3 ⟨rfl, hb3⟩
  replace hr := hr.after hb3
  replace hK := hK.after hb3
  replace hC := hC.after hb3
  replace hV := hV.after hb3
  replace hBW := bt hBW hb3
  clear hb3 hs
  have hob := Blk.new w3 #[.slice none 0 0, .slice none 0 0] 68
  have hB3 := b1 w3 (.cells #[.slice none 0 0, .slice none 0 0] 68)
  have hCR : CRel (w3.heap.size + 1) w3.heap.size p q ((V.take 0).map LF) 0 (.slice none 0 0) w3 (w3.alloc (.cells #[.slice none 0 0, .slice none 0 0] 68)) := ⟨_, hob, CLs.nil _ _ _ _, fun _ => rfl, fun _ => rfl, FAt.nil _ _, hB3⟩
  clear hob hB3
  go_wp2
  go_loopw [38, 14] (fun i o wr => ∃ k : Nat, k ≤ n ∧ i = .int .i64 k ∧ CRel (w3.heap.size + 1) w3.heap.size p q ((V.take k).map LF) k o w3 wr) (fun i _ _ => n - (intOf i).toNat)
  case atStart => exact ⟨0, by omega, rfl, hCR⟩
  case round =>
    obtain ⟨k, hk, rfl, lv, hob, hCL, HNIL, HNF0, hFA, hbr⟩ := hrel
    clear hCR
    obtain ⟨wp, hwp⟩ : ∃ wp, wp = wr := ⟨_, rfl⟩
    subst hwp
    have hKp := hK.after hbr
    have hCp := hC.after hbr
    have hsz := hbr.size
    have hobl := hob.lt
    obtain ⟨fv, hfv, hFA, HNF⟩ : ∃ fv, fv = _ ∧ FAt wp (w3.heap.size + 1) fv k ∧ Hid (k = 0 → fv = .slice none 0 0) := ⟨_, rfl, hFA, HNF0⟩
    subst hfv
    clear HNF0
    by_cases hlt : k < n
    · have hkl : k < V.length := by rw [HN.out]; exact hlt
      have HM := Lib.hid (map_take1 LF V k hkl)
      have HLE : Hid (((V.take k).map LF).length = k) := by rw [Hid, List.length_map, List.length_take]; omega
      have HLF1 : Hid (∀ x ∈ (V.take k).map LF, 0 < x.2.length) := by intro x hx; obtain ⟨v, _, rfl⟩ := List.mem_map.1 hx; exact HLF.out v
      have HVK := Lib.hid (HLEAF.out _ (List.getElem_mem hkl))
      have HL1 := Lib.hid (HLF.out (V[k]'hkl))
      obtain ⟨b, o, rfl, hbl, hcell⟩ := (hV.after hbr).at_ hkl
      generalize V[k]'hkl = vk at hcell HVK HM HL1
      generalize (V.take k).map LF = L at hCL HM HLE HLF1 HNIL
      generalize LF vk = tb at HVK HM HL1
      obtain ⟨tt, TB⟩ := tb
      have h0k : (0 : Int) ≤ (k : Int) := by omega
      have h1k : (k : Int) < (n : Int) := by omega
      have HNL := Lib.hid HNIL
      clear HNIL
      have hobc0 := hob.cell 0
      have hobf0 := hob.free 0
      have hobc1 := hob.cell 1
      have hobf1 := hob.free 1
      go_upto_region 11 with fail
      go_cut [48] (fun s wx => CRel (w3.heap.size + 1) w3.heap.size p q (L ++ [(tt, TB)]) k fv w3 wx)
      case first =>
        go_region_law (first | (refine step_dyn (by rfl) f (.tmp 44) (.tmp 45) 3 #[.pointer (some ⟨bk, 0, none⟩), .pointer (some ⟨bc, 0, none⟩)] (by rfl) (by rfl) HE.out (.int .i64 vk) (by rfl) (HVK.out _ hKp.drew hCp.drew) ?_; rintro e wf ⟨g1, g2, g3, g4, c1, c2, c3, c4, rfl, hstm, hkk, hbf⟩; refine ⟨_, rfl, ?_⟩; have hbf' : Below wp.heap.size wp wf := (Below.drew (Below.refl _ _)).trans hbf; have hobf := hob.after hbf'; have u0 := hobf.cell 0; have u1 := hobf.free 0; have u2 : w3.heap.size < wf.heap.size := hobf.lt; have hsf : w3.heap.size + 1 ≤ wf.heap.size := u2; have hCLf := hCL.after hbf'; obtain ⟨xs, hx1, hx2⟩ := hCLf; rw [HLE.out] at hx1) | (refine step_append_lies _ (by rfl) (.tmp 43) (.tmp 47) _ (by rfl) (w3.heap.size + 1) 33 i0 _ 3 72 Tryz.underlying63 HI0.out HA0.out HB0.out HC0.out rfl (by omega) lv k _ (by rfl) (own_after hx1 (b1 _ (.cells #[.slice (some ⟨g1, 0, none⟩) 1 c1, .slice (some ⟨g2, 0, none⟩) TB.length c2, .slice (some ⟨g3, 0, none⟩) 1 c3] 33))) ⟨wf.heap.size, 0, none⟩ 1 1 [.slice (some ⟨g1, 0, none⟩) 1 c1, .slice (some ⟨g2, 0, none⟩) TB.length c2, .slice (some ⟨g3, 0, none⟩) 1 c3] (by rfl) rfl (Blk.new wf #[.slice (some ⟨g1, 0, none⟩) 1 c1, .slice (some ⟨g2, 0, none⟩) TB.length c2, .slice (some ⟨g3, 0, none⟩) 1 c3] 33).cells (by simp [Value.oneCell']) (by omega) (by simp only [maxLen]; omega) (by omega) (by rw [World.size_alloc]; omega) (wf.heap.size + 1) (by simp) ?_; intro ga ca wa hown hgrow hat hlt2; have hoba := (hobf.alloc (.cells #[.slice (some ⟨g1, 0, none⟩) 1 c1, .slice (some ⟨g2, 0, none⟩) TB.length c2, .slice (some ⟨g3, 0, none⟩) 1 c3] 33)).grown hgrow (own_ne hx1 hobf (by decide)); have s0 := hoba.cell 0; have s1 := hoba.free 0))
        all_goals
          go_wp2_with fail
          go_meet
          refine ⟨.slice (some ⟨ga, 0, none⟩) (k + 1) ca, hoba.set 0 _, CLs.set (CLs.pushed (by rw [HLE.out]; exact hx1) hx2 HLF1.out HNL.out hstm HL1.out ?_ hgrow (by rw [HLE.out]; exact hown)) (by omega), fun e => by simp at e, HNF.out, FAt.set ((((hFA.after hbf').after (b1 _ _)).grown (own_after hx1 (b1 _ _)) (by decide) (by decide) hgrow)) (by omega), ?_⟩
          · have k1 : wp.heap.size ≤ g1 := hkk.1
            have k2 : wp.heap.size ≤ g2 := hkk.2.1
            have k3 : wp.heap.size ≤ g3 := hkk.2.2.1
            have k4 : wp.heap.size ≤ g4 := hkk.2.2.2
            exact ⟨by omega, by omega, by omega, by omega⟩
          · exact ((ba (bt hbr hbf') _).grown hgrow (by rw [World.size_alloc]; omega) (fun x hx => by have := (own_lt hx1 hx).2; omega)).setCell (by simp) _
      case rest =>
        clear hobc0 hobf0 hobc1 hobf1
        clear hob hCL hFA hbr HNL hsz hKp hCp hobl HVK
        obtain ⟨lv2, hob, hCL, HNL, _, hFA, hbr⟩ := hcut
        obtain ⟨w6, hw6⟩ : ∃ w6, w6 = wc := ⟨_, rfl⟩
        subst hw6
        have HLA : Hid (∀ x ∈ L ++ [(tt, TB)], 0 < x.2.length) := by
          intro x hx
          rcases List.mem_append.1 hx with h | h
          · exact HLF1.out x h
          · rw [List.mem_singleton] at h; rw [h]; exact HL1.out
        have hobl6 := hob.lt
        go_wp2_with fail
        refine (leaf_c _).mono ?_
        rintro e w7 ⟨b7, rfl, hb7, hle7, hbw7⟩
        replace hob := hob.after hbw7
        replace hCL := hCL.after hbw7
        obtain ⟨ys, hy1, hy2⟩ := hFA.after hbw7
        have hsz6 := hbr.size
        replace hbr := bt hbr hbw7
        have hsz7 := hbr.size
        have hobl := hob.lt
        have hle : w3.heap.size + 1 ≤ b7 := by have := hbw7.size; omega
        go_wp2_with (at_builtin; refine wpList_append_lies _ rfl (.tmp 50) (.tmp 52) _ rfl (w3.heap.size + 1) 66 i1 _ 1 24 Tryz.underlying131 HI1.out HA1.out HB1.out HC1.out rfl (by omega) fv k _ rfl (own_after hy1 (b1 _ (.cells #[.slice (some ⟨b7, 0, none⟩) 1 1] 66))) ⟨w7.heap.size, 0, none⟩ 1 1 [.slice (some ⟨b7, 0, none⟩) 1 1] rfl rfl (Blk.new w7 #[.slice (some ⟨b7, 0, none⟩) 1 1] 66).cells (by simp [Value.oneCell']) (by omega) (by simp only [maxLen]; omega) (by omega) (by rw [World.size_alloc]; omega) (w7.heap.size + 1) (by simp) ?_; intro ga ca wa hown hgrow hat hlt2)
        have hyl := hy1.1
        have hy0 : ys = [] ∨ ∃ a m c, ys[0]? = some (.slice a m c) := by
          by_cases h0 : 0 < k
          · obtain ⟨b8, x1, _⟩ := hy2 0 h0
            exact .inr ⟨_, _, _, x1⟩
          · exact .inl (List.length_eq_zero_iff.1 (by omega))
        have hyn : ys = [] → fv.ownBlock = none := by
          intro hx
          rw [hx] at hyl
          rw [HNF.out (by have h3 : (0 : Nat) = k * 1 := hyl; omega)]
          rfl
        have hCR : CRel (w3.heap.size + 1) w3.heap.size p q (L ++ [(tt, TB)]) (k + 1) (.slice (some ⟨ga, 0, none⟩) (k + 1) ca) w3 wa :=
          ⟨lv2, (hob.alloc _).grown hgrow (own_ne hy1 hob (by decide)), (hCL.after (b1 _ _)).grown HLA.out (own_after hy1 (b1 _ _)) (by decide) hy0 hyn hgrow, HNL, fun h => by omega,
            FAt.push (own_after hy1 (b1 _ _)) (fun j hj => (hy2 j hj).imp fun y hy => ⟨hy.1, hy.2.1.alloc _, hy.2.2⟩) (hb7.alloc _) hle hgrow hown, (ba hbr _).grown hgrow (by rw [World.size_alloc]; omega) (fun x hx => by have := (own_lt hy1 hx).2; omega)⟩
        rw [← HM.out] at hCR
        clear hown hgrow hat hlt2 hy1 hy2 hyn hy0
        go_wp2
        go_roundw
        case rel => exact ⟨k + 1, by omega, by go_num, hCR⟩
        case measure => simp [intOf]; omega
    · obtain rfl : k = n := by omega
      have HF : Hid (V.take k = V) := by rw [Hid, ← HN.out, List.take_length]
      rw [HF.out] at hCL
      have hrp := hr.after hbr
      have hr1 : w.heap.size + 1 < w3.heap.size := hr.lt
      have hrl := hrp.lt
      have q1 : w.heap.size + 1 ≠ w3.heap.size := by omega
      have q2 : w3.heap.size ≠ w.heap.size + 1 := by omega
      go_wp2_with fail
      refine (join_c k need fv _ _ h0 hn2 hd1 hd2 hFA).mono ?_
      rintro e w8 ⟨gv, rfl, hG, hb8⟩
      obtain ⟨gg, gc, rfl, hgg, _⟩ := GAm.form hG
      replace hob := hob.after hb8
      replace hCL := hCL.after hb8
      replace hrp := hrp.after hb8
      replace hbr := bt hbr hb8
      have hobl8 := hob.lt
      have hrl8 := hrp.lt
      obtain ⟨lo, lc, rfl⟩ := hCL.form
      generalize (V.map LF).length = ll at hob hCL
      have hB8 := bt hBW hbr
      have q5 : w3.heap.size ≠ w8.heap.size := by omega
      have q6 : w.heap.size + 1 ≠ w8.heap.size := by omega
      have hobc0 := hob.cell 0
      have hobf0 := hob.free 0
      have hobc1 := hob.cell 1
      have hobf1 := hob.free 1
      have hrpc0 := hrp.cell 0
      have hrpf0 := hrp.free 0
      have hrpc1 := hrp.cell 1
      have hrpf1 := hrp.free 1
      go_wp2
      refine bodyPost_ret (v := .tuple #[.agg #[.slice lo ll lc, .slice (some ⟨gg, 0, none⟩) (k + 1) gc], .int .i64 0]) ?_ rfl ⟨_, _, rfl, ⟨?_, ?_⟩, ?_⟩
      · simp [results, Tryz.results53, go_sem, hrpc0, hrpc1, hrl8, q1, q2]
      · exact CLs.mono ((CLs.set (CLs.set (CLs.set hCL (by omega)) (by omega)) (by omega)).after (b1 _ _)) (by omega)
      · exact GAt.mono (GAm.after (GAm.set (GAm.set (GAm.set hG (by omega)) (by omega)) (by omega)) (b1 _ _)) (by omega)
      · exact ba (((hB8.setCell (by simp; omega) _).setCell (by simp) _).setCell (by simp) _) _

end Go.Proofs.YtecobjddpinonaaGreat
end

section
set_option linter.unusedVariables false
set_option linter.unusedSimpArgs false
set_option maxRecDepth 100000
namespace Go.Proofs.YtecobjddpinonaaGreat
open Go.RowKit Go.Shelf

set_option maxHeartbeats 1600000 in
theorem clause_err (ka kb kc kd cc : ByteArray) (p q k : Nat) (ao : Option Addr) (n cap : Nat) (need : Int) (fv : Value) (w : World) (hk : k ≠ 0)
    (hR : ∀ (w' : World) (b : Nat), Blk w' b 22 [.string cc] → Calls Tryz.prog 33 #[.agg #[.string ka, .string kb, .string kc, .string kd], .slice (some ⟨b, 0, none⟩) 1 1] w' fun e w'' => e = .returned (.int .i64 k) ∧ Below w'.heap.size w' w'') :
    Calls Tryz.prog 53 #[.agg #[.string ka, .string kb, .string kc, .string kd], .string cc, .slice ao n cap, .int .i64 need, fv] w (CPost w p q none k) := by
  have HR := Lib.hid hR
  have hr := blk3b w #[.string ka, .string kb, .string kc, .string kd] #[.slice none 0 0, .slice none 0 0] #[.string cc] 26 68 22
  have hs := blk3c w #[.string ka, .string kb, .string kc, .string kd] #[.slice none 0 0, .slice none 0 0] #[.string cc] 26 68 22
  have e1 : ((k : Int) == 0) = false := by rw [beq_eq_false_iff_ne]; omega
  have e2 : ((k : Int) != 0) = true := by rw [bne_iff_ne]; omega
  clear hR
  go_enter Tryz.func53, Tryz.ntmps53
  go_wp2_with fail
  refine (HR.out _ _ hs).mono ?_
  rintro e w1 ⟨rfl, hb1⟩
  replace hr := hr.after hb1
  have hrc0 := hr.cell 0
  have hrf0 := hr.free 0
  have hrc1 := hr.cell 1
  have hrf1 := hr.free 1
  go_wp2
  refine bodyPost_ret (v := .tuple #[.agg #[.slice none 0 0, .slice none 0 0], .int .i64 k]) ?_ rfl ⟨_, _, rfl, ⟨rfl, rfl⟩, ?_⟩
  · simp [results, Tryz.results53, go_sem, hrc0, hrc1]
  · exact ((bt (b3 _ _ _ _) hb1).setCell (by simp) _).setCell (by simp) _

set_option maxHeartbeats 1600000 in
theorem clause_zero (ka kb kc kd cc : ByteArray) (p q : Nat) (ao : Option Addr) (cap : Nat) (need : Int) (fv : Value) (w : World)
    (hR : ∀ (w' : World) (b : Nat), Blk w' b 22 [.string cc] → Calls Tryz.prog 33 #[.agg #[.string ka, .string kb, .string kc, .string kd], .slice (some ⟨b, 0, none⟩) 1 1] w' fun e w'' => e = .returned (.int .i64 0) ∧ Below w'.heap.size w' w'') :
    Calls Tryz.prog 53 #[.agg #[.string ka, .string kb, .string kc, .string kd], .string cc, .slice ao 0 cap, .int .i64 need, fv] w (CPost w p q none 6) := by
  have HR := Lib.hid hR
  have hr := blk3b w #[.string ka, .string kb, .string kc, .string kd] #[.slice none 0 0, .slice none 0 0] #[.string cc] 26 68 22
  have hs := blk3c w #[.string ka, .string kb, .string kc, .string kd] #[.slice none 0 0, .slice none 0 0] #[.string cc] 26 68 22
  clear hR
  go_enter Tryz.func53, Tryz.ntmps53
  go_wp2_with fail
  refine (HR.out _ _ hs).mono ?_
  rintro e w1 ⟨rfl, hb1⟩
  replace hr := hr.after hb1
  have hrc0 := hr.cell 0
  have hrf0 := hr.free 0
  have hrc1 := hr.cell 1
  have hrf1 := hr.free 1
  go_wp2
  refine bodyPost_ret (v := .tuple #[.agg #[.slice none 0 0, .slice none 0 0], .int .i64 6]) ?_ rfl ⟨_, _, rfl, ⟨rfl, rfl⟩, ?_⟩
  · simp [results, Tryz.results53, go_sem, hrc0, hrc1]
  · exact ((bt (b3 _ _ _ _) hb1).setCell (by simp) _).setCell (by simp) _

set_option maxHeartbeats 1600000 in
theorem member_of (ka kb kc kd cc : ByteArray) (p q k : Nat) (x : Option (List (Nat × List Nat) × Int × Nat)) (ao : Option Addr) (n cap : Nat) (w : World)
    (hC : ∀ w' : World, w' = ((w.alloc (.cells #[.string ka, .string kb, .string kc, .string kd] 26)).alloc (.cells #[.string cc] 22)).alloc (.cells #[.slice none 0 0, .slice none 0 0] 68) → Calls Tryz.prog 53 #[.agg #[.string ka, .string kb, .string kc, .string kd], .string cc, .slice ao n cap, .int .i64 1, .func (.func 54) #[] #[.pointer (some ⟨w.heap.size, 0, none⟩), .pointer (some ⟨w.heap.size + 1, 0, none⟩)]] w' (CPost w' p q x k)) :
    Calls Tryz.prog 27 #[.agg #[.string ka, .string kb, .string kc, .string kd], .string cc, .slice ao n cap] w (CPost w p q x k) := by
  have HC := Lib.hid hC
  have hr := blk3c w #[.string ka, .string kb, .string kc, .string kd] #[.string cc] #[.slice none 0 0, .slice none 0 0] 26 22 68
  have hBW := b3 w (.cells #[.string ka, .string kb, .string kc, .string kd] 26) (.cells #[.string cc] 22) (.cells #[.slice none 0 0, .slice none 0 0] 68)
  clear hC
  go_enter Tryz.func27, Tryz.ntmps27
  go_wp2_with fail
  refine (HC.out _ rfl).mono ?_
  rintro e w4 ⟨lv, gv, rfl, hx, hb4⟩
  obtain ⟨a1, n1, c1, a2, n2, c2, rfl, rfl⟩ := hx.form
  simp only [World.size_alloc] at hx
  replace hr : Blk w4 (w.heap.size + 2) 68 [.slice none 0 0, .slice none 0 0] := hr.after hb4
  replace hBW := bt hBW hb4
  have hl := hr.lt
  have hrc0 := hr.cell 0
  have hrf0 := hr.free 0
  have hrc1 := hr.cell 1
  have hrf1 := hr.free 1
  go_wp2
  refine bodyPost_ret (v := .tuple #[.agg #[.slice a1 n1 c1, .slice a2 n2 c2], .int .i64 k]) ?_ rfl ⟨_, _, rfl, ?_, ?_⟩
  · simp [results, Tryz.results27, go_sem, hrc0, hrc1, hl]
  · exact CX.mono (CX.set (CX.set hx (by omega)) (by omega)) (by omega)
  · exact (hBW.setCell (by simp; omega) _).setCell (by simp; omega) _

set_option maxHeartbeats 1600000 in
theorem outside_of (ka kb kc kd cc : ByteArray) (p q k : Nat) (x : Option (List (Nat × List Nat) × Int × Nat)) (ao : Option Addr) (n cap : Nat) (w : World)
    (hC : ∀ w' : World, w' = ((w.alloc (.cells #[.string ka, .string kb, .string kc, .string kd] 26)).alloc (.cells #[.string cc] 22)).alloc (.cells #[.slice none 0 0, .slice none 0 0] 68) → Calls Tryz.prog 53 #[.agg #[.string ka, .string kb, .string kc, .string kd], .string cc, .slice ao n cap, .int .i64 (n : Int), .func (.func 56) #[] #[.pointer (some ⟨w.heap.size, 0, none⟩), .pointer (some ⟨w.heap.size + 1, 0, none⟩)]] w' (CPost w' p q x k)) :
    Calls Tryz.prog 29 #[.agg #[.string ka, .string kb, .string kc, .string kd], .string cc, .slice ao n cap] w (CPost w p q x k) := by
  have HC := Lib.hid hC
  have hr := blk3c w #[.string ka, .string kb, .string kc, .string kd] #[.string cc] #[.slice none 0 0, .slice none 0 0] 26 22 68
  have hBW := b3 w (.cells #[.string ka, .string kb, .string kc, .string kd] 26) (.cells #[.string cc] 22) (.cells #[.slice none 0 0, .slice none 0 0] 68)
  clear hC
  go_enter Tryz.func29, Tryz.ntmps29
  go_wp2_with fail
  refine (HC.out _ rfl).mono ?_
  rintro e w4 ⟨lv, gv, rfl, hx, hb4⟩
  obtain ⟨a1, n1, c1, a2, n2, c2, rfl, rfl⟩ := hx.form
  simp only [World.size_alloc] at hx
  replace hr : Blk w4 (w.heap.size + 2) 68 [.slice none 0 0, .slice none 0 0] := hr.after hb4
  replace hBW := bt hBW hb4
  have hl := hr.lt
  have hrc0 := hr.cell 0
  have hrf0 := hr.free 0
  have hrc1 := hr.cell 1
  have hrf1 := hr.free 1
  go_wp2
  refine bodyPost_ret (v := .tuple #[.agg #[.slice a1 n1 c1, .slice a2 n2 c2], .int .i64 k]) ?_ rfl ⟨_, _, rfl, ?_, ?_⟩
  · simp [results, Tryz.results29, go_sem, hrc0, hrc1, hl]
  · exact CX.mono (CX.set (CX.set hx (by omega)) (by omega)) (by omega)
  · exact (hBW.setCell (by simp; omega) _).setCell (by simp; omega) _

end Go.Proofs.YtecobjddpinonaaGreat
end

section
set_option linter.unusedVariables false
set_option linter.unusedSimpArgs false
set_option maxRecDepth 100000
namespace Go.Proofs.YtecobjddpinonaaGreat
open Go.RowKit Go.Shelf

/-- no cell of a statement's blocks begins so -/
def Apart (u : Value) : Prop := (∀ s, u ≠ .string s) ∧ u ≠ .int .i64 0

theorem Stm.grown2 {w w' : World} {g1 g2 g3 g4 c4 p q t : Nat} {B : List Nat} (h : Stm w g1 g2 g3 g4 c4 p q t B) (hB : 0 < B.length) {base n size : Nat} {e : TypeId} {v : Value} {xs : List Value} (k : w.ownsRow base e size v n xs)
    (hx : v.ownBlock = none ∨ ∃ u, xs[0]? = some u ∧ Apart u) (hg : w.grownBy w' v.ownBlock) : Stm w' g1 g2 g3 g4 c4 p q t B := by
  have ne : ∀ {g : Nat} {u : Value}, w.cell? ⟨g, 0, none⟩ = some u → ((∃ s, u = .string s) ∨ u = .int .i64 0) → v.ownBlock ≠ some g := by
    intro g u hu hne
    rcases hx with hx | ⟨u', hx, ha⟩
    · rw [hx]; simp
    · refine own_ne_cell k hx hu (fun e => ?_)
      subst e
      rcases hne with ⟨s, hs⟩ | hs
      · exact ha.1 s hs
      · exact ha.2 hs
  refine h.keep hg.size (hg.block g1 h.l1 (fun e => ne h.m0 (.inl ⟨_, rfl⟩) e.symm)) (hg.block g2 h.l2 (fun e => ne (h.vs 0 hB) (.inl ⟨_, rfl⟩) e.symm)) (hg.block g3 h.l3 (fun e => ne h.e0 (.inr rfl) e.symm)) (hg.block g4 h.l4 (fun e => ne (g := g4) (u := .string (E B[0])) (by simpa using h.t0 0 hB) (.inl ⟨_, rfl⟩) e.symm))

theorem CLs.grown2 {w w' : World} {base p q : Nat} {v : Value} {L : List (Nat × List Nat)} (h : CLs w base v p q L) (hL : ∀ x ∈ L, 0 < x.2.length) {base' n size : Nat} {e : TypeId} {v' : Value} {ys : List Value} (k : w.ownsRow base' e size v' n ys) (he : e ≠ 33)
    (hx : v'.ownBlock = none ∨ ∃ u, ys[0]? = some u ∧ Apart u) (hg : w.grownBy w' v'.ownBlock) : CLs w' base v p q L := by
  obtain ⟨xs, h1, h2⟩ := h
  refine ⟨xs, own_keep h1 fun g hv => hg.block g (own_lt h1 hv).1 (fun e' => own_ne2 h1 k (Ne.symm he) hv e'.symm), fun j hj => ?_⟩
  obtain ⟨g1, g2, g3, g4, c1, c2, c3, c4, x1, x2, x3, x4, x5⟩ := h2 j hj
  exact ⟨g1, g2, g3, g4, c1, c2, c3, c4, x1, x2, x3, x4.grown2 (hL _ (List.getElem_mem hj)) k hx hg, x5⟩

theorem CLs.stored {w : World} {base p q : Nat} {v : Value} {L : List (Nat × List Nat)} (h : CLs w base v p q L) (hL : ∀ x ∈ L, 0 < x.2.length) {base' n size g c : Nat} {e : TypeId} {ys : List Value} (k : w.ownsRow base' e size (.slice (some ⟨g, 0, none⟩) n c) n ys) (he : e ≠ 33)
    (hx : ∃ u, ys[0]? = some u ∧ Apart u) (j : Nat) (u : Value) : CLs (w.setCell ⟨g, j, none⟩ u) base v p q L :=
  h.grown2 hL k he (.inr hx) (k.stored j u).2

theorem apart_kids {kv : Value} {n : Nat} (h : n = 0 → kv.ownBlock = none) : kv.ownBlock = none ∨ ∃ u, (kcs n)[0]? = some u ∧ Apart u := by
  cases n with
  | zero => exact .inl (h rfl)
  | succ n => exact .inr ⟨_, kcs_get (n + 1) 0 (by omega), fun s => by simp, by simp⟩

theorem apart_gates (need : Int) (kv : Value) (n : Nat) (h : need ≠ 0) : ∃ u, (gcs need kv n)[0]? = some u ∧ Apart u := ⟨_, rfl, fun s => by simp, by simpa using h⟩

/-- a call with two arguments -/
theorem step_call2 {P : Program} {ops : Array Oper} {o : Oper} {a : Act} {w : World} {K : Act → World → Prop} {Q : Exit → Act → World → Prop} {E : Prop} (hgd : o.guard = none) (f : FuncId) (x y : Operand) (t u : TypeId)
    (ho : o.op = .call { callee := .value (.func f), args := #[x, y], argTypes := #[t, u] }) (hE : ∀ args w, (callFunc f args).run P w = .ok (.enter f args) w) (vx vy : Value) (hx : a.eval x = vx) (hy : a.eval y = vy) {R : Ending → World → Prop}
    (hc : Calls P f #[vx, vy] w R) (h : ∀ e w', R e w' → ∃ v, e = .returned v ∧ K (a.put o.dst v) w') :
    if Region.wanted o (yielded ops a.tmps) = true then Oper.wp P o a w K Q else E :=
  step_callP hgd f #[x, y] #[t, u] ho hE #[vx, vy] (by simp [hx, hy]) hc h

theorem rmany_no (ao : Option Addr) (n c : Nat) (w : World) (h0 : 0 < n) (hn : n ≤ 256) : Calls Tryz.prog 49 #[.slice ao n c] w fun e w' => e = .returned (.bool false) ∧ w' = w := by
  have e3 : ((n : Int) == 0) = false := by rw [beq_eq_false_iff_ne]; omega
  have e4 : decide ((256 : Int) < (n : Int)) = false := decide_eq_false (by omega)
  go_enter Tryz.func49, Tryz.ntmps49
  go_wp2
  go_ret
  exact ⟨rfl, rfl⟩

theorem rmany_zero (ao : Option Addr) (c : Nat) (w : World) : Calls Tryz.prog 49 #[.slice ao 0 c] w fun e w' => e = .returned (.bool true) ∧ w' = w := by
  go_enter Tryz.func49, Tryz.ntmps49
  go_wp2
  go_ret
  exact ⟨rfl, rfl⟩

/-- between two rounds of the reference's 'clause' -/
structure RRel (B ob rb p q : Nat) (L : List (Nat × List Nat)) (k : Nat) (gv : Value) (w0 wr : World) (lv kv : Value) : Prop where
  o : Blk wr ob 68 [lv, .slice none 0 0]
  r : Blk wr rb 136 [.int .i64 1, kv, .int .i64 0]
  c : CLs wr B lv p q L
  cn : L = [] → lv = .slice none 0 0
  g : wr.ownsRow B 136 3 gv (k + 1) (gcs 1 (.slice none 0 0) k)
  ki : wr.ownsRow B 3 1 kv k (kcs k)
  kn : k = 0 → kv = .slice none 0 0
  b : Below w0.heap.size w0 wr

theorem RRel.after {B ob rb p q : Nat} {L : List (Nat × List Nat)} {k : Nat} {gv : Value} {w0 wr wx : World} {lv kv : Value} (h : RRel B ob rb p q L k gv w0 wr lv kv) (hb : Below wr.heap.size wr wx) : RRel B ob rb p q L k gv w0 wx lv kv :=
  ⟨h.o.after hb, h.r.after hb, h.c.after hb, h.cn, own_after h.g hb, own_after h.ki hb, h.kn, bt h.b hb⟩

/-- a kid and a gate more -/
theorem RRel.step {B ob rb p q : Nat} {L : List (Nat × List Nat)} {k : Nat} {gv : Value} {w0 w wa wb : World} {lv kv : Value} {o1 o2 : Obj} {ga ca gb cb : Nat} (h : RRel B ob rb p q L k gv w0 w lv kv) (hL : ∀ x ∈ L, 0 < x.2.length) (x1 : ob < rb) (x2 : rb < B) (x3 : w0.heap.size ≤ ob)
    (hg : (w.alloc o1).grownBy wa kv.ownBlock) (ho : wa.ownsRow B 3 1 (.slice (some ⟨ga, 0, none⟩) (k + 1) ca) (k + 1) (kcs k ++ [.int .i64 ((k : Int) + 1)]))
    (hg2 : ((wa.setCell ⟨rb, 1, none⟩ (.slice (some ⟨ga, 0, none⟩) (k + 1) ca)).alloc o2).grownBy wb gv.ownBlock) (ho2 : wb.ownsRow B 136 3 (.slice (some ⟨gb, 0, none⟩) (k + 1 + 1) cb) (k + 1 + 1) (gcs 1 (.slice none 0 0) k ++ [.int .i64 0, .slice none 0 0, .int .i64 (k : Int)])) :
    RRel B ob rb p q L (k + 1) (.slice (some ⟨gb, 0, none⟩) (k + 1 + 1) cb) w0 wb lv (.slice (some ⟨ga, 0, none⟩) (k + 1) ca) := by
  have hk1 := own_after h.ki (b1 w o1)
  have hg1 := own_after h.g (b1 w o1)
  have hko : k = 0 → kv.ownBlock = none := fun e => by rw [h.kn e]; rfl
  have hga := own_grown hg1 hk1 (by decide) hg
  have hgn : gv.ownBlock ≠ some rb := fun e => by have := (own_lt h.g e).2; omega
  have hgs := own_set (i := 1) (u := .slice (some ⟨ga, 0, none⟩) (k + 1) ca) hga hgn
  have hg3 := own_after hgs (b1 _ o2)
  have hkn : (Value.slice (some ⟨ga, 0, none⟩) (k + 1) ca).ownBlock ≠ some rb := fun e => by have := (own_lt ho e).2; omega
  have hks := own_set (i := 1) (u := .slice (some ⟨ga, 0, none⟩) (k + 1) ca) ho hkn
  have hk3 := own_after hks (b1 _ o2)
  have ho1 := (h.o.alloc o1).grown hg (own_ne h.ki h.o (by decide))
  have hr1 := (h.r.alloc o1).grown hg (own_ne h.ki h.r (by decide))
  have hc1 := (h.c.after (b1 w o1)).grown2 hL hk1 (by decide) (apart_kids hko) hg
  refine ⟨?_, ?_, ?_, h.cn, by rw [gcs_succ]; exact ho2, by rw [kcs_succ]; exact own_grown hk3 hg3 (by decide) hg2, fun e => by omega, ?_⟩
  · exact ((ho1.other ⟨rb, 1, none⟩ _ (by simp; omega)).alloc o2).grown hg2 (own_ne hgs (ho1.other ⟨rb, 1, none⟩ _ (by simp; omega)) (by decide))
  · exact ((hr1.set 1 _).alloc o2).grown hg2 hgn
  · exact ((hc1.set x2).after (b1 _ o2)).grown2 hL hg3 (by decide) (.inr (apart_gates _ _ _ (by decide))) hg2
  · have b0 := h.b
    have s0 := b0.size
    have b1' := (ba b0 o1).grown hg (by rw [World.size_alloc]; omega) (fun x hx => by have := (own_lt h.ki hx).2; omega)
    have b2' := b1'.setCell (p := ⟨rb, 1, none⟩) (by simp; omega) (.slice (some ⟨ga, 0, none⟩) (k + 1) ca)
    exact (ba b2' o2).grown hg2 (by rw [World.size_alloc, World.size_setCell]; have := hg.size; rw [World.size_alloc] at this; omega) (fun x hx => by have := (own_lt h.g hx).2; omega)

/-- the root is stored into the row -/
theorem fin_gate {w : World} {B gg gc k p q : Nat} {need : Int} {kv lv : Value} {L : List (Nat × List Nat)} (hc : CLs w B lv p q L) (hL : ∀ x ∈ L, 0 < x.2.length) (hg : w.ownsRow B 136 3 (.slice (some ⟨gg, 0, none⟩) (k + 1) gc) (k + 1) (gcs 1 (.slice none 0 0) k)) (hk : w.ownsRow B 3 1 kv k (kcs k)) (hn : need ≠ 0) :
    CLs (((w.setCell ⟨gg, 0, none⟩ (.int .i64 need)).setCell ⟨gg, 1, none⟩ kv).setCell ⟨gg, 2, none⟩ (.int .i64 0)) B lv p q L ∧ GAt (((w.setCell ⟨gg, 0, none⟩ (.int .i64 need)).setCell ⟨gg, 1, none⟩ kv).setCell ⟨gg, 2, none⟩ (.int .i64 0)) B (.slice (some ⟨gg, 0, none⟩) (k + 1) gc) need k := by
  have g1 : (w.setCell ⟨gg, 0, none⟩ (.int .i64 need)).ownsRow B 136 3 (.slice (some ⟨gg, 0, none⟩) (k + 1) gc) (k + 1) (gcs need (.slice none 0 0) k) := (hg.stored 0 (.int .i64 need)).1
  have g2 : ((w.setCell ⟨gg, 0, none⟩ (.int .i64 need)).setCell ⟨gg, 1, none⟩ kv).ownsRow B 136 3 (.slice (some ⟨gg, 0, none⟩) (k + 1) gc) (k + 1) (gcs need kv k) := (g1.stored 1 kv).1
  have g3 : (((w.setCell ⟨gg, 0, none⟩ (.int .i64 need)).setCell ⟨gg, 1, none⟩ kv).setCell ⟨gg, 2, none⟩ (.int .i64 0)).ownsRow B 136 3 (.slice (some ⟨gg, 0, none⟩) (k + 1) gc) (k + 1) (gcs need kv k) := (g2.stored 2 (.int .i64 0)).1
  have hne : kv.ownBlock ≠ some gg := own_ne2 hg hk (by decide) rfl
  refine ⟨?_, kv, g3, own_set (own_set (own_set hk hne) hne) hne⟩
  exact ((hc.stored hL hg (by decide) (apart_gates _ _ _ (by decide)) 0 _).stored hL g1 (by decide) (apart_gates _ _ _ hn) 1 _).stored hL g2 (by decide) (apart_gates _ _ _ hn) 2 _

set_option maxHeartbeats 1600000 in
theorem rclause_err (ka kb kc kd cc : ByteArray) (p q k : Nat) (ao : Option Addr) (n cap : Nat) (i : Bool) (w : World) (hk : k ≠ 0)
    (hR : ∀ (w' : World) (b : Nat), Blk w' b 22 [.string cc] → Calls Tryz.prog 36 #[.agg #[.string ka, .string kb, .string kc, .string kd], .slice (some ⟨b, 0, none⟩) 1 1] w' fun e w'' => e = .returned (.int .i64 k) ∧ Below w'.heap.size w' w'') :
    Calls Tryz.prog 55 #[.agg #[.string ka, .string kb, .string kc, .string kd], .string cc, .slice ao n cap, .bool i] w (CPost w p q none k) := by
  have HR := Lib.hid hR
  have hr := blk3b w #[.string ka, .string kb, .string kc, .string kd] #[.slice none 0 0, .slice none 0 0] #[.string cc] 26 68 22
  have hs := blk3c w #[.string ka, .string kb, .string kc, .string kd] #[.slice none 0 0, .slice none 0 0] #[.string cc] 26 68 22
  have e1 : ((k : Int) == 0) = false := by rw [beq_eq_false_iff_ne]; omega
  have e2 : ((k : Int) != 0) = true := by rw [bne_iff_ne]; omega
  clear hR
  go_enter Tryz.func55, Tryz.ntmps55
  go_wp2_with fail
  refine (HR.out _ _ hs).mono ?_
  rintro e w1 ⟨rfl, hb1⟩
  replace hr := hr.after hb1
  have hrc0 := hr.cell 0
  have hrf0 := hr.free 0
  have hrc1 := hr.cell 1
  have hrf1 := hr.free 1
  go_wp2
  refine bodyPost_ret (v := .tuple #[.agg #[.slice none 0 0, .slice none 0 0], .int .i64 k]) ?_ rfl ⟨_, _, rfl, ⟨rfl, rfl⟩, ?_⟩
  · simp [results, Tryz.results55, go_sem, hrc0, hrc1]
  · exact ((bt (b3 _ _ _ _) hb1).setCell (by simp) _).setCell (by simp) _

set_option maxHeartbeats 1600000 in
theorem rclause_zero (ka kb kc kd cc : ByteArray) (p q : Nat) (ao : Option Addr) (cap : Nat) (i : Bool) (w : World)
    (hR : ∀ (w' : World) (b : Nat), Blk w' b 22 [.string cc] → Calls Tryz.prog 36 #[.agg #[.string ka, .string kb, .string kc, .string kd], .slice (some ⟨b, 0, none⟩) 1 1] w' fun e w'' => e = .returned (.int .i64 0) ∧ Below w'.heap.size w' w'') :
    Calls Tryz.prog 55 #[.agg #[.string ka, .string kb, .string kc, .string kd], .string cc, .slice ao 0 cap, .bool i] w (CPost w p q none 6) := by
  have HR := Lib.hid hR
  have hr := blk3b w #[.string ka, .string kb, .string kc, .string kd] #[.slice none 0 0, .slice none 0 0] #[.string cc] 26 68 22
  have hs := blk3c w #[.string ka, .string kb, .string kc, .string kd] #[.slice none 0 0, .slice none 0 0] #[.string cc] 26 68 22
  clear hR
  go_enter Tryz.func55, Tryz.ntmps55
  go_wp2_with fail
  refine (HR.out _ _ hs).mono ?_
  rintro e w1 ⟨rfl, hb1⟩
  replace hr := hr.after hb1
  have hrc0 := hr.cell 0
  have hrf0 := hr.free 0
  have hrc1 := hr.cell 1
  have hrf1 := hr.free 1
  go_wp2_with fail
  refine (rmany_zero ao cap _).mono ?_
  rintro e w' ⟨rfl, rfl⟩
  go_wp2
  refine bodyPost_ret (v := .tuple #[.agg #[.slice none 0 0, .slice none 0 0], .int .i64 6]) ?_ rfl ⟨_, _, rfl, ⟨rfl, rfl⟩, ?_⟩
  · simp [results, Tryz.results55, go_sem, hrc0, hrc1]
  · exact ((bt (b3 _ _ _ _) hb1).setCell (by simp) _).setCell (by simp) _

set_option maxHeartbeats 8000000 in
theorem rclause_in_c (p q g h c : Nat) (V : List Int) (ao : Option Addr) (n cap : Nat) (XF : Int → Nat) (w : World)
    (hR : ∀ (w' : World) (b : Nat), Blk w' b 22 [.string (E c)] → Calls Tryz.prog 36 #[.agg #[.string (E p), .string (E q), .string (E g), .string (E h)], .slice (some ⟨b, 0, none⟩) 1 1] w' fun e w'' => e = .returned (.int .i64 0) ∧ Below w'.heap.size w' w'')
    (hn : V.length = n) (h0 : 0 < n) (hn2 : n ≤ 256) (hV : NumsAt w ao V)
    (hO : ∀ v ∈ V, ∀ w', Calls Tryz.prog 38 #[.agg #[.string (E p), .string (E q), .string (E g), .string (E h)], .string (E c), .string (E g), .int .i64 v] w' fun e w'' => e = .returned (.string (E (XF v))) ∧ Below w'.heap.size w' w'') :
    Calls Tryz.prog 55 #[.agg #[.string (E p), .string (E q), .string (E g), .string (E h)], .string (E c), .slice ao n cap, .bool true] w (CPost w p q (some (V.map (fun v => (XF v, [h])), 1, n)) 0) := by
  obtain ⟨i0, hi0, hz00, hz01, hz02⟩ := info_parts info_stmt
  obtain ⟨i1, hi1, hz10, hz11, hz12⟩ := info_parts info_gate
  obtain ⟨i2, hi2, hz20, hz21, hz22⟩ := info_parts info_int
  have HI0 := Lib.hid hi0
  have HA0 := Lib.hid hz00
  have HB0 := Lib.hid hz01
  have HC0 := Lib.hid hz02
  have HI1 := Lib.hid hi1
  have HA1 := Lib.hid hz10
  have HB1 := Lib.hid hz11
  have HC1 := Lib.hid hz12
  have HI2 := Lib.hid hi2
  have HA2 := Lib.hid hz20
  have HB2 := Lib.hid hz21
  have HC2 := Lib.hid hz22
  clear hi0 hz00 hz01 hz02 hi1 hz10 hz11 hz12 hi2 hz20 hz21 hz22
  have HR := Lib.hid hR
  have HN := Lib.hid hn
  have HO := Lib.hid hO
  have HQ := Lib.hid (fun x w' => requal_c p q g h x w')
  have HEN := Lib.hid (enters_of Tryz.func37 (by kernel_rfl) rfl)
  have hp := blk3a w #[.string (E p), .string (E q), .string (E g), .string (E h)] #[.slice none 0 0, .slice none 0 0] #[.string (E c)] 26 68 22
  have hr := blk3b w #[.string (E p), .string (E q), .string (E g), .string (E h)] #[.slice none 0 0, .slice none 0 0] #[.string (E c)] 26 68 22
  have hs := blk3c w #[.string (E p), .string (E q), .string (E g), .string (E h)] #[.slice none 0 0, .slice none 0 0] #[.string (E c)] 26 68 22
  have hBW := b3 w (.cells #[.string (E p), .string (E q), .string (E g), .string (E h)] 26) (.cells #[.slice none 0 0, .slice none 0 0] 68) (.cells #[.string (E c)] 22)
  replace hV := hV.after hBW
  clear hR hn hO
  go_enter Tryz.func55, Tryz.ntmps55
  go_wp2_with fail
  refine (HR.out _ _ hs).mono ?_
  rintro e w3 ⟨rfl, hb3⟩
  replace hp := hp.after hb3
  replace hr := hr.after hb3
  replace hV := hV.after hb3
  replace hBW := bt hBW hb3
  clear hb3 hs HR
  have hp1 : w.heap.size < w3.heap.size := hp.lt
  have hr1 : w.heap.size + 1 < w3.heap.size := hr.lt
  go_wp2_with fail
  refine (rmany_no ao n cap _ h0 hn2).mono ?_
  rintro e w' ⟨rfl, hw'⟩
  subst w'
  have hRR : RRel (w3.heap.size + 2) w3.heap.size (w3.heap.size + 1) p q ((V.take 0).map (fun v => (XF v, [h]))) 0 (.slice (some ⟨w3.heap.size + 2, 0, none⟩) 1 1) w3 (((w3.alloc (.cells #[.slice none 0 0, .slice none 0 0] 68)).alloc (.cells #[.int .i64 1, .slice none 0 0, .int .i64 0] 136)).alloc (.cells #[.int .i64 1, .slice none 0 0, .int .i64 0] 136)) (.slice none 0 0) (.slice none 0 0) :=
    ⟨blk3a _ _ _ _ _ _ _, blk3b _ _ _ _ _ _ _, CLs.nil _ _ _ _, fun _ => rfl, by
      have := World.ownsRow_lit (base := w3.heap.size + 2) (size := 3) (e := 136) ((w3.alloc (.cells #[.slice none 0 0, .slice none 0 0] 68)).alloc (.cells #[.int .i64 1, .slice none 0 0, .int .i64 0] 136)) #[.int .i64 1, .slice none 0 0, .int .i64 0] 1 (by simp) (by unfold maxLen; omega) rfl
      simp only [World.size_alloc] at this
      exact this, World.ownsRow_nil _ _ _ _, fun _ => rfl, b3 _ _ _ _⟩
  go_wp2
  go_loopw [14, 13] (fun i gv wr => ∃ k : Nat, k ≤ n ∧ i = .int .i64 k ∧ ∃ lv kv, RRel (w3.heap.size + 2) w3.heap.size (w3.heap.size + 1) p q ((V.take k).map (fun v => (XF v, [h]))) k gv w3 wr lv kv) (fun i _ _ => n - (intOf i).toNat)
  case atStart => exact ⟨0, by omega, rfl, _, _, hRR⟩
  case round =>
    obtain ⟨k, hk, rfl, lv, kv, hC⟩ := hrel
    clear hRR
    obtain ⟨wp, hwp⟩ : ∃ wp, wp = wr := ⟨_, rfl⟩
    subst hwp
    have hpp := hp.after hC.b
    have hsz := hC.b.size
    obtain ⟨gv, hgv, hC⟩ : ∃ gv, gv = _ ∧ RRel (w3.heap.size + 2) w3.heap.size (w3.heap.size + 1) p q ((V.take k).map (fun v => (XF v, [h]))) k gv w3 wp lv kv := ⟨_, rfl, hC⟩
    subst hgv
    by_cases hlt : k < n
    · have hkl : k < V.length := by rw [HN.out]; exact hlt
      have HM := Lib.hid (map_take1 (fun v => (XF v, [h])) V k hkl)
      have HLE : Hid (((V.take k).map (fun v => (XF v, [h]))).length = k) := by rw [Hid, List.length_map, List.length_take]; omega
      have HLF1 : Hid (∀ x ∈ (V.take k).map (fun v => (XF v, [h])), 0 < x.2.length) := by intro x hx; obtain ⟨v, _, rfl⟩ := List.mem_map.1 hx; simp
      have HVK := Lib.hid (HO.out _ (List.getElem_mem hkl))
      obtain ⟨b, o, rfl, hbl, hcell⟩ := (hV.after hC.b).at_ hkl
      generalize V[k]'hkl = vk at hcell HVK HM
      generalize (V.take k).map (fun v => (XF v, [h])) = L at hC HM HLE HLF1
      generalize XF vk = xv at HVK HM
      have h0k : (0 : Int) ≤ (k : Int) := by omega
      have h1k : (k : Int) < (n : Int) := by omega
      have gcl := gcellOf (a := ⟨b, o + k, none⟩) hbl hcell
      have hppg0 := hpp.gcell 0
      have hppg1 := hpp.gcell 1
      have hppg2 := hpp.gcell 2
      have hppg3 := hpp.gcell 3
      have hppc0 := hpp.cell 0
      have hppf0 := hpp.free 0
      have hppc1 := hpp.cell 1
      have hppf1 := hpp.free 1
      have hppc2 := hpp.cell 2
      have hppf2 := hpp.free 2
      have hppc3 := hpp.cell 3
      have hppf3 := hpp.free 3
      go_wp2_with fail
      refine wp_region_gw (by kernel_rfl) (by kernel_rfl) ?_
      repeat (go_big_quiet_step (first | (go_at_call 38; exact gw_of (HVK.out _))))
      refine wpQuiet_nil ?_
      rintro w5 ⟨xw5, rfl⟩
      have hb5 := gw_below xw5
      generalize gw xw5 = w5 at hb5
      clear hppc0 hppf0 hppc1 hppf1 hppc2 hppf2 hppc3 hppf3
      clear hppg0 hppg1 hppg2 hppg3
      clear gcl hcell
      replace hpp := hpp.after hb5
      replace hC := hC.after hb5
      have hppl := hpp.lt
      have hob := hC.o
      have hobl := hob.lt
      have hsz5 := hC.b.size
      obtain ⟨xs, hx1, hx2⟩ := hC.c
      rw [HLE.out] at hx1
      have hobc0 := hob.cell 0
      have hobf0 := hob.free 0
      have hobc1 := hob.cell 1
      have hobf1 := hob.free 1
      have hppc0 := hpp.cell 0
      have hppf0 := hpp.free 0
      have hppc1 := hpp.cell 1
      have hppf1 := hpp.free 1
      have hppc2 := hpp.cell 2
      have hppf2 := hpp.free 2
      have hppc3 := hpp.cell 3
      have hppf3 := hpp.free 3
      go_upto_region 14 with fail
      go_cut [53] (fun s wx => ∃ lv2, RRel (w3.heap.size + 2) w3.heap.size (w3.heap.size + 1) p q (L ++ [(xv, [h])]) k gv w3 wx lv2 kv)
      case first =>
        go_region_law (first | (refine step_call2 (by rfl) 37 (.tmp 49) (.tmp 50) 26 22 (by rfl) HEN.out (.agg #[.string (E p), .string (E q), .string (E g), .string (E h)]) (.string (E xv)) (by rfl) (by rfl) (HQ.out xv _) ?_; rintro e wf ⟨g1, g2, g3, g4, c1, c2, c3, c4, rfl, hstm, hkk, hbf⟩; refine ⟨_, rfl, ?_⟩; have hbf' : Below w5.heap.size w5 wf := (Below.drew (Below.refl _ _)).trans hbf; have hCf := hC.after hbf'; have hobf := hCf.o; have u0 := hobf.cell 0; have u1 := hobf.free 0; have u2 : w3.heap.size < wf.heap.size := hobf.lt; have hrl : w3.heap.size + 1 < wf.heap.size := hCf.r.lt; have hppf := hpp.after hbf'; have p0 := hppf.cell 0; have p1 := hppf.cell 1; have p2 := hppf.cell 2; have p3 := hppf.cell 3; have hx1f := own_after hx1 hbf') | (refine step_append_lies _ (by rfl) (.tmp 48) (.tmp 52) _ (by rfl) (w3.heap.size + 2) 33 i0 _ 3 72 Tryz.underlying63 HI0.out HA0.out HB0.out HC0.out rfl (by omega) lv k _ (by rfl) (own_after hx1f (b1 _ (.cells #[.slice (some ⟨g1, 0, none⟩) 1 c1, .slice (some ⟨g2, 0, none⟩) 1 c2, .slice (some ⟨g3, 0, none⟩) 1 c3] 33))) ⟨wf.heap.size, 0, none⟩ 1 1 [.slice (some ⟨g1, 0, none⟩) 1 c1, .slice (some ⟨g2, 0, none⟩) 1 c2, .slice (some ⟨g3, 0, none⟩) 1 c3] (by rfl) rfl (Blk.new wf #[.slice (some ⟨g1, 0, none⟩) 1 c1, .slice (some ⟨g2, 0, none⟩) 1 c2, .slice (some ⟨g3, 0, none⟩) 1 c3] 33).cells (by simp [Value.oneCell']) (by omega) (by simp only [maxLen]; omega) (by omega) (by rw [World.size_alloc]; omega) (wf.heap.size + 1) (by simp) ?_; intro ga ca wa hown hgrow hat hlt2; have hoba := (hobf.alloc (.cells #[.slice (some ⟨g1, 0, none⟩) 1 c1, .slice (some ⟨g2, 0, none⟩) 1 c2, .slice (some ⟨g3, 0, none⟩) 1 c3] 33)).grown hgrow (own_ne hx1f hobf (by decide)); have s0 := hoba.cell 0; have s1 := hoba.free 0))
        all_goals
          go_wp2_with fail
          go_meet
          refine ⟨.slice (some ⟨ga, 0, none⟩) (k + 1) ca, hoba.set 0 _, ?_, ?_, fun e => by simp at e, ?_, ?_, hC.kn, ?_⟩
          · exact ((hCf.r.alloc _).grown hgrow (own_ne hx1f hCf.r (by decide))).other _ _ (by simp)
          · refine CLs.set (CLs.pushed (by rw [HLE.out]; exact hx1f) ?_ HLF1.out hC.cn hstm (by simp) ?_ hgrow (by rw [HLE.out]; exact hown)) (by omega)
            · intro j hj
              obtain ⟨g1, g2, g3, g4, c1, c2, c3, c4, z1, z2, z3, z4, z5⟩ := hx2 j hj
              exact ⟨g1, g2, g3, g4, c1, c2, c3, c4, z1, z2, z3, z4.after hbf', z5⟩
            · have k1 : w5.heap.size ≤ g1 := hkk.1
              have k2 : w5.heap.size ≤ g2 := hkk.2.1
              have k3 : w5.heap.size ≤ g3 := hkk.2.2.1
              have k4 : w5.heap.size ≤ g4 := hkk.2.2.2
              have k5 : w3.heap.size + 1 < w5.heap.size := hC.r.lt
              exact ⟨by omega, by omega, by omega, by omega⟩
          · exact own_set (own_grown (own_after hCf.g (b1 _ _)) (own_after hx1f (b1 _ _)) (by decide) hgrow) (fun e => by have := (own_lt hCf.g e).2; omega)
          · exact own_set (own_grown (own_after hCf.ki (b1 _ _)) (own_after hx1f (b1 _ _)) (by decide) hgrow) (fun e => by have := (own_lt hCf.ki e).2; omega)
          · exact ((ba hCf.b _).grown hgrow (by rw [World.size_alloc]; omega) (fun x hx => by have := (own_lt hx1f hx).2; omega)).setCell (by simp) _
      case rest =>
        clear hobc0 hobf0 hobc1 hobf1
        clear hppc0 hppf0 hppc1 hppf1 hppc2 hppf2 hppc3 hppf3
        clear hob hobl hx1 hx2 hC hppl hpp
        obtain ⟨lv2, hC⟩ := hcut
        obtain ⟨w6, hw6⟩ : ∃ w6, w6 = wc := ⟨_, rfl⟩
        subst hw6
        have HLA : Hid (∀ x ∈ L ++ [(xv, [h])], 0 < x.2.length) := by
          intro x hx
          rcases List.mem_append.1 hx with h | h
          · exact HLF1.out x h
          · rw [List.mem_singleton] at h; rw [h]; simp
        have hrb := hC.r
        have hkd := hC.ki
        have hgt := hC.g
        have hrl := hrb.lt
        have hsz6 := hC.b.size
        have hrbc0 := hrb.cell 0
        have hrbf0 := hrb.free 0
        have hrbc1 := hrb.cell 1
        have hrbf1 := hrb.free 1
        have hrbc2 := hrb.cell 2
        have hrbf2 := hrb.free 2
        go_wp2_with (first | (at_builtin; refine wpList_append_lies _ rfl (.tmp 64) (.tmp 67) _ rfl (w3.heap.size + 2) 3 i2 _ 1 8 Tryz.underlying48 HI2.out HA2.out HB2.out HC2.out rfl (by omega) kv k _ rfl (own_after hkd (b1 _ (.cells #[.int .i64 ((k : Int) + 1)] 3))) ⟨w6.heap.size, 0, none⟩ 1 1 [.int .i64 ((k : Int) + 1)] rfl rfl (Blk.new w6 #[.int .i64 ((k : Int) + 1)] 3).cells (by simp [Value.oneCell']) (by omega) (by simp only [maxLen]; omega) (by omega) (by rw [World.size_alloc]; omega) (w6.heap.size + 1) (by simp) ?_; intro ga ca wa hown hgrow hat hlt2; have hrba := (hrb.alloc (.cells #[.int .i64 ((k : Int) + 1)] 3)).grown hgrow (own_ne hkd hrb (by decide)); have s0 := hrba.cell 1; have s1 := hrba.free 1; have hga := own_set (g := w3.heap.size + 1) (i := 1) (u := .slice (some ⟨ga, 0, none⟩) (k + 1) ca) (own_grown (own_after hgt (b1 _ (.cells #[.int .i64 ((k : Int) + 1)] 3))) (own_after hkd (b1 _ (.cells #[.int .i64 ((k : Int) + 1)] 3))) (by decide) hgrow) (fun e => by have := (own_lt hgt e).2; omega); have hrl2 := hrba.lt; have hn6 := Blk.new (wa.setCell ⟨w3.heap.size + 1, 1, none⟩ (.slice (some ⟨ga, 0, none⟩) (k + 1) ca)) #[.int .i64 0, .slice none 0 0, .int .i64 (k : Int)] 136; rw [World.size_setCell] at hn6) | (at_builtin; refine wpList_append_lies _ rfl (.tmp 70) (.tmp 73) _ rfl (w3.heap.size + 2) 136 i1 _ 3 40 Tryz.underlying64 HI1.out HA1.out HB1.out HC1.out rfl (by omega) gv (k + 1) _ rfl (own_after hga (b1 _ (.cells #[.int .i64 0, .slice none 0 0, .int .i64 (k : Int)] 136))) ⟨wa.heap.size, 0, none⟩ 1 1 [.int .i64 0, .slice none 0 0, .int .i64 (k : Int)] rfl rfl hn6.cells (by simp [Value.oneCell']) (by omega) (by simp only [maxLen]; omega) (by omega) (by rw [World.size_alloc, World.size_setCell]; omega) (wa.heap.size + 1) (by simp) ?_; intro gb cb wb hown2 hgrow2 hat2 hlt3))
        have hCR := hC.step HLA.out (by omega) (by omega) (by omega) hgrow hown hgrow2 hown2
        rw [← HM.out] at hCR
        clear hown hgrow hat hlt2 hown2 hgrow2 hat2 hlt3 hga hn6
        go_wp2
        go_roundw
        case rel => exact ⟨k + 1, by omega, by go_num, _, _, hCR⟩
        case measure => simp [intOf]; omega
    · obtain rfl : k = n := by omega
      have HF : Hid (V.take k = V) := by rw [Hid, ← HN.out, List.take_length]
      rw [HF.out] at hC
      have HLF1 : Hid (∀ x ∈ V.map (fun v => (XF v, [h])), 0 < x.2.length) := by intro x hx; obtain ⟨v, _, rfl⟩ := List.mem_map.1 hx; simp
      obtain ⟨gg, gc, rfl, hg1, hg2⟩ := hC.g.form (by omega)
      obtain ⟨kk, kc, rfl, hk1, hk2⟩ := hC.ki.form h0
      have hkg : kk ≠ gg := fun e => own_ne2 hC.g hC.ki (by decide) (g := gg) rfl (by simp [Value.ownBlock, e])
      obtain ⟨lo, lc, rfl⟩ := hC.c.form
      generalize (V.map (fun v => (XF v, [h]))).length = ll at hC
      have hob := hC.o
      have hrb := hC.r
      have hrp := hr.after hC.b
      have x1 := hob.lt
      have x2 := hrb.lt
      have x3 := hrp.lt
      have m0 : wp.cell? ⟨gg, 0, none⟩ = some (.int .i64 1) := own_cellS hC.g 0 _ rfl
      have m1 : wp.cell? ⟨gg, 1, none⟩ = some (.slice none 0 0) := own_cellS hC.g 1 _ rfl
      have m2 : wp.cell? ⟨gg, 2, none⟩ = some (.int .i64 0) := own_cellS hC.g 2 _ rfl
      have f0 := hC.g.frozenAt 0
      have f1 := hC.g.frozenAt 1
      have f2 := hC.g.frozenAt 2
      have q1 : gg ≠ w3.heap.size := by omega
      have q2 : gg ≠ w3.heap.size + 1 := by omega
      have q3 : gg ≠ w.heap.size + 1 := by omega
      have q4 : w3.heap.size ≠ gg := by omega
      have q5 : w3.heap.size + 1 ≠ gg := by omega
      have q6 : w.heap.size + 1 ≠ gg := by omega
      have q7 : w.heap.size + 1 ≠ w3.heap.size := by omega
      have q8 : w3.heap.size ≠ w.heap.size + 1 := by omega
      have q9 : w.heap.size + 1 ≠ w3.heap.size + 1 := by omega
      have q10 : w3.heap.size + 1 ≠ w.heap.size + 1 := by omega
      have q11 : (0 : Int) < (k : Int) + 1 := by omega
      have hobc0 := hob.cell 0
      have hobf0 := hob.free 0
      have hobc1 := hob.cell 1
      have hobf1 := hob.free 1
      have hrbc0 := hrb.cell 0
      have hrbf0 := hrb.free 0
      have hrbc1 := hrb.cell 1
      have hrbf1 := hrb.free 1
      have hrbc2 := hrb.cell 2
      have hrbf2 := hrb.free 2
      have hrpc0 := hrp.cell 0
      have hrpf0 := hrp.free 0
      have hrpc1 := hrp.cell 1
      have hrpf1 := hrp.free 1
      go_wp2
      have hfin := fin_gate (need := 1) hC.c HLF1.out hC.g hC.ki (by omega)
      have hb0 := bt hBW hC.b
      refine bodyPost_ret (v := .tuple #[.agg #[.slice lo ll lc, .slice (some ⟨gg, 0, none⟩) (k + 1) gc], .int .i64 0]) ?_ rfl ⟨_, _, rfl, ⟨?_, ?_⟩, ?_⟩
      · simp [results, Tryz.results55, go_sem, hrpc0, hrpc1, x3, q6, q7, q9]
      · exact CLs.mono (CLs.set (CLs.set (CLs.set hfin.1 (by omega)) (by omega)) (by omega)) (by omega)
      · exact GAt.mono (GAm.set (GAm.set (GAm.set hfin.2 (by omega)) (by omega)) (by omega)) (by omega)
      · exact (((((hb0.setCell (by simp; omega) _).setCell (by simp; omega) _).setCell (by simp; omega) _).setCell (by simp; omega) _).setCell (by simp) _).setCell (by simp) _

set_option maxHeartbeats 8000000 in
theorem rclause_out_c (p q g h c : Nat) (V : List Int) (ao : Option Addr) (n cap : Nat) (XF : Int → Nat) (w : World)
    (hR : ∀ (w' : World) (b : Nat), Blk w' b 22 [.string (E c)] → Calls Tryz.prog 36 #[.agg #[.string (E p), .string (E q), .string (E g), .string (E h)], .slice (some ⟨b, 0, none⟩) 1 1] w' fun e w'' => e = .returned (.int .i64 0) ∧ Below w'.heap.size w' w'')
    (hn : V.length = n) (h0 : 0 < n) (hn2 : n ≤ 256) (hV : NumsAt w ao V)
    (hO : ∀ v ∈ V, ∀ w', Calls Tryz.prog 38 #[.agg #[.string (E p), .string (E q), .string (E g), .string (E h)], .string (E c), .string (E g), .int .i64 v] w' fun e w'' => e = .returned (.string (E (XF v))) ∧ Below w'.heap.size w' w'') :
    Calls Tryz.prog 55 #[.agg #[.string (E p), .string (E q), .string (E g), .string (E h)], .string (E c), .slice ao n cap, .bool false] w (CPost w p q (some (V.map (fun v => (g, [XF v, h])), (n : Int), n)) 0) := by
  obtain ⟨i0, hi0, hz00, hz01, hz02⟩ := info_parts info_stmt
  obtain ⟨i1, hi1, hz10, hz11, hz12⟩ := info_parts info_gate
  obtain ⟨i2, hi2, hz20, hz21, hz22⟩ := info_parts info_int
  have HI0 := Lib.hid hi0
  have HA0 := Lib.hid hz00
  have HB0 := Lib.hid hz01
  have HC0 := Lib.hid hz02
  have HI1 := Lib.hid hi1
  have HA1 := Lib.hid hz10
  have HB1 := Lib.hid hz11
  have HC1 := Lib.hid hz12
  have HI2 := Lib.hid hi2
  have HA2 := Lib.hid hz20
  have HB2 := Lib.hid hz21
  have HC2 := Lib.hid hz22
  clear hi0 hz00 hz01 hz02 hi1 hz10 hz11 hz12 hi2 hz20 hz21 hz22
  have HR := Lib.hid hR
  have HN := Lib.hid hn
  have HO := Lib.hid hO
  have HQ := Lib.hid (fun x w' => rnot_c p q g h x w')
  have HEN := Lib.hid (enters_of Tryz.func39 (by kernel_rfl) rfl)
  have hp := blk3a w #[.string (E p), .string (E q), .string (E g), .string (E h)] #[.slice none 0 0, .slice none 0 0] #[.string (E c)] 26 68 22
  have hr := blk3b w #[.string (E p), .string (E q), .string (E g), .string (E h)] #[.slice none 0 0, .slice none 0 0] #[.string (E c)] 26 68 22
  have hs := blk3c w #[.string (E p), .string (E q), .string (E g), .string (E h)] #[.slice none 0 0, .slice none 0 0] #[.string (E c)] 26 68 22
  have hBW := b3 w (.cells #[.string (E p), .string (E q), .string (E g), .string (E h)] 26) (.cells #[.slice none 0 0, .slice none 0 0] 68) (.cells #[.string (E c)] 22)
  replace hV := hV.after hBW
  clear hR hn hO
  go_enter Tryz.func55, Tryz.ntmps55
  go_wp2_with fail
  refine (HR.out _ _ hs).mono ?_
  rintro e w3 ⟨rfl, hb3⟩
  replace hp := hp.after hb3
  replace hr := hr.after hb3
  replace hV := hV.after hb3
  replace hBW := bt hBW hb3
  clear hb3 hs HR
  have hp1 : w.heap.size < w3.heap.size := hp.lt
  have hr1 : w.heap.size + 1 < w3.heap.size := hr.lt
  go_wp2_with fail
  refine (rmany_no ao n cap _ h0 hn2).mono ?_
  rintro e w' ⟨rfl, hw'⟩
  subst w'
  have hRR : RRel (w3.heap.size + 2) w3.heap.size (w3.heap.size + 1) p q ((V.take 0).map (fun v => (g, [XF v, h]))) 0 (.slice (some ⟨w3.heap.size + 2, 0, none⟩) 1 1) w3 (((w3.alloc (.cells #[.slice none 0 0, .slice none 0 0] 68)).alloc (.cells #[.int .i64 1, .slice none 0 0, .int .i64 0] 136)).alloc (.cells #[.int .i64 1, .slice none 0 0, .int .i64 0] 136)) (.slice none 0 0) (.slice none 0 0) :=
    ⟨blk3a _ _ _ _ _ _ _, blk3b _ _ _ _ _ _ _, CLs.nil _ _ _ _, fun _ => rfl, by
      have := World.ownsRow_lit (base := w3.heap.size + 2) (size := 3) (e := 136) ((w3.alloc (.cells #[.slice none 0 0, .slice none 0 0] 68)).alloc (.cells #[.int .i64 1, .slice none 0 0, .int .i64 0] 136)) #[.int .i64 1, .slice none 0 0, .int .i64 0] 1 (by simp) (by unfold maxLen; omega) rfl
      simp only [World.size_alloc] at this
      exact this, World.ownsRow_nil _ _ _ _, fun _ => rfl, b3 _ _ _ _⟩
  go_wp2
  go_loopw [14, 13] (fun i gv wr => ∃ k : Nat, k ≤ n ∧ i = .int .i64 k ∧ ∃ lv kv, RRel (w3.heap.size + 2) w3.heap.size (w3.heap.size + 1) p q ((V.take k).map (fun v => (g, [XF v, h]))) k gv w3 wr lv kv) (fun i _ _ => n - (intOf i).toNat)
  case atStart => exact ⟨0, by omega, rfl, _, _, hRR⟩
  case round =>
    obtain ⟨k, hk, rfl, lv, kv, hC⟩ := hrel
    clear hRR
    obtain ⟨wp, hwp⟩ : ∃ wp, wp = wr := ⟨_, rfl⟩
    subst hwp
    have hpp := hp.after hC.b
    have hsz := hC.b.size
    obtain ⟨gv, hgv, hC⟩ : ∃ gv, gv = _ ∧ RRel (w3.heap.size + 2) w3.heap.size (w3.heap.size + 1) p q ((V.take k).map (fun v => (g, [XF v, h]))) k gv w3 wp lv kv := ⟨_, rfl, hC⟩
    subst hgv
    by_cases hlt : k < n
    · have hkl : k < V.length := by rw [HN.out]; exact hlt
      have HM := Lib.hid (map_take1 (fun v => (g, [XF v, h])) V k hkl)
      have HLE : Hid (((V.take k).map (fun v => (g, [XF v, h]))).length = k) := by rw [Hid, List.length_map, List.length_take]; omega
      have HLF1 : Hid (∀ x ∈ (V.take k).map (fun v => (g, [XF v, h])), 0 < x.2.length) := by intro x hx; obtain ⟨v, _, rfl⟩ := List.mem_map.1 hx; simp
      have HVK := Lib.hid (HO.out _ (List.getElem_mem hkl))
      obtain ⟨b, o, rfl, hbl, hcell⟩ := (hV.after hC.b).at_ hkl
      generalize V[k]'hkl = vk at hcell HVK HM
      generalize (V.take k).map (fun v => (g, [XF v, h])) = L at hC HM HLE HLF1
      generalize XF vk = xv at HVK HM
      have h0k : (0 : Int) ≤ (k : Int) := by omega
      have h1k : (k : Int) < (n : Int) := by omega
      have gcl := gcellOf (a := ⟨b, o + k, none⟩) hbl hcell
      have hppg0 := hpp.gcell 0
      have hppg1 := hpp.gcell 1
      have hppg2 := hpp.gcell 2
      have hppg3 := hpp.gcell 3
      have hppc0 := hpp.cell 0
      have hppf0 := hpp.free 0
      have hppc1 := hpp.cell 1
      have hppf1 := hpp.free 1
      have hppc2 := hpp.cell 2
      have hppf2 := hpp.free 2
      have hppc3 := hpp.cell 3
      have hppf3 := hpp.free 3
      go_wp2_with fail
      refine wp_region_gw (by kernel_rfl) (by kernel_rfl) ?_
      repeat (go_big_quiet_step (first | (go_at_call 38; exact gw_of (HVK.out _))))
      refine wpQuiet_nil ?_
      rintro w5 ⟨xw5, rfl⟩
      have hb5 := gw_below xw5
      generalize gw xw5 = w5 at hb5
      clear hppc0 hppf0 hppc1 hppf1 hppc2 hppf2 hppc3 hppf3
      clear hppg0 hppg1 hppg2 hppg3
      clear gcl hcell
      replace hpp := hpp.after hb5
      replace hC := hC.after hb5
      have hppl := hpp.lt
      have hob := hC.o
      have hobl := hob.lt
      have hsz5 := hC.b.size
      obtain ⟨xs, hx1, hx2⟩ := hC.c
      rw [HLE.out] at hx1
      have hobc0 := hob.cell 0
      have hobf0 := hob.free 0
      have hobc1 := hob.cell 1
      have hobf1 := hob.free 1
      have hppc0 := hpp.cell 0
      have hppf0 := hpp.free 0
      have hppc1 := hpp.cell 1
      have hppf1 := hpp.free 1
      have hppc2 := hpp.cell 2
      have hppf2 := hpp.free 2
      have hppc3 := hpp.cell 3
      have hppf3 := hpp.free 3
      go_upto_region 15 with fail
      go_cut [61] (fun s wx => ∃ lv2, RRel (w3.heap.size + 2) w3.heap.size (w3.heap.size + 1) p q (L ++ [(g, [xv, h])]) k gv w3 wx lv2 kv)
      case first =>
        go_region_law (first | (refine step_call2 (by rfl) 39 (.tmp 57) (.tmp 58) 26 22 (by rfl) HEN.out (.agg #[.string (E p), .string (E q), .string (E g), .string (E h)]) (.string (E xv)) (by rfl) (by rfl) (HQ.out xv _) ?_; rintro e wf ⟨g1, g2, g3, g4, c1, c2, c3, c4, rfl, hstm, hkk, hbf⟩; refine ⟨_, rfl, ?_⟩; have hbf' : Below w5.heap.size w5 wf := (Below.drew (Below.refl _ _)).trans hbf; have hCf := hC.after hbf'; have hobf := hCf.o; have u0 := hobf.cell 0; have u1 := hobf.free 0; have u2 : w3.heap.size < wf.heap.size := hobf.lt; have hrl : w3.heap.size + 1 < wf.heap.size := hCf.r.lt; have hppf := hpp.after hbf'; have p0 := hppf.cell 0; have p1 := hppf.cell 1; have p2 := hppf.cell 2; have p3 := hppf.cell 3; have hx1f := own_after hx1 hbf') | (refine step_append_lies _ (by rfl) (.tmp 56) (.tmp 60) _ (by rfl) (w3.heap.size + 2) 33 i0 _ 3 72 Tryz.underlying63 HI0.out HA0.out HB0.out HC0.out rfl (by omega) lv k _ (by rfl) (own_after hx1f (b1 _ (.cells #[.slice (some ⟨g1, 0, none⟩) 1 c1, .slice (some ⟨g2, 0, none⟩) 2 c2, .slice (some ⟨g3, 0, none⟩) 1 c3] 33))) ⟨wf.heap.size, 0, none⟩ 1 1 [.slice (some ⟨g1, 0, none⟩) 1 c1, .slice (some ⟨g2, 0, none⟩) 2 c2, .slice (some ⟨g3, 0, none⟩) 1 c3] (by rfl) rfl (Blk.new wf #[.slice (some ⟨g1, 0, none⟩) 1 c1, .slice (some ⟨g2, 0, none⟩) 2 c2, .slice (some ⟨g3, 0, none⟩) 1 c3] 33).cells (by simp [Value.oneCell']) (by omega) (by simp only [maxLen]; omega) (by omega) (by rw [World.size_alloc]; omega) (wf.heap.size + 1) (by simp) ?_; intro ga ca wa hown hgrow hat hlt2; have hoba := (hobf.alloc (.cells #[.slice (some ⟨g1, 0, none⟩) 1 c1, .slice (some ⟨g2, 0, none⟩) 2 c2, .slice (some ⟨g3, 0, none⟩) 1 c3] 33)).grown hgrow (own_ne hx1f hobf (by decide)); have s0 := hoba.cell 0; have s1 := hoba.free 0))
        all_goals
          go_wp2_with fail
          go_meet
          refine ⟨.slice (some ⟨ga, 0, none⟩) (k + 1) ca, hoba.set 0 _, ?_, ?_, fun e => by simp at e, ?_, ?_, hC.kn, ?_⟩
          · exact ((hCf.r.alloc _).grown hgrow (own_ne hx1f hCf.r (by decide))).other _ _ (by simp)
          · refine CLs.set (CLs.pushed (by rw [HLE.out]; exact hx1f) ?_ HLF1.out hC.cn hstm (by simp) ?_ hgrow (by rw [HLE.out]; exact hown)) (by omega)
            · intro j hj
              obtain ⟨g1, g2, g3, g4, c1, c2, c3, c4, z1, z2, z3, z4, z5⟩ := hx2 j hj
              exact ⟨g1, g2, g3, g4, c1, c2, c3, c4, z1, z2, z3, z4.after hbf', z5⟩
            · have k1 : w5.heap.size ≤ g1 := hkk.1
              have k2 : w5.heap.size ≤ g2 := hkk.2.1
              have k3 : w5.heap.size ≤ g3 := hkk.2.2.1
              have k4 : w5.heap.size ≤ g4 := hkk.2.2.2
              have k5 : w3.heap.size + 1 < w5.heap.size := hC.r.lt
              exact ⟨by omega, by omega, by omega, by omega⟩
          · exact own_set (own_grown (own_after hCf.g (b1 _ _)) (own_after hx1f (b1 _ _)) (by decide) hgrow) (fun e => by have := (own_lt hCf.g e).2; omega)
          · exact own_set (own_grown (own_after hCf.ki (b1 _ _)) (own_after hx1f (b1 _ _)) (by decide) hgrow) (fun e => by have := (own_lt hCf.ki e).2; omega)
          · exact ((ba hCf.b _).grown hgrow (by rw [World.size_alloc]; omega) (fun x hx => by have := (own_lt hx1f hx).2; omega)).setCell (by simp) _
      case rest =>
        clear hobc0 hobf0 hobc1 hobf1
        clear hppc0 hppf0 hppc1 hppf1 hppc2 hppf2 hppc3 hppf3
        clear hob hobl hx1 hx2 hC hppl hpp
        obtain ⟨lv2, hC⟩ := hcut
        obtain ⟨w6, hw6⟩ : ∃ w6, w6 = wc := ⟨_, rfl⟩
        subst hw6
        have HLA : Hid (∀ x ∈ L ++ [(g, [xv, h])], 0 < x.2.length) := by
          intro x hx
          rcases List.mem_append.1 hx with h | h
          · exact HLF1.out x h
          · rw [List.mem_singleton] at h; rw [h]; simp
        have hrb := hC.r
        have hkd := hC.ki
        have hgt := hC.g
        have hrl := hrb.lt
        have hsz6 := hC.b.size
        have hrbc0 := hrb.cell 0
        have hrbf0 := hrb.free 0
        have hrbc1 := hrb.cell 1
        have hrbf1 := hrb.free 1
        have hrbc2 := hrb.cell 2
        have hrbf2 := hrb.free 2
        go_wp2_with (first | (at_builtin; refine wpList_append_lies _ rfl (.tmp 64) (.tmp 67) _ rfl (w3.heap.size + 2) 3 i2 _ 1 8 Tryz.underlying48 HI2.out HA2.out HB2.out HC2.out rfl (by omega) kv k _ rfl (own_after hkd (b1 _ (.cells #[.int .i64 ((k : Int) + 1)] 3))) ⟨w6.heap.size, 0, none⟩ 1 1 [.int .i64 ((k : Int) + 1)] rfl rfl (Blk.new w6 #[.int .i64 ((k : Int) + 1)] 3).cells (by simp [Value.oneCell']) (by omega) (by simp only [maxLen]; omega) (by omega) (by rw [World.size_alloc]; omega) (w6.heap.size + 1) (by simp) ?_; intro ga ca wa hown hgrow hat hlt2; have hrba := (hrb.alloc (.cells #[.int .i64 ((k : Int) + 1)] 3)).grown hgrow (own_ne hkd hrb (by decide)); have s0 := hrba.cell 1; have s1 := hrba.free 1; have hga := own_set (g := w3.heap.size + 1) (i := 1) (u := .slice (some ⟨ga, 0, none⟩) (k + 1) ca) (own_grown (own_after hgt (b1 _ (.cells #[.int .i64 ((k : Int) + 1)] 3))) (own_after hkd (b1 _ (.cells #[.int .i64 ((k : Int) + 1)] 3))) (by decide) hgrow) (fun e => by have := (own_lt hgt e).2; omega); have hrl2 := hrba.lt; have hn6 := Blk.new (wa.setCell ⟨w3.heap.size + 1, 1, none⟩ (.slice (some ⟨ga, 0, none⟩) (k + 1) ca)) #[.int .i64 0, .slice none 0 0, .int .i64 (k : Int)] 136; rw [World.size_setCell] at hn6) | (at_builtin; refine wpList_append_lies _ rfl (.tmp 70) (.tmp 73) _ rfl (w3.heap.size + 2) 136 i1 _ 3 40 Tryz.underlying64 HI1.out HA1.out HB1.out HC1.out rfl (by omega) gv (k + 1) _ rfl (own_after hga (b1 _ (.cells #[.int .i64 0, .slice none 0 0, .int .i64 (k : Int)] 136))) ⟨wa.heap.size, 0, none⟩ 1 1 [.int .i64 0, .slice none 0 0, .int .i64 (k : Int)] rfl rfl hn6.cells (by simp [Value.oneCell']) (by omega) (by simp only [maxLen]; omega) (by omega) (by rw [World.size_alloc, World.size_setCell]; omega) (wa.heap.size + 1) (by simp) ?_; intro gb cb wb hown2 hgrow2 hat2 hlt3))
        have hCR := hC.step HLA.out (by omega) (by omega) (by omega) hgrow hown hgrow2 hown2
        rw [← HM.out] at hCR
        clear hown hgrow hat hlt2 hown2 hgrow2 hat2 hlt3 hga hn6
        go_wp2
        go_roundw
        case rel => exact ⟨k + 1, by omega, by go_num, _, _, hCR⟩
        case measure => simp [intOf]; omega
    · obtain rfl : k = n := by omega
      have HF : Hid (V.take k = V) := by rw [Hid, ← HN.out, List.take_length]
      rw [HF.out] at hC
      have HLF1 : Hid (∀ x ∈ V.map (fun v => (g, [XF v, h])), 0 < x.2.length) := by intro x hx; obtain ⟨v, _, rfl⟩ := List.mem_map.1 hx; simp
      obtain ⟨gg, gc, rfl, hg1, hg2⟩ := hC.g.form (by omega)
      obtain ⟨kk, kc, rfl, hk1, hk2⟩ := hC.ki.form h0
      have hkg : kk ≠ gg := fun e => own_ne2 hC.g hC.ki (by decide) (g := gg) rfl (by simp [Value.ownBlock, e])
      obtain ⟨lo, lc, rfl⟩ := hC.c.form
      generalize (V.map (fun v => (g, [XF v, h]))).length = ll at hC
      have hob := hC.o
      have hrb := hC.r
      have hrp := hr.after hC.b
      have x1 := hob.lt
      have x2 := hrb.lt
      have x3 := hrp.lt
      have m0 : wp.cell? ⟨gg, 0, none⟩ = some (.int .i64 1) := own_cellS hC.g 0 _ rfl
      have m1 : wp.cell? ⟨gg, 1, none⟩ = some (.slice none 0 0) := own_cellS hC.g 1 _ rfl
      have m2 : wp.cell? ⟨gg, 2, none⟩ = some (.int .i64 0) := own_cellS hC.g 2 _ rfl
      have f0 := hC.g.frozenAt 0
      have f1 := hC.g.frozenAt 1
      have f2 := hC.g.frozenAt 2
      have q1 : gg ≠ w3.heap.size := by omega
      have q2 : gg ≠ w3.heap.size + 1 := by omega
      have q3 : gg ≠ w.heap.size + 1 := by omega
      have q4 : w3.heap.size ≠ gg := by omega
      have q5 : w3.heap.size + 1 ≠ gg := by omega
      have q6 : w.heap.size + 1 ≠ gg := by omega
      have q7 : w.heap.size + 1 ≠ w3.heap.size := by omega
      have q8 : w3.heap.size ≠ w.heap.size + 1 := by omega
      have q9 : w.heap.size + 1 ≠ w3.heap.size + 1 := by omega
      have q10 : w3.heap.size + 1 ≠ w.heap.size + 1 := by omega
      have q11 : (0 : Int) < (k : Int) + 1 := by omega
      have hobc0 := hob.cell 0
      have hobf0 := hob.free 0
      have hobc1 := hob.cell 1
      have hobf1 := hob.free 1
      have hrbc0 := hrb.cell 0
      have hrbf0 := hrb.free 0
      have hrbc1 := hrb.cell 1
      have hrbf1 := hrb.free 1
      have hrbc2 := hrb.cell 2
      have hrbf2 := hrb.free 2
      have hrpc0 := hrp.cell 0
      have hrpf0 := hrp.free 0
      have hrpc1 := hrp.cell 1
      have hrpf1 := hrp.free 1
      go_wp2
      have hfin := fin_gate (need := (k : Int)) (hC.c.set (r := w3.heap.size + 1) (i := 0) (u := .int .i64 (k : Int)) (by omega)) HLF1.out (own_set hC.g (by simp [Value.ownBlock]; omega)) (own_set hC.ki (by simp [Value.ownBlock]; omega)) (by omega)
      have hb0 := bt hBW hC.b
      refine bodyPost_ret (v := .tuple #[.agg #[.slice lo ll lc, .slice (some ⟨gg, 0, none⟩) (k + 1) gc], .int .i64 0]) ?_ rfl ⟨_, _, rfl, ⟨?_, ?_⟩, ?_⟩
      · simp [results, Tryz.results55, go_sem, hrpc0, hrpc1, x3, q6, q7, q9]
      · exact CLs.mono (CLs.set (CLs.set (CLs.set hfin.1 (by omega)) (by omega)) (by omega)) (by omega)
      · exact GAt.mono (GAm.set (GAm.set (GAm.set hfin.2 (by omega)) (by omega)) (by omega)) (by omega)
      · exact ((((((hb0.setCell (p := ⟨w3.heap.size + 1, 0, none⟩) (by simp; omega) (.int .i64 (k : Int))).setCell (by simp; omega) _).setCell (by simp; omega) _).setCell (by simp; omega) _).setCell (by simp; omega) _).setCell (by simp) _).setCell (by simp) _

end Go.Proofs.YtecobjddpinonaaGreat
end

section
set_option linter.unusedVariables false
set_option linter.unusedSimpArgs false
set_option maxRecDepth 100000
namespace Go.Proofs.YtecobjddpinonaaGreat
open Go.RowKit Go.Shelf

set_option maxHeartbeats 1600000 in
theorem rmember_of (ka kb kc kd cc : ByteArray) (p q k : Nat) (x : Option (List (Nat × List Nat) × Int × Nat)) (ao : Option Addr) (n cap : Nat) (w : World)
    (hC : ∀ w' : World, w' = (w.alloc (.cells #[.string ka, .string kb, .string kc, .string kd] 26)).alloc (.cells #[.slice none 0 0, .slice none 0 0] 68) → Calls Tryz.prog 55 #[.agg #[.string ka, .string kb, .string kc, .string kd], .string cc, .slice ao n cap, .bool true] w' (CPost w' p q x k)) :
    Calls Tryz.prog 28 #[.agg #[.string ka, .string kb, .string kc, .string kd], .string cc, .slice ao n cap] w (CPost w p q x k) := by
  have HC := Lib.hid hC
  have hr := blk2b w #[.string ka, .string kb, .string kc, .string kd] #[.slice none 0 0, .slice none 0 0] 26 68
  have hBW := b2 w (.cells #[.string ka, .string kb, .string kc, .string kd] 26) (.cells #[.slice none 0 0, .slice none 0 0] 68)
  clear hC
  go_enter Tryz.func28, Tryz.ntmps28
  go_wp2_with fail
  refine (HC.out _ rfl).mono ?_
  rintro e w4 ⟨lv, gv, rfl, hx, hb4⟩
  obtain ⟨a1, n1, c1, a2, n2, c2, rfl, rfl⟩ := hx.form
  simp only [World.size_alloc] at hx
  replace hr : Blk w4 (w.heap.size + 1) 68 [.slice none 0 0, .slice none 0 0] := hr.after hb4
  replace hBW := bt hBW hb4
  have hl := hr.lt
  have hrc0 := hr.cell 0
  have hrf0 := hr.free 0
  have hrc1 := hr.cell 1
  have hrf1 := hr.free 1
  go_wp2
  refine bodyPost_ret (v := .tuple #[.agg #[.slice a1 n1 c1, .slice a2 n2 c2], .int .i64 k]) ?_ rfl ⟨_, _, rfl, ?_, ?_⟩
  · simp [results, Tryz.results28, go_sem, hrc0, hrc1, hl]
  · exact CX.mono (CX.set (CX.set hx (by omega)) (by omega)) (by omega)
  · exact (hBW.setCell (by simp) _).setCell (by simp) _

set_option maxHeartbeats 1600000 in
theorem routside_of (ka kb kc kd cc : ByteArray) (p q k : Nat) (x : Option (List (Nat × List Nat) × Int × Nat)) (ao : Option Addr) (n cap : Nat) (w : World)
    (hC : ∀ w' : World, w' = (w.alloc (.cells #[.string ka, .string kb, .string kc, .string kd] 26)).alloc (.cells #[.slice none 0 0, .slice none 0 0] 68) → Calls Tryz.prog 55 #[.agg #[.string ka, .string kb, .string kc, .string kd], .string cc, .slice ao n cap, .bool false] w' (CPost w' p q x k)) :
    Calls Tryz.prog 30 #[.agg #[.string ka, .string kb, .string kc, .string kd], .string cc, .slice ao n cap] w (CPost w p q x k) := by
  have HC := Lib.hid hC
  have hr := blk2b w #[.string ka, .string kb, .string kc, .string kd] #[.slice none 0 0, .slice none 0 0] 26 68
  have hBW := b2 w (.cells #[.string ka, .string kb, .string kc, .string kd] 26) (.cells #[.slice none 0 0, .slice none 0 0] 68)
  clear hC
  go_enter Tryz.func30, Tryz.ntmps30
  go_wp2_with fail
  refine (HC.out _ rfl).mono ?_
  rintro e w4 ⟨lv, gv, rfl, hx, hb4⟩
  obtain ⟨a1, n1, c1, a2, n2, c2, rfl, rfl⟩ := hx.form
  simp only [World.size_alloc] at hx
  replace hr : Blk w4 (w.heap.size + 1) 68 [.slice none 0 0, .slice none 0 0] := hr.after hb4
  replace hBW := bt hBW hb4
  have hl := hr.lt
  have hrc0 := hr.cell 0
  have hrf0 := hr.free 0
  have hrc1 := hr.cell 1
  have hrf1 := hr.free 1
  go_wp2
  refine bodyPost_ret (v := .tuple #[.agg #[.slice a1 n1 c1, .slice a2 n2 c2], .int .i64 k]) ?_ rfl ⟨_, _, rfl, ?_, ?_⟩
  · simp [results, Tryz.results30, go_sem, hrc0, hrc1, hl]
  · exact CX.mono (CX.set (CX.set hx (by omega)) (by omega)) (by omega)
  · exact (hBW.setCell (by simp) _).setCell (by simp) _

set_option maxHeartbeats 1600000 in
theorem eqs_c (u v : Value) (p q : Nat) (L : List (Nat × List Nat)) (w : World) (hn : L.length ≤ 1000000) (hnn : ∀ x ∈ L, x.2.length ≤ 1000) (hA : CLs w 0 u p q L) (hB : CLs w 0 v p q L) :
    Calls Tryz.prog 57 #[u, v, .func (.func 13) #[] #[]] w fun e w' => e = .returned (.bool true) ∧ Below w.heap.size w w' := by
  obtain ⟨ao, c, rfl⟩ := hA.form
  obtain ⟨bo, d, rfl⟩ := hB.form
  obtain ⟨n, hLn⟩ : ∃ n, L.length = n := ⟨_, rfl⟩
  have HLN := Lib.hid hLn
  have HNN := Lib.hid hnn
  rw [hLn] at hA hB hn ⊢
  clear hLn hnn
  go_enter Tryz.func57, Tryz.ntmps57
  go_wp2
  go_loopw [17] (fun i wr => ∃ k : Nat, k ≤ n ∧ i = .int .i64 k ∧ Below w.heap.size w wr) (fun i _ => n - (intOf i).toNat)
  case atStart => exact ⟨0, by omega, rfl, Below.refl _ _⟩
  case round =>
    obtain ⟨k, hk, rfl, hbr⟩ := hrel
    obtain ⟨wp, hwp⟩ : ∃ wp, wp = wr := ⟨_, rfl⟩
    subst hwp
    replace hA := hA.after hbr
    replace hB := hB.after hbr
    by_cases hlt : k < n
    · have hkl : k < L.length := by rw [HLN.out]; exact hlt
      obtain ⟨b, g1, g2, g3, g4, c1, c2, c3, c4, rfl, l1, x1, x2, x3, x4⟩ := hA.at_ hkl
      obtain ⟨b', h1, h2, h3, h4, d1, d2, d3, d4, rfl, l2, y1, y2, y3, y4⟩ := hB.at_ hkl
      have HB1 := Lib.hid (HNN.out _ (List.getElem_mem hkl))
      generalize L[k].1 = t at x4 y4
      generalize L[k].2 = B at x2 y2 x4 y4 HB1
      obtain ⟨m, hm⟩ : ∃ m, B.length = m := ⟨_, rfl⟩
      have HM := Lib.hid hm
      rw [hm] at x2 y2
      have HS := Lib.hid (fun (w' : World) (ha : Stm w' g1 g2 g3 g4 c4 p q t B) (hb : Stm w' h1 h2 h3 h4 d4 p q t B) => same_c w' g1 g2 g3 g4 c1 c2 c3 c4 h1 h2 h3 h4 d1 d2 d3 d4 p q t m B HM.out (by rw [← HM.out]; exact HB1.out) ha hb)
      clear hA hB hm
      go_wp2_with fail
      refine (HS.out _ (x4.after (b2 _ _ _)) (y4.after (b2 _ _ _))).mono ?_
      rintro e w2 ⟨rfl, hb2⟩
      go_wp2
      go_roundw
      case rel => exact ⟨k + 1, by omega, by go_num, bt (bt hbr (b2 _ _ _)) hb2⟩
      case measure => simp [intOf]; omega
    · obtain rfl : k = n := by omega
      go_wp2
      go_ret
      exact ⟨rfl, hbr⟩

/-- sizes within which clauses are compared -/
def CB (o : Option (List (Nat × List Nat) × Int × Nat)) : Prop :=
  match o with
  | none => True
  | some (L, _, n) => L.length ≤ 1000000 ∧ (∀ x ∈ L, x.2.length ≤ 1000) ∧ n ≤ 1000

theorem eqx_c {p q : Nat} {o : Option (List (Nat × List Nat) × Int × Nat)} {w : World} {u v x y : Value} (hb : CB o) (hA : CX p q o 0 w u x) (hB : CX p q o 0 w v y) :
    Calls Tryz.prog 57 #[u, v, .func (.func 13) #[] #[]] w fun e w' => e = .returned (.bool true) ∧ Below w.heap.size w w' := by
  match o, hb, hA, hB with
  | none, _, hA, hB =>
    obtain ⟨rfl, _⟩ := hA
    obtain ⟨rfl, _⟩ := hB
    exact eqs_c _ _ p q [] w (by simp) (by simp) (CLs.nil _ _ _ _) (CLs.nil _ _ _ _)
  | some (L, need, n), hb, hA, hB => exact eqs_c _ _ p q L w hb.1 hb.2.1 hA.1 hB.1

theorem eqg_c {p q : Nat} {o : Option (List (Nat × List Nat) × Int × Nat)} {w : World} {u v x y : Value} (hb : CB o) (hA : CX p q o 0 w u x) (hB : CX p q o 0 w v y) :
    Calls Tryz.prog 58 #[.agg #[x], .agg #[y]] w fun e w' => e = .returned (.bool true) ∧ Below w.heap.size w w' := by
  match o, hb, hA, hB with
  | none, _, hA, hB =>
    obtain ⟨_, rfl⟩ := hA
    obtain ⟨_, rfl⟩ := hB
    exact same20_nil w
  | some (L, need, n), hb, hA, hB => exact same20_c n need _ _ w hb.2.2 hA.2 hB.2

set_option maxHeartbeats 1600000 in
theorem samecl_c (p q : Nat) (o : Option (List (Nat × List Nat) × Int × Nat)) (w : World) (u v x y : Value) (hb : CB o) (hA : CX p q o 0 w u x) (hB : CX p q o 0 w v y) :
    Calls Tryz.prog 31 #[.agg #[u, x], .agg #[v, y]] w fun e w' => e = .returned (.bool true) ∧ Below w.heap.size w w' := by
  obtain ⟨a1, n1, c1, a2, n2, c2, rfl, rfl⟩ := hA.form
  obtain ⟨a3, n3, c3, a4, n4, c4, rfl, rfl⟩ := hB.form
  have hP := blk2a w #[.slice a1 n1 c1, .slice a2 n2 c2] #[.slice a3 n3 c3, .slice a4 n4 c4] 68 68
  have hQ := blk2b w #[.slice a1 n1 c1, .slice a2 n2 c2] #[.slice a3 n3 c3, .slice a4 n4 c4] 68 68
  have hBW := b2 w (.cells #[.slice a1 n1 c1, .slice a2 n2 c2] 68) (.cells #[.slice a3 n3 c3, .slice a4 n4 c4] 68)
  replace hA := hA.after hBW
  replace hB := hB.after hBW
  have HE := Lib.hid (eqx_c hb hA hB)
  have HG := Lib.hid (fun (w' : World) (ha : CX p q o 0 w' (.slice a1 n1 c1) (.slice a2 n2 c2)) (hb' : CX p q o 0 w' (.slice a3 n3 c3) (.slice a4 n4 c4)) => eqg_c hb ha hb')
  have hPc0 := hP.cell 0
  have hPf0 := hP.free 0
  have hPc1 := hP.cell 1
  have hPf1 := hP.free 1
  have hQc0 := hQ.cell 0
  have hQf0 := hQ.free 0
  have hQc1 := hQ.cell 1
  have hQf1 := hQ.free 1
  go_enter Tryz.func31, Tryz.ntmps31
  go_wp2_with fail
  refine (HE.out).mono ?_
  rintro e w2 ⟨rfl, hb2⟩
  clear hPc0 hPf0 hPc1 hPf1
  clear hQc0 hQf0 hQc1 hQf1
  replace hP : Blk w2 w.heap.size 68 [.slice a1 n1 c1, .slice a2 n2 c2] := hP.after hb2
  replace hQ : Blk w2 (w.heap.size + 1) 68 [.slice a3 n3 c3, .slice a4 n4 c4] := hQ.after hb2
  have l1 := hP.lt
  have l2 := hQ.lt
  replace hA := hA.after hb2
  replace hB := hB.after hb2
  replace hBW := bt hBW hb2
  have hPc0 := hP.cell 0
  have hPf0 := hP.free 0
  have hPc1 := hP.cell 1
  have hPf1 := hP.free 1
  have hQc0 := hQ.cell 0
  have hQf0 := hQ.free 0
  have hQc1 := hQ.cell 1
  have hQf1 := hQ.free 1
  go_wp2_with fail
  refine (HG.out _ hA hB).mono ?_
  rintro e w3 ⟨rfl, hb3⟩
  go_wp2
  go_ret
  exact ⟨rfl, bt hBW hb3⟩

end Go.Proofs.YtecobjddpinonaaGreat
end

section
set_option linter.unusedVariables false
set_option linter.unusedSimpArgs false
set_option maxRecDepth 100000
namespace Go.Proofs.YtecobjddpinonaaGreat
open Go.RowKit Go.Shelf

set_option maxHeartbeats 4000000 in
theorem sets_big (ka kb kc kd cc : ByteArray) (ao : Option Addr) (n cap : Nat) (w : World) (hs : ∀ s ∈ [cc] ++ [ka, kb, kc, kd], s.size ≤ 9223372036854775807) (hb : smallB ([cc] ++ [ka, kb, kc, kd]) = false) :
    Calls Tryz.prog 6 #[.agg #[.string ka, .string kb, .string kc, .string kd], .string cc, .slice ao n cap] w fun e w' => e = .returned (.bool true) ∧ Below w.heap.size w w' := by
  have HS := Lib.hid (lsmall_c ka kb kc kd [cc] (w.heap.size + 1) 1 ((w.alloc (.cells #[Value.string ka, Value.string kb, Value.string kc, Value.string kd] 26)).alloc (.cells #[.string cc] 22)) rfl (by omega) (by omega) hs (blk2b _ _ _ _ _))
  rw [hb] at HS
  have HA := Lib.hid awake_c
  clear hs hb
  go_enter Tryz.func6, Tryz.ntmps6
  go_wp2_with fail
  refine (HS.out).mono ?_
  rintro e w1 ⟨rfl, hb1⟩
  go_wp2_with fail
  refine (HA.out _).mono ?_
  rintro e w2 ⟨rfl, hb2⟩
  go_wp2
  go_ret
  exact ⟨rfl, bt (bt (b2 _ _ _) hb1) hb2⟩

set_option maxHeartbeats 4000000 in
theorem sets_long (ka kb kc kd cc : ByteArray) (ao : Option Addr) (n cap : Nat) (w : World) (hs : ∀ s ∈ [cc] ++ [ka, kb, kc, kd], s.size ≤ 9223372036854775807) (hb : smallB ([cc] ++ [ka, kb, kc, kd]) = true) (hn : 12 < n) :
    Calls Tryz.prog 6 #[.agg #[.string ka, .string kb, .string kc, .string kd], .string cc, .slice ao n cap] w fun e w' => e = .returned (.bool true) ∧ Below w.heap.size w w' := by
  have HS := Lib.hid (lsmall_c ka kb kc kd [cc] (w.heap.size + 1) 1 ((w.alloc (.cells #[Value.string ka, Value.string kb, Value.string kc, Value.string kd] 26)).alloc (.cells #[.string cc] 22)) rfl (by omega) (by omega) hs (blk2b _ _ _ _ _))
  rw [hb] at HS
  have HA := Lib.hid awake_c
  have e1 : decide ((12 : Int) < (n : Int)) = true := decide_eq_true (by omega)
  clear hs hb
  go_enter Tryz.func6, Tryz.ntmps6
  go_wp2_with fail
  refine (HS.out).mono ?_
  rintro e w1 ⟨rfl, hb1⟩
  go_wp2_with fail
  refine (HA.out _).mono ?_
  rintro e w2 ⟨rfl, hb2⟩
  go_wp2
  go_ret
  exact ⟨rfl, bt (bt (b2 _ _ _) hb1) hb2⟩

set_option maxHeartbeats 8000000 in
theorem sets_walk (ka kb kc kd cc : ByteArray) (V : List Int) (ao : Option Addr) (n cap : Nat) (p q k1 k2 : Nat) (o1 o2 : Option (List (Nat × List Nat) × Int × Nat)) (w : World) (hs : ∀ s ∈ [cc] ++ [ka, kb, kc, kd], s.size ≤ 9223372036854775807) (hb : smallB ([cc] ++ [ka, kb, kc, kd]) = true) (hn2 : n ≤ 12) (hV : NumsAt w ao V) (hb1 : CB o1) (hb2 : CB o2)
    (h1 : ∀ w, NumsAt w ao V → Calls Tryz.prog 27 #[.agg #[.string ka, .string kb, .string kc, .string kd], .string cc, .slice ao n cap] w (CPost w p q o1 k1))
    (h2 : ∀ w, NumsAt w ao V → Calls Tryz.prog 28 #[.agg #[.string ka, .string kb, .string kc, .string kd], .string cc, .slice ao n cap] w (CPost w p q o1 k1))
    (h3 : ∀ w, NumsAt w ao V → Calls Tryz.prog 29 #[.agg #[.string ka, .string kb, .string kc, .string kd], .string cc, .slice ao n cap] w (CPost w p q o2 k2))
    (h4 : ∀ w, NumsAt w ao V → Calls Tryz.prog 30 #[.agg #[.string ka, .string kb, .string kc, .string kd], .string cc, .slice ao n cap] w (CPost w p q o2 k2)) :
    Calls Tryz.prog 6 #[.agg #[.string ka, .string kb, .string kc, .string kd], .string cc, .slice ao n cap] w fun e w' => e = .returned (.bool true) ∧ Below w.heap.size w w' := by
  have HS := Lib.hid (lsmall_c ka kb kc kd [cc] (w.heap.size + 1) 1 ((w.alloc (.cells #[Value.string ka, Value.string kb, Value.string kc, Value.string kd] 26)).alloc (.cells #[.string cc] 22)) rfl (by omega) (by omega) hs (blk2b _ _ _ _ _))
  rw [hb] at HS
  have HA := Lib.hid awake_c
  have e1 : decide ((12 : Int) < (n : Int)) = false := decide_eq_false (by omega)
  have H1 := Lib.hid h1
  have H2 := Lib.hid h2
  have H3 := Lib.hid h3
  have H4 := Lib.hid h4
  have HB1 := Lib.hid hb1
  have HB2 := Lib.hid hb2
  have hB := blk2a w #[Value.string ka, Value.string kb, Value.string kc, Value.string kd] #[.string cc] 26 22
  have hBW := b2 w (.cells #[Value.string ka, Value.string kb, Value.string kc, Value.string kd] 26) (.cells #[.string cc] 22)
  replace hV := hV.after hBW
  clear hs hb h1 h2 h3 h4 hb1 hb2
  go_enter Tryz.func6, Tryz.ntmps6
  go_wp2_with fail
  refine (HS.out).mono ?_
  rintro e w1 ⟨rfl, hb1⟩
  replace hB := hB.after hb1
  replace hV := hV.after hb1
  replace hBW := bt hBW hb1
  clear hb1
  have yb : w.heap.size < w1.heap.size := hB.lt
  have hBc0 := hB.cell 0
  have hBf0 := hB.free 0
  have hBc1 := hB.cell 1
  have hBf1 := hB.free 1
  have hBc2 := hB.cell 2
  have hBf2 := hB.free 2
  have hBc3 := hB.cell 3
  have hBf3 := hB.free 3
  go_wp2_with fail
  refine (H1.out _ hV).mono ?_
  rintro e w2 ⟨lv, gv, rfl, hc1, hb⟩
  obtain ⟨a1, n1, c1, z1, m1, d1, rfl, rfl⟩ := hc1.form
  replace hc1 := CX.mono hc1 (Nat.zero_le _)
  clear hBc0 hBf0 hBc1 hBf1 hBc2 hBf2 hBc3 hBf3
  clear yb
  replace hB := hB.after hb
  replace hBW := bt hBW hb
  replace hV := hV.after hb
  have yb : w.heap.size < w2.heap.size := hB.lt
  have hx1 := Blk.new w2 #[.slice a1 n1 c1, .slice z1 m1 d1] 68
  clear hb
  have hBc0 := hB.cell 0
  have hBf0 := hB.free 0
  have hBc1 := hB.cell 1
  have hBf1 := hB.free 1
  have hBc2 := hB.cell 2
  have hBf2 := hB.free 2
  have hBc3 := hB.cell 3
  have hBf3 := hB.free 3
  go_wp2_with fail
  refine (H2.out _ (hV.after (b1 _ _))).mono ?_
  rintro e w3 ⟨lv, gv, rfl, hc2, hb⟩
  obtain ⟨a2, n2, c2, z2, m2, d2, rfl, rfl⟩ := hc2.form
  replace hc2 := CX.mono hc2 (Nat.zero_le _)
  clear hBc0 hBf0 hBc1 hBf1 hBc2 hBf2 hBc3 hBf3
  clear yb
  replace hB := (hB.alloc (.cells #[.slice a1 n1 c1, .slice z1 m1 d1] 68)).after hb
  replace hBW := bt (ba hBW (.cells #[.slice a1 n1 c1, .slice z1 m1 d1] 68)) hb
  replace hV := (hV.after (b1 _ (.cells #[.slice a1 n1 c1, .slice z1 m1 d1] 68))).after hb
  replace hx1 := hx1.after hb
  replace hc1 := (hc1.after (b1 _ (.cells #[.slice a1 n1 c1, .slice z1 m1 d1] 68))).after hb
  have yb : w.heap.size < w3.heap.size := hB.lt
  have hx2 := Blk.new w3 #[.slice a2 n2 c2, .slice z2 m2 d2] 68
  have hl1_2 := hx1.lt
  clear hb
  have hBc0 := hB.cell 0
  have hBf0 := hB.free 0
  have hBc1 := hB.cell 1
  have hBf1 := hB.free 1
  have hBc2 := hB.cell 2
  have hBf2 := hB.free 2
  have hBc3 := hB.cell 3
  have hBf3 := hB.free 3
  go_wp2_with fail
  refine (H3.out _ (hV.after (b1 _ _))).mono ?_
  rintro e w4 ⟨lv, gv, rfl, hc3, hb⟩
  obtain ⟨a3, n3, c3, z3, m3, d3, rfl, rfl⟩ := hc3.form
  replace hc3 := CX.mono hc3 (Nat.zero_le _)
  clear hBc0 hBf0 hBc1 hBf1 hBc2 hBf2 hBc3 hBf3
  clear yb
  replace hB := (hB.alloc (.cells #[.slice a2 n2 c2, .slice z2 m2 d2] 68)).after hb
  replace hBW := bt (ba hBW (.cells #[.slice a2 n2 c2, .slice z2 m2 d2] 68)) hb
  replace hV := (hV.after (b1 _ (.cells #[.slice a2 n2 c2, .slice z2 m2 d2] 68))).after hb
  replace hx1 := (hx1.alloc (.cells #[.slice a2 n2 c2, .slice z2 m2 d2] 68)).after hb
  replace hc1 := (hc1.after (b1 _ (.cells #[.slice a2 n2 c2, .slice z2 m2 d2] 68))).after hb
  replace hx2 := hx2.after hb
  replace hc2 := (hc2.after (b1 _ (.cells #[.slice a2 n2 c2, .slice z2 m2 d2] 68))).after hb
  have yb : w.heap.size < w4.heap.size := hB.lt
  have hx3 := Blk.new w4 #[.slice a3 n3 c3, .slice z3 m3 d3] 68
  have hl1_3 := hx1.lt
  have hl2_3 := hx2.lt
  clear hb
  have hBc0 := hB.cell 0
  have hBf0 := hB.free 0
  have hBc1 := hB.cell 1
  have hBf1 := hB.free 1
  have hBc2 := hB.cell 2
  have hBf2 := hB.free 2
  have hBc3 := hB.cell 3
  have hBf3 := hB.free 3
  go_wp2_with fail
  refine (H4.out _ (hV.after (b1 _ _))).mono ?_
  rintro e w5 ⟨lv, gv, rfl, hc4, hb⟩
  obtain ⟨a4, n4, c4, z4, m4, d4, rfl, rfl⟩ := hc4.form
  replace hc4 := CX.mono hc4 (Nat.zero_le _)
  clear hBc0 hBf0 hBc1 hBf1 hBc2 hBf2 hBc3 hBf3
  clear yb
  replace hB := (hB.alloc (.cells #[.slice a3 n3 c3, .slice z3 m3 d3] 68)).after hb
  replace hBW := bt (ba hBW (.cells #[.slice a3 n3 c3, .slice z3 m3 d3] 68)) hb
  replace hV := (hV.after (b1 _ (.cells #[.slice a3 n3 c3, .slice z3 m3 d3] 68))).after hb
  replace hx1 := (hx1.alloc (.cells #[.slice a3 n3 c3, .slice z3 m3 d3] 68)).after hb
  replace hc1 := (hc1.after (b1 _ (.cells #[.slice a3 n3 c3, .slice z3 m3 d3] 68))).after hb
  replace hx2 := (hx2.alloc (.cells #[.slice a3 n3 c3, .slice z3 m3 d3] 68)).after hb
  replace hc2 := (hc2.after (b1 _ (.cells #[.slice a3 n3 c3, .slice z3 m3 d3] 68))).after hb
  replace hx3 := hx3.after hb
  replace hc3 := (hc3.after (b1 _ (.cells #[.slice a3 n3 c3, .slice z3 m3 d3] 68))).after hb
  have yb : w.heap.size < w5.heap.size := hB.lt
  have hx4 := Blk.new w5 #[.slice a4 n4 c4, .slice z4 m4 d4] 68
  have hl1_4 := hx1.lt
  have hl2_4 := hx2.lt
  have hl3_4 := hx3.lt
  clear hb
  have hx1c0 := hx1.cell 0
  have hx1f0 := hx1.free 0
  have hx1c1 := hx1.cell 1
  have hx1f1 := hx1.free 1
  have hx2c0 := hx2.cell 0
  have hx2f0 := hx2.free 0
  have hx2c1 := hx2.cell 1
  have hx2f1 := hx2.free 1
  have hx3c0 := hx3.cell 0
  have hx3f0 := hx3.free 0
  have hx3c1 := hx3.cell 1
  have hx3f1 := hx3.free 1
  have hx4c0 := hx4.cell 0
  have hx4f0 := hx4.free 0
  have hx4c1 := hx4.cell 1
  have hx4f1 := hx4.free 1
  go_wp2_with fail
  refine (samecl_c p q o1 _ _ _ _ _ HB1.out (hc1.after (b1 _ _)) (hc2.after (b1 _ _))).mono ?_
  rintro e w6 ⟨rfl, hb6⟩
  clear hx1c0 hx1f0 hx1c1 hx1f1
  clear hx2c0 hx2f0 hx2c1 hx2f1
  clear hx3c0 hx3f0 hx3c1 hx3f1
  clear hx4c0 hx4f0 hx4c1 hx4f1
  replace hx1 := (hx1.alloc (.cells #[.slice a4 n4 c4, .slice z4 m4 d4] 68)).after hb6
  replace hx2 := (hx2.alloc (.cells #[.slice a4 n4 c4, .slice z4 m4 d4] 68)).after hb6
  replace hx3 := (hx3.alloc (.cells #[.slice a4 n4 c4, .slice z4 m4 d4] 68)).after hb6
  replace hx4 := hx4.after hb6
  replace hBW := bt (ba hBW (.cells #[.slice a4 n4 c4, .slice z4 m4 d4] 68)) hb6
  replace hc3 := (hc3.after (b1 _ (.cells #[.slice a4 n4 c4, .slice z4 m4 d4] 68))).after hb6
  replace hc4 := (hc4.after (b1 _ (.cells #[.slice a4 n4 c4, .slice z4 m4 d4] 68))).after hb6
  have hx1c0 := hx1.cell 0
  have hx1f0 := hx1.free 0
  have hx1c1 := hx1.cell 1
  have hx1f1 := hx1.free 1
  have hx2c0 := hx2.cell 0
  have hx2f0 := hx2.free 0
  have hx2c1 := hx2.cell 1
  have hx2f1 := hx2.free 1
  have hx3c0 := hx3.cell 0
  have hx3f0 := hx3.free 0
  have hx3c1 := hx3.cell 1
  have hx3f1 := hx3.free 1
  have hx4c0 := hx4.cell 0
  have hx4f0 := hx4.free 0
  have hx4c1 := hx4.cell 1
  have hx4f1 := hx4.free 1
  go_wp2_with fail
  refine (samecl_c p q o2 _ _ _ _ _ HB2.out hc3 hc4).mono ?_
  rintro e w7 ⟨rfl, hb7⟩
  go_wp2_with fail
  refine (HA.out _).mono ?_
  rintro e w8 ⟨rfl, hb8⟩
  go_wp2
  go_ret
  exact ⟨rfl, bt (bt hBW hb7) hb8⟩

theorem sets_c (ka kb kc kd cc : ByteArray) (V : List Int) (ao : Option Addr) (n cap : Nat) (w : World) (hs : ∀ s ∈ [cc] ++ [ka, kb, kc, kd], s.size ≤ 9223372036854775807) (hn : V.length = n) (hV : NumsAt w ao V) (hvr : ∀ v ∈ V, -9223372036854775808 ≤ v ∧ v ≤ 9223372036854775807) :
    Calls Tryz.prog 6 #[.agg #[.string ka, .string kb, .string kc, .string kd], .string cc, .slice ao n cap] w fun e w' => e = .returned (.bool true) ∧ Below w.heap.size w w' := by
  cases hb : smallB ([cc] ++ [ka, kb, kc, kd])
  · exact sets_big ka kb kc kd cc ao n cap w hs hb
  · by_cases hl : 12 < n
    · exact sets_long ka kb kc kd cc ao n cap w hs hb hl
    · have hn12 : n ≤ 12 := by omega
      have hb2 := hb
      simp only [smallB, List.cons_append, List.nil_append, List.all_cons, List.all_nil, Bool.and_true, Bool.and_eq_true, decide_eq_true_eq] at hb2
      rcases ready_cases ka kb kc kd cc hb2.2.1 hb2.2.2.1 hb2.2.2.2.1 hb2.2.2.2.2 hb2.1 with ⟨k, hk, hR, hQ⟩ | ⟨p, q, g, h, c, ⟨a1, a2, a3, a4, a5⟩, rfl, rfl, rfl, rfl, rfl, h0⟩
      · exact sets_walk ka kb kc kd cc V ao n cap 0 0 k k none none w hs hb hn12 hV trivial trivial
          (fun w _ => member_of ka kb kc kd cc 0 0 k none ao n cap w (fun w' _ => clause_err ka kb kc kd cc 0 0 k ao n cap 1 _ w' hk hR))
          (fun w _ => rmember_of ka kb kc kd cc 0 0 k none ao n cap w (fun w' _ => rclause_err ka kb kc kd cc 0 0 k ao n cap true w' hk hQ))
          (fun w _ => outside_of ka kb kc kd cc 0 0 k none ao n cap w (fun w' _ => clause_err ka kb kc kd cc 0 0 k ao n cap (n : Int) _ w' hk hR))
          (fun w _ => routside_of ka kb kc kd cc 0 0 k none ao n cap w (fun w' _ => rclause_err ka kb kc kd cc 0 0 k ao n cap false w' hk hQ))
      · obtain ⟨hq0, hpe, hge, hc, hgg⟩ := readyN_ok h0
        have hR : ∀ (w' : World) (b : Nat), Blk w' b 22 [.string (E c)] → Calls Tryz.prog 33 #[.agg #[.string (E p), .string (E q), .string (E g), .string (E h)], .slice (some ⟨b, 0, none⟩) 1 1] w' fun e w'' => e = .returned (.int .i64 0) ∧ Below w'.heap.size w' w'' := by
          intro w' b hs'
          have := ready_num p q g h [c] (some ⟨b, 0, none⟩) 1 w' rfl (by omega) (by simpa using lt128 a5) (strs1 hs') a1 (lt128 a2) (lt128 a3) (lt128 a4)
          rw [h0] at this
          exact this
        have hQ : ∀ (w' : World) (b : Nat), Blk w' b 22 [.string (E c)] → Calls Tryz.prog 36 #[.agg #[.string (E p), .string (E q), .string (E g), .string (E h)], .slice (some ⟨b, 0, none⟩) 1 1] w' fun e w'' => e = .returned (.int .i64 0) ∧ Below w'.heap.size w' w'' := by
          intro w' b hs'
          have := rready_num p q g h [c] (some ⟨b, 0, none⟩) 1 w' rfl (by omega) (by simpa using lt128 a5) (strs1 hs') a1 (lt128 a2) (lt128 a3) (lt128 a4)
          rw [h0] at this
          exact this
        by_cases hz : n = 0
        · subst hz
          exact sets_walk (E p) (E q) (E g) (E h) (E c) V ao 0 cap p q 6 6 none none w hs hb hn12 hV trivial trivial
            (fun w _ => member_of _ _ _ _ _ p q 6 none ao 0 cap w (fun w' _ => clause_zero _ _ _ _ _ p q ao cap 1 _ w' hR))
            (fun w _ => rmember_of _ _ _ _ _ p q 6 none ao 0 cap w (fun w' _ => rclause_zero _ _ _ _ _ p q ao cap true w' hQ))
            (fun w _ => outside_of _ _ _ _ _ p q 6 none ao 0 cap w (fun w' _ => clause_zero _ _ _ _ _ p q ao cap _ _ w' hR))
            (fun w _ => routside_of _ _ _ _ _ p q 6 none ao 0 cap w (fun w' _ => rclause_zero _ _ _ _ _ p q ao cap false w' hQ))
        · have hp : 0 < n := Nat.pos_of_ne_zero hz
          have hsh : ∀ v : Int, shiftN p c g (-v) = overN p c g v := fun v => shift_eq (-v) (has_lt hgg)
          have hO : ∀ v ∈ V, ∀ w', Calls Tryz.prog 38 #[.agg #[.string (E p), .string (E q), .string (E g), .string (E h)], .string (E c), .string (E g), .int .i64 v] w' fun e w'' => e = .returned (.string (E (overN p c g v))) ∧ Below w'.heap.size w' w'' :=
            fun v hv w' => rover28_c p q g h c g v w' a1 (lt128 a2) hq0 (hvr v hv).1 (hvr v hv).2 hge hc hgg
          have hl1 : (V.map (fun v => (overN p c g v, [h]))).length ≤ 1000000 := by simp; omega
          have hl2 : (V.map (fun v => (g, [overN p c g v, h]))).length ≤ 1000000 := by simp; omega
          have hl3 : ∀ x ∈ V.map (fun v => (overN p c g v, [h])), x.2.length ≤ 1000 := by intro x hx; obtain ⟨v, _, rfl⟩ := List.mem_map.1 hx; simp
          have hl4 : ∀ x ∈ V.map (fun v => (g, [overN p c g v, h])), x.2.length ≤ 1000 := by intro x hx; obtain ⟨v, _, rfl⟩ := List.mem_map.1 hx; simp
          exact sets_walk (E p) (E q) (E g) (E h) (E c) V ao n cap p q 0 0 (some (V.map (fun v => (overN p c g v, [h])), 1, n)) (some (V.map (fun v => (g, [overN p c g v, h])), (n : Int), n)) w hs hb hn12 hV ⟨hl1, hl3, by omega⟩ ⟨hl2, hl4, by omega⟩
            (fun w hw => member_of _ _ _ _ _ p q 0 _ ao n cap w (fun w' e => by
              subst e
              exact clause_c _ _ _ _ _ p q V ao n cap 1 54 w.heap.size (w.heap.size + 1) (fun v => (overN p c g v, [h])) _ hR hn hp (by omega) (hw.after (b3 _ _ _ _)) (by omega) (by omega) (fun v => by simp) (enters_of Tryz.func54 (by kernel_rfl) rfl) (blk3a _ _ _ _ _ _ _) (blk3b _ _ _ _ _ _ _)
                (fun v hv w' hK hC => by
                  have := mclo_c p q g h c v w.heap.size (w.heap.size + 1) w' a1 (lt128 a2) (lt128 a3) (lt128 a4) (lt128 a5) (hvr v hv).1 (hvr v hv).2 hpe hc hgg hK hC
                  rw [hsh v] at this
                  exact this)))
            (fun w hw => rmember_of _ _ _ _ _ p q 0 _ ao n cap w (fun w' e => by
              subst e
              exact rclause_in_c p q g h c V ao n cap (fun v => overN p c g v) _ hQ hn hp (by omega) (hw.after (b2 _ _ _)) hO))
            (fun w hw => outside_of _ _ _ _ _ p q 0 _ ao n cap w (fun w' e => by
              subst e
              exact clause_c _ _ _ _ _ p q V ao n cap (n : Int) 56 w.heap.size (w.heap.size + 1) (fun v => (g, [overN p c g v, h])) _ hR hn hp (by omega) (hw.after (b3 _ _ _ _)) (by omega) (by omega) (fun v => by simp) (enters_of Tryz.func56 (by kernel_rfl) rfl) (blk3a _ _ _ _ _ _ _) (blk3b _ _ _ _ _ _ _)
                (fun v hv w' hK hC => by
                  have := oclo_c p q g h c v w.heap.size (w.heap.size + 1) w' a1 (lt128 a2) (lt128 a3) (lt128 a4) (lt128 a5) (hvr v hv).1 (hvr v hv).2 hpe hc hgg hK hC
                  rw [hsh v] at this
                  exact this)))
            (fun w hw => routside_of _ _ _ _ _ p q 0 _ ao n cap w (fun w' e => by
              subst e
              exact rclause_out_c p q g h c V ao n cap (fun v => overN p c g v) _ hQ hn hp (by omega) (hw.after (b2 _ _ _)) hO))

end Go.Proofs.YtecobjddpinonaaGreat
end

section
set_option linter.unusedVariables false
set_option linter.unusedSimpArgs false
set_option maxRecDepth 100000
namespace Go.Proofs.YtecobjddpinonaaGreat
open Go.RowKit Go.WideShapes Go.ChangeShapes Go.ChangeAt Go.Joins Go.Deep
open Go.ChangeMaps (open_string shut_string)

theorem laid_out : laidOutB Tryz.prog = true := by kernel_rfl

section
variable {H : Type} {enc : TypeId × Value → H} {w : World} {base : Nat} {spare : Nat → Bool} {held : Bool}
theorem size_int : Tryz.prog.cellsOf 3 = 1 := by kernel_rfl

/-- a slice of numbers as an argument -/
theorem open_nums {r : Reach} {b0 : Nat} {v : Value} {d : DataW H} {p : List MemPlace} (hv : Value.okWide Tryz.prog w r b0 48 v) (h : DataW.Trod enc Tryz.prog w base (fun _ => true) held 48 v d p) (hlt : ∀ x ∈ p, x.block < w.heap.size) :
    ∃ (ao : Option Addr) (n c : Nat) (V : List Int), v = .slice ao n c ∧ V.length = n ∧ NumsAt w ao V ∧ ∀ z ∈ V, -9223372036854775808 ≤ z ∧ z ≤ 9223372036854775807 := by
  obtain ⟨a0, len, cap, rfl⟩ := okWide_slice Tryz.underlying48 hv
  obtain ⟨fuel, hf⟩ := h
  rcases open_ints Tryz.underlying48 Tryz.underlying3 size_int hf with ⟨hcs, hx⟩ | ⟨a, len', cap', zs, hcs, _, hl, hm, hz, hx, hcell, hwz⟩
  · simp [Value.cells] at hcs
    obtain ⟨rfl, rfl, rfl⟩ := hcs
    exact ⟨_, _, _, [], rfl, rfl, .inl rfl, by simp⟩
  · simp [Value.cells] at hcs
    obtain ⟨rfl, rfl, rfl⟩ := hcs
    simp only [Prod.mk.injEq] at hx
    obtain ⟨rfl, rfl⟩ := hx
    simp only [if_true] at hz
    refine ⟨_, _, _, zs.take len, rfl, by simp; omega, ?_, fun z hz' => by simpa [Lit.wf, IntKind.min, IntKind.max, IntKind.signed, IntKind.bits] using hwz z (List.mem_of_mem_take hz')⟩
    by_cases hl0 : len = 0
    · exact .inl (by simp [hl0])
    · obtain ⟨b, off, spot⟩ := a
      have hspot : spot = none := by simpa [Addr.add] using World.cell?_spot (hcell 0 (by omega))
      subst hspot
      have h0 := hcell 0 (by omega)
      rw [add_plain] at h0
      refine .inr ⟨b, off, rfl, ?_, fun j hj => ?_⟩
      · apply Classical.byContradiction
        intro hge
        have hnone : w.heap[b]? = none := by simpa using hge
        simp [World.cell?, hnone] at h0
      · have hjl : j < zs.length := by simp at hj; omega
        have := hcell j hjl
        rw [add_plain] at this
        rw [this]
        simp [List.getD, List.getElem?_eq_getElem hjl]

end

theorem sets_lifted (os : Os) (started : os.Started) (H : Type) (enc : TypeId × Value → H) :
    ReturnsInHanded {} Tryz.checked os 6 .any (Rows.setproofSetsSpec.pre6 enc Tryz.prog Tryz.f6 Rows.setproofSetsRow.domain false) (Rows.setproofSetsSpec.post enc Tryz.prog Tryz.f6 false true false false) := by
  refine returnsInHanded_of_change (C := Tryz.checked) own_knob started (by kernel_rfl) Tryz.func6
    (ChangeSpec.witness6 (enc := enc) (C := Tryz.checked) false ⟨#[], #[.agg #[.string ⟨#[]⟩, .string ⟨#[]⟩, .string ⟨#[]⟩, .string ⟨#[]⟩], .string ⟨#[]⟩, .slice none 0 0], []⟩ 8 (by kernel_rfl) (by kernel_rfl) (by kernel_rfl) (by kernel_rfl)) ?_
  intro W base args ds gs before hval0 hW _ _
  have hval : ∀ (j : Nat) t v, Tryz.f6.params[j]? = some t → args[j]? = some v → Value.okWide Tryz.prog W .any base t v := hval0
  have hW' := hW
  obtain ⟨p, q, hA0, hV, rfl, _, _⟩ := hW
  have hA : DataW.TrodAll enc Tryz.prog W 0 (fun _ => true) true Tryz.f6.params.toList args.toList ds p := hA0
  rw [Tryz.params6] at hA hval
  obtain ⟨v0, vs0, d0, ds0, p0, q0, hargs, rfl, rfl, h0, r0⟩ := trodAll_cons hA
  obtain ⟨v1, vs1, d1, ds1, p1, q1, rfl, rfl, rfl, h1, r1⟩ := trodAll_cons r0
  obtain ⟨v2, vs2, d2, ds2, p2, q2, rfl, rfl, rfl, h2, r2⟩ := trodAll_cons r1
  obtain ⟨rfl, rfl, rfl⟩ := trodAll_nil r2
  obtain rfl : args = #[v0, v1, v2] := by cases args; simp_all
  obtain ⟨rfl, rfl⟩ := trodVars_none hV
  simp only [List.append_nil] at hW'
  have hlt : ∀ x ∈ p0 ++ (p1 ++ p2), x.block < W.heap.size := fun x hx => hW'.lt x hx
  have k0 := h0
  have k2 := h2
  obtain ⟨a, b, c, e, rfl, rfl, rfl, sa, sb, sc, se⟩ := open_ped (hval 0 26 v0 rfl rfl) h0
  obtain ⟨x, rfl, rfl, rfl, sx⟩ := open_string Tryz.underlying22 (hval 1 22 v1 rfl rfl) h1
  obtain ⟨ao, n, cp, V, rfl, hn, hN, hvr⟩ := open_nums (hval 2 48 v2 rfl rfl) h2 (fun z hz => hlt z (by simp [hz]))
  clear hA0 hval0 hA r0 r1 r2 h0 h1 h2
  have hsz : ∀ z ∈ [x] ++ [a, b, c, e], z.size ≤ 9223372036854775807 := by
    unfold maxLen at sa sb sc se sx
    intro z hz
    simp at hz
    rcases hz with rfl | rfl | rfl | rfl | rfl <;> omega
  refine (sets_c a b c e x V ao n cp W hsz hn hN hvr).mono fun en W' hh => ?_
  obtain ⟨rfl, hb⟩ := hh
  have stay : ∀ {t : TypeId} (hr : Tryz.prog.readableRec t = true) (hrow : t < Tryz.prog.types.size) {v : Value} {d : DataW H} {ps : List MemPlace} (h : DataW.Trod enc Tryz.prog W 0 (fun _ => true) true t v d ps) (hl : ∀ z ∈ ps, z.block < W.heap.size) (sp : Nat → Bool) (hs : ∀ z ∈ ps, sp z.block = true), DataW.Trod enc Tryz.prog W' 0 sp true t v d ps :=
    fun hr hrow _ _ _ h hl sp hs => WideElems.Trod_stays laid_out hr hrow h (fun z hz => hb.same (hl z hz)) hs
  exact ⟨_, rfl, post_of_below (pa := [] ++ ([] ++ (p2 ++ []))) (pv := []) hW' (fun _ _ _ => trodAll_cons_mk (shut_bool Tryz.underlying4 _) trodAll_mk0)
    (fun sp hs => trodAll_cons_mk (shut_ped sa sb sc se) (trodAll_cons_mk (shut_string Tryz.underlying22 sx) (trodAll_cons_mk (stay (by kernel_rfl) (of_decide_eq_true (by kernel_rfl)) k2 (fun z hz => hlt z (by simp [hz])) sp (fun z hz => hs z (by simp [hz]))) trodAll_mk0))) (fun _ _ => rfl) (by simp) hb
    (ok_one (by kernel_rfl) rfl (okWide_bool_mk Tryz.underlying4 _))⟩

theorem sets_holds : Rows.SetproofSetsSaid :=
  OpenClaim.holds_of_wide 6 Tryz.f6 rfl rfl rfl rfl rfl rfl rfl ⟨rfl, rfl, rfl, rfl, rfl⟩ rfl rfl rfl rfl rfl (by kernel_rfl) Tryz.func6 (by kernel_rfl)
    (of_decide_eq_true (by kernel_rfl)) (by unfold Func.isWrapper; first | (rw [if_pos (by decide +kernel)]; kernel_rfl) | (rw [if_neg (by decide +kernel)]; exact ⟨rfl, rfl⟩))
    (fun os started H enc _ => sets_lifted os started H enc)

#print axioms sets_holds
end Go.Proofs.YtecobjddpinonaaGreat
end
