import Derived.Test.YtecobjddpinonaaGreatStep
import Derived.Deep.DrawnRows
import Derived.Deep.RegionHeld3
set_option linter.unusedVariables false
set_option linter.unusedSimpArgs false
set_option maxRecDepth 100000
namespace Go.Proofs.YtecobjddpinonaaGreat
open Go.RowKit
attribute [local go_sem ↓] Go.wp_at_zero Go.wp_at_succ

set_option maxHeartbeats 8000000 in
theorem rnot_c (p q g h x : Nat) (w : World) :
    Calls Tryz.prog 39 #[.agg #[.string (E p), .string (E q), .string (E g), .string (E h)], .string (E x)] w (StmPost w p q g [x, h]) := by
  have hB := blk2a w #[Value.string (E p), Value.string (E q), Value.string (E g), Value.string (E h)] #[Value.slice none 0 0, Value.slice none 0 0, Value.slice none 0 0] 26 33
  have hR := blk2b w #[Value.string (E p), Value.string (E q), Value.string (E g), Value.string (E h)] #[Value.slice none 0 0, Value.slice none 0 0, Value.slice none 0 0] 26 33
  have hBW := b2 w (.cells #[Value.string (E p), Value.string (E q), Value.string (E g), Value.string (E h)] 26) (.cells #[Value.slice none 0 0, Value.slice none 0 0, Value.slice none 0 0] 33)
  go_enter Tryz.func39, Tryz.ntmps39
  go_wp2_with fail
  generalize ((w.alloc (.cells #[Value.string (E p), Value.string (E q), Value.string (E g), Value.string (E h)] 26)).alloc (.cells #[Value.slice none 0 0, Value.slice none 0 0, Value.slice none 0 0] 33)) = w1 at hB hR hBW
  replace hB : Blk w1 w.heap.size 26 [Value.string (E p), Value.string (E q), Value.string (E g), Value.string (E h)] := hB
  replace hR : Blk w1 (w.heap.size + 1) 33 [Value.slice none 0 0, Value.slice none 0 0, Value.slice none 0 0] := hR
  have y1 : w.heap.size < w1.heap.size := hB.lt
  have y2 : w.heap.size + 1 < w1.heap.size := hR.lt
  have hBc0 := hB.cell 0
  have hBf0 := hB.free 0
  have hBc1 := hB.cell 1
  have hBf1 := hB.free 1
  have hBc2 := hB.cell 2
  have hBf2 := hB.free 2
  have hBc3 := hB.cell 3
  have hBf3 := hB.free 3
  go_region_held3 (fun w' => w'.cell? ⟨w.heap.size, 0, none⟩ = some (.string (E p)) ∧ w'.cell? ⟨w.heap.size, 1, none⟩ = some (.string (E q)) ∧ w'.cell? ⟨w.heap.size, 2, none⟩ = some (.string (E g)) ∧ w'.cell? ⟨w.heap.size, 3, none⟩ = some (.string (E h))) ((refine keep4' (T := 26)  ?_; repeat (first | (with_reducible exact hBwf2) | (with_reducible exact hBwf) | (with_reducible exact hB) | (with_reducible refine Blk.drew ?_) | (with_reducible refine Blk.alloc ?_ _) | (with_reducible refine Blk.nextSet' ?_))))
    (first | (go_at_call_of 68 (Value.string (E x)); refine (rterm_c x 0 _).mono ?_; rintro e wf ⟨rfl, hbwf⟩; have hBwf : Blk wf w.heap.size 26 [Value.string (E p), Value.string (E q), Value.string (E g), Value.string (E h)] := (by first | (with_reducible exact hB.drew.after hbwf) | (with_reducible exact (hB.alloc _).drew.after hbwf) | (with_reducible exact ((hB.alloc _).alloc _).drew.after hbwf)); have hRwf : Blk wf (w.heap.size + 1) 33 [Value.slice none 0 0, Value.slice none 0 0, Value.slice none 0 0] := (by first | (with_reducible exact hR.drew.after hbwf) | (with_reducible exact (hR.alloc _).drew.after hbwf) | (with_reducible exact ((hR.alloc _).alloc _).drew.after hbwf)); have hBWwf : Below w.heap.size w wf := (by first | (with_reducible exact bt hBW.drew hbwf) | (with_reducible exact bt (ba hBW _).drew hbwf) | (with_reducible exact bt (ba (ba hBW _) _).drew hbwf)); have r0wf := hRwf.cell 0; have r1wf := hRwf.cell 1; have r2wf := hRwf.cell 2; have q0wf := hRwf.free 0; have q1wf := hRwf.free 1; have q2wf := hRwf.free 2; have y3wf : w.heap.size < wf.heap.size := hBwf.lt; have y4wf : w.heap.size + 1 < wf.heap.size := hRwf.lt; have zzwf1 : w.heap.size ≤ wf.heap.size := (by omega); have zzwf2 : w.heap.size ≤ wf.heap.size + 1 := (by omega); have zzwf3 : w.heap.size ≤ wf.heap.size + 1 + 1 := (by omega); have zzwf4 : w.heap.size ≤ wf.heap.size + 2 := (by omega); have zzwf5 : w.heap.size < wf.heap.size + 2 := (by omega); have zzwf6 : w.heap.size < wf.heap.size + 3 := (by omega); have zzwf7 : w.heap.size < wf.heap.size + 1 + 1 := (by omega); have zzwf8 : w.heap.size < wf.heap.size + 1 + 1 + 1 := (by omega); have zzwf9 : w.heap.size + 1 < wf.heap.size + 2 := (by omega); have zzwf10 : w.heap.size + 1 < wf.heap.size + 3 := (by omega); have zzwf11 : w.heap.size + 1 < wf.heap.size + 1 + 1 := (by omega); have zzwf12 : w.heap.size + 1 < wf.heap.size + 1 + 1 + 1 := (by omega); have zzwf13 : w.heap.size + 1 < wf.heap.size + 1 := (by omega)) | (go_at_call_of 68 (Value.string (E h)); refine (rterm_c h 1 _).mono ?_; rintro e wf2 ⟨rfl, hbwf2⟩; have hBwf2 : Blk wf2 w.heap.size 26 [Value.string (E p), Value.string (E q), Value.string (E g), Value.string (E h)] := (by first | (with_reducible exact hBwf.after hbwf2) | (with_reducible exact (hBwf.alloc _).after hbwf2) | (with_reducible exact ((hBwf.alloc _).alloc _).after hbwf2)); have hRwf2 : Blk wf2 (w.heap.size + 1) 33 [Value.slice none 0 0, Value.slice none 0 0, Value.slice none 0 0] := (by first | (with_reducible exact hRwf.after hbwf2) | (with_reducible exact (hRwf.alloc _).after hbwf2) | (with_reducible exact ((hRwf.alloc _).alloc _).after hbwf2)); have hBWwf2 : Below w.heap.size w wf2 := (by first | (with_reducible exact bt hBWwf hbwf2) | (with_reducible exact bt (ba hBWwf _) hbwf2) | (with_reducible exact bt (ba (ba hBWwf _) _) hbwf2)); have r0wf2 := hRwf2.cell 0; have r1wf2 := hRwf2.cell 1; have r2wf2 := hRwf2.cell 2; have q0wf2 := hRwf2.free 0; have q1wf2 := hRwf2.free 1; have q2wf2 := hRwf2.free 2; have y3wf2 : w.heap.size < wf2.heap.size := hBwf2.lt; have y4wf2 : w.heap.size + 1 < wf2.heap.size := hRwf2.lt; have zzwf21 : w.heap.size ≤ wf2.heap.size := (by omega); have zzwf22 : w.heap.size ≤ wf2.heap.size + 1 := (by omega); have zzwf23 : w.heap.size ≤ wf2.heap.size + 1 + 1 := (by omega); have zzwf24 : w.heap.size ≤ wf2.heap.size + 2 := (by omega); have zzwf25 : w.heap.size < wf2.heap.size + 2 := (by omega); have zzwf26 : w.heap.size < wf2.heap.size + 3 := (by omega); have zzwf27 : w.heap.size < wf2.heap.size + 1 + 1 := (by omega); have zzwf28 : w.heap.size < wf2.heap.size + 1 + 1 + 1 := (by omega); have zzwf29 : w.heap.size + 1 < wf2.heap.size + 2 := (by omega); have zzwf210 : w.heap.size + 1 < wf2.heap.size + 3 := (by omega); have zzwf211 : w.heap.size + 1 < wf2.heap.size + 1 + 1 := (by omega); have zzwf212 : w.heap.size + 1 < wf2.heap.size + 1 + 1 + 1 := (by omega); have zzwf213 : w.heap.size + 1 < wf2.heap.size + 1 := (by omega)))
  all_goals go_wp2
  all_goals
    refine stm_fin (f := Tryz.f39) (r := w.heap.size + 1) (n := 2) (g1 := ?_) (g2 := ?_) (g3 := ?_) (g4 := ?_) (p := p) (q := q) (t := g) (B := [x, h]) rfl ?_ ?_ ?_ ?_ rfl ?_
    rotate_left 4
    · repeat (first | (with_reducible exact Blk.set3 hRwf2) | (with_reducible refine Blk.drew ?_) | (with_reducible refine Blk.alloc ?_ _))
    · refine Stm.two ?_ ?_ ?_ ?_ (Nat.le_refl _)
      rotate_left 2
      · repeat (first | ((with_reducible refine Blk.newL ?_ ?_); (focus (first | (simp [World.size_alloc, World.size_setCell]; done) | rfl)); (focus rfl)) | (with_reducible refine Blk.drew ?_) | (with_reducible refine Blk.alloc ?_ _) | (with_reducible refine Blk.after ?_ hbwf2) | (with_reducible refine Blk.after ?_ hbwf) | (with_reducible refine Blk.farSet ?_ ?_; rotate_left; omega))
      · repeat (first | ((with_reducible refine Blk.newL ?_ ?_); (focus (first | (simp [World.size_alloc, World.size_setCell]; done) | rfl)); (focus rfl)) | (with_reducible refine Blk.drew ?_) | (with_reducible refine Blk.alloc ?_ _) | (with_reducible refine Blk.after ?_ hbwf2) | (with_reducible refine Blk.after ?_ hbwf) | (with_reducible refine Blk.farSet ?_ ?_; rotate_left; omega))
      · repeat (first | ((with_reducible refine Blk.newL ?_ ?_); (focus (first | (simp [World.size_alloc, World.size_setCell]; done) | rfl)); (focus rfl)) | (with_reducible refine Blk.drew ?_) | (with_reducible refine Blk.alloc ?_ _) | (with_reducible refine Blk.after ?_ hbwf2) | (with_reducible refine Blk.after ?_ hbwf) | (with_reducible refine Blk.farSet ?_ ?_; rotate_left; omega))
      · repeat (first | ((with_reducible refine Blk.newL ?_ ?_); (focus (first | (simp [World.size_alloc, World.size_setCell]; done) | rfl)); (focus rfl)) | (with_reducible refine Blk.drew ?_) | (with_reducible refine Blk.alloc ?_ _) | (with_reducible refine Blk.after ?_ hbwf2) | (with_reducible refine Blk.after ?_ hbwf) | (with_reducible refine Blk.farSet ?_ ?_; rotate_left; omega))
    · refine ⟨?_, ?_, ?_, ?_⟩ <;> first | omega | (simp; omega)
    · repeat (first | (with_reducible exact hBWwf2) | (with_reducible refine Below.drew ?_) | (with_reducible refine ba ?_ _) | (refine Below.setCell ?_ (by simp) _))
    · intro c0 c1 c2
      simp [results, Tryz.results39, go_sem, c0, c1, c2]

end Go.Proofs.YtecobjddpinonaaGreat
