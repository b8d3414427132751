import Derived.Test.YtecobjddpinonaaGreatSet4
import Derived.Deep.RegionHeld3
set_option linter.unusedVariables false
set_option linter.unusedSimpArgs false
set_option maxRecDepth 100000
namespace Go.Proofs.YtecobjddpinonaaGreat
open Go.RowKit

theorem strs1 {w : World} {b : Nat} {T : TypeId} {c : ByteArray} (h : Blk w b T [.string c]) : StrsAt w (some ⟨b, 0, none⟩) [c] := by
  refine .inr ⟨b, rfl, h.lt, fun j hj => ?_⟩
  obtain rfl : j = 0 := by simp at hj; exact hj
  exact h.cell 0

theorem strs2 {w : World} {b : Nat} {T : TypeId} {c d : ByteArray} (h : Blk w b T [.string c, .string d]) : StrsAt w (some ⟨b, 0, none⟩) [c, d] := by
  refine .inr ⟨b, rfl, h.lt, fun j hj => ?_⟩
  rcases (show j = 0 ∨ j = 1 by simp at hj; omega) with rfl | rfl
  · exact h.cell 0
  · exact h.cell 1

theorem keep4 {w : World} {b : Nat} {T : TypeId} {x y z u : Value} (h : Blk w b T [x, y, z, u]) : w.cell? ⟨b, 0, none⟩ = some x ∧ w.cell? ⟨b, 1, none⟩ = some y ∧ w.cell? ⟨b, 2, none⟩ = some z ∧ w.cell? ⟨b, 3, none⟩ = some u := ⟨h.cell 0, h.cell 1, h.cell 2, h.cell 3⟩

theorem Blk.nextSet {w : World} {g i : Nat} {T : TypeId} {cs : List Value} {v : Value} (h : Blk w g T cs) : Blk (w.setCell ⟨g + 1, i, none⟩ v) g T cs := h.other _ _ (by simp)

set_option maxHeartbeats 800000 in
theorem equal_err (ka kb kc kd c : ByteArray) (v : Int) (k : Nat) (w : World) (hk : k ≠ 0)
    (hR : ∀ (w' : World) (b : Nat), Blk w' b 22 [.string c] → Calls Tryz.prog 33 #[.agg #[.string ka, .string kb, .string kc, .string kd], .slice (some ⟨b, 0, none⟩) 1 1] w' fun e w'' => e = .returned (.int .i64 k) ∧ Below w'.heap.size w' w'') :
    Calls Tryz.prog 9 #[.agg #[.string ka, .string kb, .string kc, .string kd], .string c, .int .i64 v] w fun e w' => e = .returned (.tuple #[.agg #[.slice none 0 0, .slice none 0 0, .slice none 0 0], .int .i64 k]) ∧ Below w.heap.size w w' := by
  have HR := Lib.hid hR
  have hr := blk3b w #[Value.string ka, Value.string kb, Value.string kc, Value.string kd] #[Value.slice none 0 0, Value.slice none 0 0, Value.slice none 0 0] #[Value.string c] 26 33 22
  have hs := blk3c w #[Value.string ka, Value.string kb, Value.string kc, Value.string kd] #[Value.slice none 0 0, Value.slice none 0 0, Value.slice none 0 0] #[Value.string c] 26 33 22
  have e1 : ((k : Int) == 0) = false := by rw [beq_eq_false_iff_ne]; omega
  have e2 : ((k : Int) != 0) = true := by rw [bne_iff_ne]; omega
  clear hR
  go_enter Tryz.func9, Tryz.ntmps9
  go_wp2_with fail
  refine (HR.out _ _ hs).mono ?_
  rintro e w1 ⟨rfl, hb1⟩
  replace hr := hr.after hb1
  have hrc0 := hr.cell 0
  have hrf0 := hr.free 0
  have hrc1 := hr.cell 1
  have hrf1 := hr.free 1
  have hrc2 := hr.cell 2
  have hrf2 := hr.free 2
  go_wp2
  refine bodyPost_ret (v := .tuple #[.agg #[.slice none 0 0, .slice none 0 0, .slice none 0 0], .int .i64 k]) ?_ rfl ⟨rfl, ?_⟩
  · simp [results, Tryz.results9, go_sem, hrc0, hrc1, hrc2]
  · exact (((bt (b3 _ _ _ _) hb1).setCell (by simp) _).setCell (by simp) _).setCell (by simp) _

set_option maxHeartbeats 800000 in
theorem nots_err (ka kb kc kd c : ByteArray) (v : Int) (k : Nat) (w : World) (hk : k ≠ 0)
    (hR : ∀ (w' : World) (b : Nat), Blk w' b 22 [.string c] → Calls Tryz.prog 33 #[.agg #[.string ka, .string kb, .string kc, .string kd], .slice (some ⟨b, 0, none⟩) 1 1] w' fun e w'' => e = .returned (.int .i64 k) ∧ Below w'.heap.size w' w'') :
    Calls Tryz.prog 11 #[.agg #[.string ka, .string kb, .string kc, .string kd], .string c, .int .i64 v] w fun e w' => e = .returned (.tuple #[.agg #[.slice none 0 0, .slice none 0 0, .slice none 0 0], .int .i64 k]) ∧ Below w.heap.size w w' := by
  have HR := Lib.hid hR
  have hr := blk3b w #[Value.string ka, Value.string kb, Value.string kc, Value.string kd] #[Value.slice none 0 0, Value.slice none 0 0, Value.slice none 0 0] #[Value.string c] 26 33 22
  have hs := blk3c w #[Value.string ka, Value.string kb, Value.string kc, Value.string kd] #[Value.slice none 0 0, Value.slice none 0 0, Value.slice none 0 0] #[Value.string c] 26 33 22
  have e1 : ((k : Int) == 0) = false := by rw [beq_eq_false_iff_ne]; omega
  have e2 : ((k : Int) != 0) = true := by rw [bne_iff_ne]; omega
  clear hR
  go_enter Tryz.func11, Tryz.ntmps11
  go_wp2_with fail
  refine (HR.out _ _ hs).mono ?_
  rintro e w1 ⟨rfl, hb1⟩
  replace hr := hr.after hb1
  have hrc0 := hr.cell 0
  have hrf0 := hr.free 0
  have hrc1 := hr.cell 1
  have hrf1 := hr.free 1
  have hrc2 := hr.cell 2
  have hrf2 := hr.free 2
  go_wp2
  refine bodyPost_ret (v := .tuple #[.agg #[.slice none 0 0, .slice none 0 0, .slice none 0 0], .int .i64 k]) ?_ rfl ⟨rfl, ?_⟩
  · simp [results, Tryz.results11, go_sem, hrc0, hrc1, hrc2]
  · exact (((bt (b3 _ _ _ _) hb1).setCell (by simp) _).setCell (by simp) _).setCell (by simp) _

set_option maxHeartbeats 4000000 in
theorem equal_ok (p q g h c : Nat) (v : Int) (w : World) (hp : p < 256 ^ 8) (hq : q < 256 ^ 128) (hgb : g < 256 ^ 128) (hhb : h < 256 ^ 128) (hcb : c < 256 ^ 128) (h1 : -9223372036854775808 ≤ v) (h2 : v ≤ 9223372036854775807)
    (he : readyN p q g h [c] = 0) (hpe : pedE p q g h = 0) (hc : hasB p q c = true) (hg : hasB p q g = true) :
    Calls Tryz.prog 9 #[.agg #[.string (E p), .string (E q), .string (E g), .string (E h)], .string (E c), .int .i64 v] w (ResPost w p q (shiftN p c g (-v)) [h]) := by
  have HR := Lib.hid (fun (w' : World) (b : Nat) (hs : Blk w' b 22 [.string (E c)]) => ready_num p q g h [c] (some ⟨b, 0, none⟩) 1 w' rfl (by omega) (by simpa using hcb) (strs1 hs) hp hq hgb hhb)
  rw [he] at HR
  have HSH := Lib.hid (fun w => shifted_c p q g h c v w hp hq hgb hhb hcb h1 h2 hpe hc hg)
  generalize shiftN p c g (-v) = x at HSH
  have HST := Lib.hid (fun (w' : World) (b : Nat) (hs : Blk w' b 22 [.string (E h)]) => statement_c p q g h x 1 [h] (some ⟨b, 0, none⟩) w' rfl (by omega) (by omega) (strs1 hs))
  have hB := blk3a w #[Value.string (E p), Value.string (E q), Value.string (E g), Value.string (E h)] #[Value.slice none 0 0, Value.slice none 0 0, Value.slice none 0 0] #[Value.string (E c)] 26 33 22
  have hr := blk3b w #[Value.string (E p), Value.string (E q), Value.string (E g), Value.string (E h)] #[Value.slice none 0 0, Value.slice none 0 0, Value.slice none 0 0] #[Value.string (E c)] 26 33 22
  have hs := blk3c w #[Value.string (E p), Value.string (E q), Value.string (E g), Value.string (E h)] #[Value.slice none 0 0, Value.slice none 0 0, Value.slice none 0 0] #[Value.string (E c)] 26 33 22
  have hBW := b3 w (.cells #[Value.string (E p), Value.string (E q), Value.string (E g), Value.string (E h)] 26) (.cells #[Value.slice none 0 0, Value.slice none 0 0, Value.slice none 0 0] 33) (.cells #[Value.string (E c)] 22)
  clear hp hq hgb hhb hcb he hpe hc hg
  go_enter Tryz.func9, Tryz.ntmps9
  go_wp2_with fail
  refine (HR.out _ _ hs).mono ?_
  rintro e w1 ⟨rfl, hb1⟩
  replace hB : Blk w1 w.heap.size 26 [Value.string (E p), Value.string (E q), Value.string (E g), Value.string (E h)] := hB.after hb1
  replace hr : Blk w1 (w.heap.size + 1) 33 [.slice none 0 0, .slice none 0 0, .slice none 0 0] := hr.after hb1
  replace hBW := bt hBW hb1
  clear hb1 hs HR
  have y1 : w.heap.size < w1.heap.size := hB.lt
  have y2 : w.heap.size + 1 < w1.heap.size := hr.lt
  have hBc0 := hB.cell 0
  have hBf0 := hB.free 0
  have hBc1 := hB.cell 1
  have hBf1 := hB.free 1
  have hBc2 := hB.cell 2
  have hBf2 := hB.free 2
  have hBc3 := hB.cell 3
  have hBf3 := hB.free 3
  go_wp2_with fail
  go_region_held3 (fun w' => w'.cell? ⟨w.heap.size, 0, none⟩ = some (.string (E p)) ∧ w'.cell? ⟨w.heap.size, 1, none⟩ = some (.string (E q)) ∧ w'.cell? ⟨w.heap.size, 2, none⟩ = some (.string (E g)) ∧ w'.cell? ⟨w.heap.size, 3, none⟩ = some (.string (E h))) ((refine keep4 (T := 26) ?_; repeat (first | (with_reducible exact hBd) | (with_reducible exact hBf) | (with_reducible exact hB) | (with_reducible refine Blk.drew ?_) | (with_reducible refine Blk.alloc ?_ _) | (with_reducible refine Blk.nextSet ?_))))
    (first | (go_at_call 35; refine (HSH.out _).mono ?_; rintro e wf ⟨rfl, hbf⟩; have hBf : Blk wf w.heap.size 26 [Value.string (E p), Value.string (E q), Value.string (E g), Value.string (E h)] := (by first | (with_reducible exact hB.drew.after hbf) | (with_reducible exact (hB.alloc _).drew.after hbf)); have hrf : Blk wf (w.heap.size + 1) 33 [.slice none 0 0, .slice none 0 0, .slice none 0 0] := (by first | (with_reducible exact hr.drew.after hbf) | (with_reducible exact (hr.alloc _).drew.after hbf)); have hBWf : Below w.heap.size w wf := (by first | (with_reducible exact bt hBW.drew hbf) | (with_reducible exact bt (ba hBW _).drew hbf)); have y3 : w.heap.size < wf.heap.size := hBf.lt; have y4 : w.heap.size + 1 < wf.heap.size := hrf.lt) | (go_at_call 34; refine (HST.out _ _ (by first | (with_reducible exact ((Blk.new w1 _ _).drew.after hbf)) | (with_reducible exact Blk.new _ _ _))).mono ?_; rintro e wd ⟨g1, g2, g3, g4, c1, c2, c3, c4, rfl, hstm, ⟨k1, k2, k3, k4⟩, hbd⟩; have hBd : Blk wd w.heap.size 26 [Value.string (E p), Value.string (E q), Value.string (E g), Value.string (E h)] := (by first | (with_reducible exact hBf.after hbd) | (with_reducible exact (hBf.alloc _).after hbd)); have hrd : Blk wd (w.heap.size + 1) 33 [.slice none 0 0, .slice none 0 0, .slice none 0 0] := (by first | (with_reducible exact hrf.after hbd) | (with_reducible exact (hrf.alloc _).after hbd)); have hBWd : Below w.heap.size w wd := (by first | (with_reducible exact bt hBWf hbd) | (with_reducible exact bt (ba hBWf _) hbd)); have r0 := hrd.cell 0; have r1 := hrd.cell 1; have r2 := hrd.cell 2; have q0 := hrd.free 0; have q1 := hrd.free 1; have q2 := hrd.free 2))
  all_goals go_wp2
  all_goals
    have z1 : w.heap.size + 1 < g1 := (by first | omega | (simp only [World.size_alloc] at k1; omega))
    have z2 : w.heap.size + 1 < g2 := (by first | omega | (simp only [World.size_alloc] at k2; omega))
    have z3 : w.heap.size + 1 < g3 := (by first | omega | (simp only [World.size_alloc] at k3; omega))
    have z4 : w.heap.size + 1 < g4 := (by first | omega | (simp only [World.size_alloc] at k4; omega))
    refine bodyPost_ret (v := .tuple #[.agg #[.slice (some ⟨g1, 0, none⟩) 1 c1, .slice (some ⟨g2, 0, none⟩) 1 c2, .slice (some ⟨g3, 0, none⟩) 1 c3], .int .i64 0]) ?_ rfl ⟨g1, g2, g3, g4, c1, c2, c3, c4, rfl, ?_, ?_⟩
    · simp [results, Tryz.results9, go_sem, r0, r1, r2]
    · exact ((hstm.set (by omega) (by omega) (by omega) (by omega)).set (by omega) (by omega) (by omega) (by omega)).set (by omega) (by omega) (by omega) (by omega)
    · exact ((hBWd.setCell (by simp) _).setCell (by simp) _).setCell (by simp) _

set_option maxHeartbeats 4000000 in
theorem nots_ok (p q g h c : Nat) (v : Int) (w : World) (hp : p < 256 ^ 8) (hq : q < 256 ^ 128) (hgb : g < 256 ^ 128) (hhb : h < 256 ^ 128) (hcb : c < 256 ^ 128) (h1 : -9223372036854775808 ≤ v) (h2 : v ≤ 9223372036854775807)
    (he : readyN p q g h [c] = 0) (hpe : pedE p q g h = 0) (hc : hasB p q c = true) (hg : hasB p q g = true) :
    Calls Tryz.prog 11 #[.agg #[.string (E p), .string (E q), .string (E g), .string (E h)], .string (E c), .int .i64 v] w (ResPost w p q g [shiftN p c g (-v), h]) := by
  have HR := Lib.hid (fun (w' : World) (b : Nat) (hs : Blk w' b 22 [.string (E c)]) => ready_num p q g h [c] (some ⟨b, 0, none⟩) 1 w' rfl (by omega) (by simpa using hcb) (strs1 hs) hp hq hgb hhb)
  rw [he] at HR
  have HSH := Lib.hid (fun w => shifted_c p q g h c v w hp hq hgb hhb hcb h1 h2 hpe hc hg)
  generalize shiftN p c g (-v) = x at HSH
  have HST := Lib.hid (fun (w' : World) (b : Nat) (hs : Blk w' b 22 [.string (E x), .string (E h)]) => statement_c p q g h g 2 [x, h] (some ⟨b, 0, none⟩) w' rfl (by omega) (by omega) (strs2 hs))
  have hB := blk3a w #[Value.string (E p), Value.string (E q), Value.string (E g), Value.string (E h)] #[Value.slice none 0 0, Value.slice none 0 0, Value.slice none 0 0] #[Value.string (E c)] 26 33 22
  have hr := blk3b w #[Value.string (E p), Value.string (E q), Value.string (E g), Value.string (E h)] #[Value.slice none 0 0, Value.slice none 0 0, Value.slice none 0 0] #[Value.string (E c)] 26 33 22
  have hs := blk3c w #[Value.string (E p), Value.string (E q), Value.string (E g), Value.string (E h)] #[Value.slice none 0 0, Value.slice none 0 0, Value.slice none 0 0] #[Value.string (E c)] 26 33 22
  have hBW := b3 w (.cells #[Value.string (E p), Value.string (E q), Value.string (E g), Value.string (E h)] 26) (.cells #[Value.slice none 0 0, Value.slice none 0 0, Value.slice none 0 0] 33) (.cells #[Value.string (E c)] 22)
  clear hp hq hgb hhb hcb he hpe hc hg
  go_enter Tryz.func11, Tryz.ntmps11
  go_wp2_with fail
  refine (HR.out _ _ hs).mono ?_
  rintro e w1 ⟨rfl, hb1⟩
  replace hB : Blk w1 w.heap.size 26 [Value.string (E p), Value.string (E q), Value.string (E g), Value.string (E h)] := hB.after hb1
  replace hr : Blk w1 (w.heap.size + 1) 33 [.slice none 0 0, .slice none 0 0, .slice none 0 0] := hr.after hb1
  replace hBW := bt hBW hb1
  clear hb1 hs HR
  have y1 : w.heap.size < w1.heap.size := hB.lt
  have y2 : w.heap.size + 1 < w1.heap.size := hr.lt
  have hBc0 := hB.cell 0
  have hBf0 := hB.free 0
  have hBc1 := hB.cell 1
  have hBf1 := hB.free 1
  have hBc2 := hB.cell 2
  have hBf2 := hB.free 2
  have hBc3 := hB.cell 3
  have hBf3 := hB.free 3
  go_wp2_with fail
  go_region_held3 (fun w' => w'.cell? ⟨w.heap.size, 0, none⟩ = some (.string (E p)) ∧ w'.cell? ⟨w.heap.size, 1, none⟩ = some (.string (E q)) ∧ w'.cell? ⟨w.heap.size, 2, none⟩ = some (.string (E g)) ∧ w'.cell? ⟨w.heap.size, 3, none⟩ = some (.string (E h))) ((refine keep4 (T := 26) ?_; repeat (first | (with_reducible exact hBd) | (with_reducible exact hBf) | (with_reducible exact hB) | (with_reducible refine Blk.drew ?_) | (with_reducible refine Blk.alloc ?_ _) | (with_reducible refine Blk.nextSet ?_))))
    (first | (go_at_call 35; refine (HSH.out _).mono ?_; rintro e wf ⟨rfl, hbf⟩; have hBf : Blk wf w.heap.size 26 [Value.string (E p), Value.string (E q), Value.string (E g), Value.string (E h)] := (by first | (with_reducible exact hB.drew.after hbf) | (with_reducible exact (hB.alloc _).drew.after hbf)); have hrf : Blk wf (w.heap.size + 1) 33 [.slice none 0 0, .slice none 0 0, .slice none 0 0] := (by first | (with_reducible exact hr.drew.after hbf) | (with_reducible exact (hr.alloc _).drew.after hbf)); have hBWf : Below w.heap.size w wf := (by first | (with_reducible exact bt hBW.drew hbf) | (with_reducible exact bt (ba hBW _).drew hbf)); have y3 : w.heap.size < wf.heap.size := hBf.lt; have y4 : w.heap.size + 1 < wf.heap.size := hrf.lt) | (go_at_call 34; refine (HST.out _ _ (by first | (with_reducible exact ((Blk.new w1 _ _).drew.after hbf)) | (with_reducible exact Blk.new _ _ _))).mono ?_; rintro e wd ⟨g1, g2, g3, g4, c1, c2, c3, c4, rfl, hstm, ⟨k1, k2, k3, k4⟩, hbd⟩; have hBd : Blk wd w.heap.size 26 [Value.string (E p), Value.string (E q), Value.string (E g), Value.string (E h)] := (by first | (with_reducible exact hBf.after hbd) | (with_reducible exact (hBf.alloc _).after hbd)); have hrd : Blk wd (w.heap.size + 1) 33 [.slice none 0 0, .slice none 0 0, .slice none 0 0] := (by first | (with_reducible exact hrf.after hbd) | (with_reducible exact (hrf.alloc _).after hbd)); have hBWd : Below w.heap.size w wd := (by first | (with_reducible exact bt hBWf hbd) | (with_reducible exact bt (ba hBWf _) hbd)); have r0 := hrd.cell 0; have r1 := hrd.cell 1; have r2 := hrd.cell 2; have q0 := hrd.free 0; have q1 := hrd.free 1; have q2 := hrd.free 2))
  all_goals go_wp2
  all_goals
    have z1 : w.heap.size + 1 < g1 := (by first | omega | (simp only [World.size_alloc] at k1; omega))
    have z2 : w.heap.size + 1 < g2 := (by first | omega | (simp only [World.size_alloc] at k2; omega))
    have z3 : w.heap.size + 1 < g3 := (by first | omega | (simp only [World.size_alloc] at k3; omega))
    have z4 : w.heap.size + 1 < g4 := (by first | omega | (simp only [World.size_alloc] at k4; omega))
    refine bodyPost_ret (v := .tuple #[.agg #[.slice (some ⟨g1, 0, none⟩) 1 c1, .slice (some ⟨g2, 0, none⟩) 2 c2, .slice (some ⟨g3, 0, none⟩) 1 c3], .int .i64 0]) ?_ rfl ⟨g1, g2, g3, g4, c1, c2, c3, c4, rfl, ?_, ?_⟩
    · simp [results, Tryz.results11, go_sem, r0, r1, r2]
    · exact ((hstm.set (by omega) (by omega) (by omega) (by omega)).set (by omega) (by omega) (by omega) (by omega)).set (by omega) (by omega) (by omega) (by omega)
    · exact ((hBWd.setCell (by simp) _).setCell (by simp) _).setCell (by simp) _

end Go.Proofs.YtecobjddpinonaaGreat
