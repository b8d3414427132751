import Derived.Test.YtecobjddpinonaaGreatBase
import Derived.Below
import Derived.ChangeSame
import Derived.ChangeMaps5
import Derived.JoinedOf
import Derived.JoinedAt
import Derived.RowKit3
import Derived.Deep.Strs
import Derived.Lib.SmallJoins
import Derived.OpenShut
import Derived.ProofKit
import Derived.Test.YtecobjddpinonaaGreatRSet4
import Derived.Test.YtecobjddpinonaaGreatLaw3
section
/- A row's last step, and keys as arguments. -/
set_option linter.unusedVariables false
set_option linter.unusedSimpArgs false
set_option maxRecDepth 100000
namespace Go.Proofs.YtecobjddpinonaaGreat
open Go.RowKit Go.WideShapes Go.ChangeShapes Go.ChangeAt Go.Joins Go.Deep
open Go.ChangeMaps (open_string shut_string)

section
variable {H : Type} {enc : TypeId × Value → H} {P : Program}
theorem post_of_below {f : Func} {s : ChangeSpec} {apart fresh handsOn again : Bool} {W W' : World} {args : Array Value} {v : Value} {ds gs : List (DataW H)} {before pa pv : List MemPlace}
    (hW : DataW.Whole enc P f.params.toList s.vars apart W args.toList ds gs before)
    (hres : ∀ (b : Nat) (sp : Nat → Bool) (hd : Bool), DataW.TrodAll enc P W' b sp hd f.resultTypes.toList (v.resultList f.resultTypes.size) (s.fn H (ds ++ gs)).results [])
    (hargs : ∀ sp : Nat → Bool, (∀ p ∈ before, sp p.block = true) → DataW.TrodAll enc P W' 0 sp true f.params.toList args.toList (s.fn H (ds ++ gs)).args pa)
    (hvars : ∀ sp : Nat → Bool, (∀ p ∈ before, sp p.block = true) → DataW.TrodVars enc P W' sp s.vars (s.fn H (ds ++ gs)).vars pv)
    (hps : before = pa ++ pv) (hb : Below W.heap.size W W')
    (hok : ∀ (j : Nat) (t : TypeId) (r : Value), f.resultTypes[j]? = some t → (v.resultList f.resultTypes.size)[j]? = some r → Value.okWide P W' .any 0 t r) :
    s.post enc P f apart fresh handsOn again W args v W' := by
  have hlt : ∀ p ∈ before, p.block < W.heap.size := fun p hp => hW.lt p hp
  have hold : ∀ p ∈ before, (fun b => decide (b < W.heap.size)) p.block = true := fun p hp => by simpa using hlt p hp
  refine ⟨ds, gs, before, [], pa, pv, hW, hres _ _ _, hargs _ hold, hvars _ hold, World.keptBut_mono (fun p hp => ⟨hp, ?_⟩) (hb.frame (· ∈ before)), fun _ => ?_⟩
  · rw [hps, List.mem_append] at hp
    exact Or.inr hp
  · obtain ⟨_, _, _, _, _, hz, hn⟩ := hW
    refine ⟨hok, _, _, ([] ++ pa) ++ pv, ⟨[] ++ pa, pv, trodAll_append (hargs _ (fun _ _ => rfl)) (hres _ _ _), hvars _ (fun _ _ => rfl), rfl, ?_, ?_⟩, ?_⟩
    · intro b off hp
      have hin : MemPlace.cell b off ∈ before := by rw [hps]; simpa using hp
      rw [hb.frozen (hlt _ hin)]
      exact hz b off hin
    · intro ha
      have := hn ha
      rw [hps] at this
      simpa using this
    · intro p hp _
      rw [hps]
      simpa using hp
end

section
variable {H : Type} {enc : TypeId × Value → H} {w : World} {base : Nat} {spare : Nat → Bool} {held : Bool}

theorem size_ped : Tryz.prog.cellsOf 26 = 4 := by kernel_rfl
theorem size_grp : Tryz.prog.cellsOf 24 = 2 := by kernel_rfl
theorem size_nat : Tryz.prog.cellsOf 22 = 1 := by kernel_rfl

/-- a key as a datum -/
def pedD (H : Type) (a b c d : ByteArray) : DataW H := .agg [.agg [.lit (.string a.data.toList), .lit (.string b.data.toList)], .lit (.string c.data.toList), .lit (.string d.data.toList)]

theorem open_ped {r : Reach} {b0 : Nat} {v : Value} {d : DataW H} {p : List MemPlace} (hv : Value.okWide Tryz.prog w r b0 26 v) (h : DataW.Trod enc Tryz.prog w base spare held 26 v d p) :
    ∃ a b c e : ByteArray, v = .agg #[.string a, .string b, .string c, .string e] ∧ d = pedD H a b c e ∧ p = [] ∧ a.size ≤ maxLen ∧ b.size ≤ maxLen ∧ c.size ≤ maxLen ∧ e.size ≤ maxLen := by
  obtain ⟨cs, rfl, hsz⟩ := okWide_struct Tryz.underlying26 hv
  obtain ⟨c0, c1, c2, c3, rfl⟩ := array4 (hsz.trans size_ped)
  obtain ⟨fuel, hf⟩ := h
  obtain ⟨y0, y1, y2, n, hx, _, h0, h1, h2⟩ := trod_struct3 Tryz.underlying26 hf
  obtain ⟨z0, z1, m, hz, _, g0, g1⟩ := trod_struct2 Tryz.underlying24 h0
  obtain ⟨a, ha, hxa, sa⟩ := DataW.trod_string Tryz.underlying22 g0
  obtain ⟨b, hb, hxb, sb⟩ := DataW.trod_string Tryz.underlying22 g1
  obtain ⟨c, hc, hxc, sc⟩ := DataW.trod_string Tryz.underlying22 h1
  obtain ⟨e, he, hxe, se⟩ := DataW.trod_string Tryz.underlying22 h2
  simp [Value.cells, size_grp, size_nat] at ha hb hc he
  subst ha hb hc he
  subst hxa hxb hxc hxe
  subst hz
  simp only [Prod.mk.injEq] at hx
  exact ⟨a, b, c, e, rfl, by rw [hx.1]; rfl, by rw [hx.2]; rfl, sa, sb, sc, se⟩

theorem shut_ped {a b c e : ByteArray} (ha : a.size ≤ maxLen) (hb : b.size ≤ maxLen) (hc : c.size ≤ maxLen) (he : e.size ≤ maxLen) : DataW.Trod enc Tryz.prog w base spare held 26 (.agg #[.string a, .string b, .string c, .string e]) (pedD H a b c e) [] := by
  have t : ∀ s : ByteArray, s.size ≤ maxLen → ∀ n, DataW.trod enc Tryz.prog w base spare held (n + 1) 22 [.string s] = some (.lit (.string s.data.toList), []) := fun s hs n => DataW.trod_le (show 1 ≤ n + 1 by omega) (by simp [DataW.trod, Tryz.underlying22, hs])
  have g := trod_struct2_mk (enc := enc) (w := w) (base := base) (spare := spare) (held := held) (n := 1) (cs := [.string a, .string b]) (y0 := (.lit (.string a.data.toList), [])) (y1 := (.lit (.string b.data.toList), [])) Tryz.underlying24 (by simp [size_grp]) (by simpa [size_nat] using t a ha 0) (by simpa [size_nat] using t b hb 0)
  have k := trod_struct3_mk (enc := enc) (w := w) (base := base) (spare := spare) (held := held) (n := 2) (cs := [.string a, .string b, .string c, .string e]) (y0 := (.agg [.lit (.string a.data.toList), .lit (.string b.data.toList)], [])) (y1 := (.lit (.string c.data.toList), [])) (y2 := (.lit (.string e.data.toList), [])) Tryz.underlying26 (by simp [size_ped]) (by simpa [size_grp] using g) (by simpa [size_nat] using t c hc 1) (by simpa [size_nat] using t e he 1)
  exact ⟨_, by simpa [Value.cells, pedD] using k⟩

end

theorem own_knob : ownKnob Tryz.prog.godebug = none := by kernel_rfl

end Go.Proofs.YtecobjddpinonaaGreat
end

section
set_option linter.unusedVariables false
set_option linter.unusedSimpArgs false
set_option maxRecDepth 100000
namespace Go.Proofs.YtecobjddpinonaaGreat
open Go.RowKit

theorem num8 {s : ByteArray} (h8 : s.size ≤ 8) (hv : vldB s = true) : ∃ n, n < 256 ^ 8 ∧ s = E n := by
  obtain ⟨n, _, rfl⟩ := of_vldB hv
  exact ⟨n, (E_size_le n 8).1 h8, rfl⟩

/-- a key and a commitment of at most 8 bytes: an error that both report, or numbers -/
theorem ready_cases (ka kb kc kd c : ByteArray) (h1 : ka.size ≤ 8) (h2 : kb.size ≤ 8) (h3 : kc.size ≤ 8) (h4 : kd.size ≤ 8) (h5 : c.size ≤ 8) :
    (∃ k : Nat, k ≠ 0 ∧ (∀ (w' : World) (b : Nat), Blk w' b 22 [.string c] → Calls Tryz.prog 33 #[.agg #[.string ka, .string kb, .string kc, .string kd], .slice (some ⟨b, 0, none⟩) 1 1] w' fun e w'' => e = .returned (.int .i64 k) ∧ Below w'.heap.size w' w'') ∧
      (∀ (w' : World) (b : Nat), Blk w' b 22 [.string c] → Calls Tryz.prog 36 #[.agg #[.string ka, .string kb, .string kc, .string kd], .slice (some ⟨b, 0, none⟩) 1 1] w' fun e w'' => e = .returned (.int .i64 k) ∧ Below w'.heap.size w' w'')) ∨
    (∃ p q g h n : Nat, (p < 256 ^ 8 ∧ q < 256 ^ 8 ∧ g < 256 ^ 8 ∧ h < 256 ^ 8 ∧ n < 256 ^ 8) ∧ ka = E p ∧ kb = E q ∧ kc = E g ∧ kd = E h ∧ c = E n ∧ readyN p q g h [n] = 0) := by
  cases hc : vldB c
  · left
    refine ⟨3, by decide, fun w' b hb => ?_, fun w' b hb => ?_⟩
    · exact ready_bad1 ka kb kc kd [c] _ 1 w' rfl (by omega) (by simp; omega) (strs1 hb) (by simp [hc])
    · exact rready_bad1 ka kb kc kd [c] _ 1 w' rfl (by omega) (by simp; omega) (strs1 hb) (by simp [hc])
  · cases hk : vl4 ka kb kc kd
    · left
      refine ⟨3, by decide, fun w' b hb => ?_, fun w' b hb => ?_⟩
      · exact ready_bad2 ka kb kc kd [c] _ 1 w' rfl (by omega) (by simp; omega) (strs1 hb) (by simp [hc]) (by omega) (by omega) (by omega) (by omega) hk
      · exact rready_bad2 ka kb kc kd [c] _ 1 w' rfl (by omega) (by simp; omega) (strs1 hb) (by simp [hc]) (by omega) (by omega) (by omega) (by omega) hk
    · simp only [vl4, Bool.and_eq_true] at hk
      obtain ⟨n, hn, rfl⟩ := num8 h5 hc
      obtain ⟨p, hp, rfl⟩ := num8 h1 hk.1.1.1
      obtain ⟨q, hq, rfl⟩ := num8 h2 hk.1.1.2
      obtain ⟨g, hg, rfl⟩ := num8 h3 hk.1.2
      obtain ⟨h, hh, rfl⟩ := num8 h4 hk.2
      by_cases h0 : readyN p q g h [n] = 0
      · exact .inr ⟨p, q, g, h, n, ⟨hp, hq, hg, hh, hn⟩, rfl, rfl, rfl, rfl, rfl, h0⟩
      · left
        refine ⟨readyN p q g h [n], h0, fun w' b hb => ?_, fun w' b hb => ?_⟩
        · exact ready_num p q g h [n] _ 1 w' rfl (by omega) (by simpa using lt128 hn) (strs1 hb) hp (lt128 hq) (lt128 hg) (lt128 hh)
        · exact rready_num p q g h [n] _ 1 w' rfl (by omega) (by simpa using lt128 hn) (strs1 hb) hp (lt128 hq) (lt128 hg) (lt128 hh)

theorem readyN_ok {p q g h n : Nat} (h0 : readyN p q g h [n] = 0) : 0 < q ∧ pedE p q g h = 0 ∧ grpE p q = 0 ∧ hasB p q n = true ∧ hasB p q g = true := by
  unfold readyN at h0
  by_cases hp : pedE p q g h = 0
  · rw [if_pos hp] at h0
    by_cases hq : q = 0
    · rw [if_pos hq] at h0; omega
    · rw [if_neg hq] at h0
      by_cases ha : ([n].all (hasB p q)) = true
      · have hg := pedE_grp hp
        refine ⟨by omega, hp, hg, by simpa using ha, ?_⟩
        unfold pedE at hp
        rw [if_pos hg] at hp
        by_cases hx : hasB p q g = true ∧ hasB p q h = true ∧ g ≠ 1 ∧ h ≠ 1 ∧ g ≠ h
        · exact hx.1
        · rw [if_neg hx] at hp; omega
      · rw [if_neg ha] at h0; omega
  · rw [if_neg hp] at h0; omega

set_option maxHeartbeats 4000000 in
theorem values_big (ka kb kc kd c : ByteArray) (v : Int) (w : World) (hs : ∀ s ∈ [c] ++ [ka, kb, kc, kd], s.size ≤ 9223372036854775807) (hb : smallB ([c] ++ [ka, kb, kc, kd]) = false) :
    Calls Tryz.prog 3 #[.agg #[.string ka, .string kb, .string kc, .string kd], .string c, .int .i64 v] w fun e w' => e = .returned (.bool true) ∧ Below w.heap.size w w' := by
  have HS := Lib.hid (lsmall_c ka kb kc kd [c] (w.heap.size + 1) 1 ((w.alloc (.cells #[Value.string ka, Value.string kb, Value.string kc, Value.string kd] 26)).alloc (.cells #[.string c] 22)) rfl (by omega) (by omega) hs (blk2b _ _ _ _ _))
  rw [hb] at HS
  have HA := Lib.hid awake_c
  clear hs hb
  go_enter Tryz.func3, Tryz.ntmps3
  go_wp2_with fail
  refine (HS.out).mono ?_
  rintro e w1 ⟨rfl, hb1⟩
  go_wp2_with fail
  refine (HA.out _).mono ?_
  rintro e w2 ⟨rfl, hb2⟩
  go_wp2
  go_ret
  exact ⟨rfl, bt (bt (b2 _ _ _) hb1) hb2⟩

set_option maxHeartbeats 4000000 in
theorem values_err (ka kb kc kd c : ByteArray) (v : Int) (k : Nat) (w : World) (hs : ∀ s ∈ [c] ++ [ka, kb, kc, kd], s.size ≤ 9223372036854775807) (hb : smallB ([c] ++ [ka, kb, kc, kd]) = true) (hk : k ≠ 0)
    (hR : ∀ (w' : World) (b : Nat), Blk w' b 22 [.string c] → Calls Tryz.prog 33 #[.agg #[.string ka, .string kb, .string kc, .string kd], .slice (some ⟨b, 0, none⟩) 1 1] w' fun e w'' => e = .returned (.int .i64 k) ∧ Below w'.heap.size w' w'')
    (hQ : ∀ (w' : World) (b : Nat), Blk w' b 22 [.string c] → Calls Tryz.prog 36 #[.agg #[.string ka, .string kb, .string kc, .string kd], .slice (some ⟨b, 0, none⟩) 1 1] w' fun e w'' => e = .returned (.int .i64 k) ∧ Below w'.heap.size w' w'') :
    Calls Tryz.prog 3 #[.agg #[.string ka, .string kb, .string kc, .string kd], .string c, .int .i64 v] w fun e w' => e = .returned (.bool true) ∧ Below w.heap.size w w' := by
  have HS := Lib.hid (lsmall_c ka kb kc kd [c] (w.heap.size + 1) 1 ((w.alloc (.cells #[Value.string ka, Value.string kb, Value.string kc, Value.string kd] 26)).alloc (.cells #[.string c] 22)) rfl (by omega) (by omega) hs (blk2b _ _ _ _ _))
  rw [hb] at HS
  have HA := Lib.hid awake_c
  have H1 := Lib.hid (fun w => equal_err ka kb kc kd c v k w hk hR)
  have H2 := Lib.hid (fun w => requal_err ka kb kc kd c v k w hk hQ)
  have H3 := Lib.hid (fun w => nots_err ka kb kc kd c v k w hk hR)
  have H4 := Lib.hid (fun w => rnots_err ka kb kc kd c v k w hk hQ)
  have HN := Lib.hid same_nil
  have hB := blk2a w #[Value.string ka, Value.string kb, Value.string kc, Value.string kd] #[.string c] 26 22
  have hBW := b2 w (.cells #[Value.string ka, Value.string kb, Value.string kc, Value.string kd] 26) (.cells #[.string c] 22)
  clear hs hb hk hR hQ
  go_enter Tryz.func3, Tryz.ntmps3
  go_wp2_with fail
  refine (HS.out).mono ?_
  rintro e w1 ⟨rfl, hb1⟩
  replace hB := hB.after hb1
  replace hBW := bt hBW hb1
  -- GEN1
  have yb : w.heap.size < w1.heap.size := hB.lt
  have hBc0 := hB.cell 0
  have hBf0 := hB.free 0
  have hBc1 := hB.cell 1
  have hBf1 := hB.free 1
  have hBc2 := hB.cell 2
  have hBf2 := hB.free 2
  have hBc3 := hB.cell 3
  have hBf3 := hB.free 3
  go_wp2_with fail
  refine (H1.out _).mono ?_
  rintro e w2 ⟨rfl, hb2⟩
  clear hBc0 hBf0 hBc1 hBf1 hBc2 hBf2 hBc3 hBf3
  clear yb
  replace hB := hB.after hb2
  replace hBW := bt hBW hb2
  have yb : w.heap.size < w2.heap.size := hB.lt
  have hx2 := Blk.new w2 #[.slice none 0 0, .slice none 0 0, .slice none 0 0] 33
  clear hb2
  have hBc0 := hB.cell 0
  have hBf0 := hB.free 0
  have hBc1 := hB.cell 1
  have hBf1 := hB.free 1
  have hBc2 := hB.cell 2
  have hBf2 := hB.free 2
  have hBc3 := hB.cell 3
  have hBf3 := hB.free 3
  go_wp2_with fail
  refine (H2.out _).mono ?_
  rintro e w3 ⟨rfl, hb3⟩
  clear hBc0 hBf0 hBc1 hBf1 hBc2 hBf2 hBc3 hBf3
  clear yb
  replace hB := (hB.alloc (.cells #[.slice none 0 0, .slice none 0 0, .slice none 0 0] 33)).after hb3
  replace hBW := bt (ba hBW (.cells #[.slice none 0 0, .slice none 0 0, .slice none 0 0] 33)) hb3
  replace hx2 := hx2.after hb3
  have yb : w.heap.size < w3.heap.size := hB.lt
  have hx3 := Blk.new w3 #[.slice none 0 0, .slice none 0 0, .slice none 0 0] 33
  have hl2_3 := hx2.lt
  clear hb3
  have hBc0 := hB.cell 0
  have hBf0 := hB.free 0
  have hBc1 := hB.cell 1
  have hBf1 := hB.free 1
  have hBc2 := hB.cell 2
  have hBf2 := hB.free 2
  have hBc3 := hB.cell 3
  have hBf3 := hB.free 3
  go_wp2_with fail
  refine (H3.out _).mono ?_
  rintro e w4 ⟨rfl, hb4⟩
  clear hBc0 hBf0 hBc1 hBf1 hBc2 hBf2 hBc3 hBf3
  clear yb
  replace hB := (hB.alloc (.cells #[.slice none 0 0, .slice none 0 0, .slice none 0 0] 33)).after hb4
  replace hBW := bt (ba hBW (.cells #[.slice none 0 0, .slice none 0 0, .slice none 0 0] 33)) hb4
  replace hx2 := (hx2.alloc (.cells #[.slice none 0 0, .slice none 0 0, .slice none 0 0] 33)).after hb4
  replace hx3 := hx3.after hb4
  have yb : w.heap.size < w4.heap.size := hB.lt
  have hx4 := Blk.new w4 #[.slice none 0 0, .slice none 0 0, .slice none 0 0] 33
  have hl2_4 := hx2.lt
  have hl3_4 := hx3.lt
  clear hb4
  have hBc0 := hB.cell 0
  have hBf0 := hB.free 0
  have hBc1 := hB.cell 1
  have hBf1 := hB.free 1
  have hBc2 := hB.cell 2
  have hBf2 := hB.free 2
  have hBc3 := hB.cell 3
  have hBf3 := hB.free 3
  go_wp2_with fail
  refine (H4.out _).mono ?_
  rintro e w5 ⟨rfl, hb5⟩
  clear hBc0 hBf0 hBc1 hBf1 hBc2 hBf2 hBc3 hBf3
  clear yb
  replace hB := (hB.alloc (.cells #[.slice none 0 0, .slice none 0 0, .slice none 0 0] 33)).after hb5
  replace hBW := bt (ba hBW (.cells #[.slice none 0 0, .slice none 0 0, .slice none 0 0] 33)) hb5
  replace hx2 := (hx2.alloc (.cells #[.slice none 0 0, .slice none 0 0, .slice none 0 0] 33)).after hb5
  replace hx3 := (hx3.alloc (.cells #[.slice none 0 0, .slice none 0 0, .slice none 0 0] 33)).after hb5
  replace hx4 := hx4.after hb5
  have yb : w.heap.size < w5.heap.size := hB.lt
  have hx5 := Blk.new w5 #[.slice none 0 0, .slice none 0 0, .slice none 0 0] 33
  have hl2_5 := hx2.lt
  have hl3_5 := hx3.lt
  have hl4_5 := hx4.lt
  clear hb5
  have hx2c0 := hx2.cell 0
  have hx2f0 := hx2.free 0
  have hx2c1 := hx2.cell 1
  have hx2f1 := hx2.free 1
  have hx2c2 := hx2.cell 2
  have hx2f2 := hx2.free 2
  have hx3c0 := hx3.cell 0
  have hx3f0 := hx3.free 0
  have hx3c1 := hx3.cell 1
  have hx3f1 := hx3.free 1
  have hx3c2 := hx3.cell 2
  have hx3f2 := hx3.free 2
  have hx4c0 := hx4.cell 0
  have hx4f0 := hx4.free 0
  have hx4c1 := hx4.cell 1
  have hx4f1 := hx4.free 1
  have hx4c2 := hx4.cell 2
  have hx4f2 := hx4.free 2
  have hx5c0 := hx5.cell 0
  have hx5f0 := hx5.free 0
  have hx5c1 := hx5.cell 1
  have hx5f1 := hx5.free 1
  have hx5c2 := hx5.cell 2
  have hx5f2 := hx5.free 2
  go_wp2_with fail
  refine (HN.out _).mono ?_
  rintro e w6 ⟨rfl, hb6⟩
  clear hx2c0 hx2f0 hx2c1 hx2f1 hx2c2 hx2f2
  clear hx3c0 hx3f0 hx3c1 hx3f1 hx3c2 hx3f2
  clear hx4c0 hx4f0 hx4c1 hx4f1 hx4c2 hx4f2
  clear hx5c0 hx5f0 hx5c1 hx5f1 hx5c2 hx5f2
  replace hx2 := (hx2.alloc (.cells #[.slice none 0 0, .slice none 0 0, .slice none 0 0] 33)).after hb6
  replace hx3 := (hx3.alloc (.cells #[.slice none 0 0, .slice none 0 0, .slice none 0 0] 33)).after hb6
  replace hx4 := (hx4.alloc (.cells #[.slice none 0 0, .slice none 0 0, .slice none 0 0] 33)).after hb6
  replace hx5 := hx5.after hb6
  replace hBW := bt (ba hBW (.cells #[.slice none 0 0, .slice none 0 0, .slice none 0 0] 33)) hb6
  have hx2c0 := hx2.cell 0
  have hx2f0 := hx2.free 0
  have hx2c1 := hx2.cell 1
  have hx2f1 := hx2.free 1
  have hx2c2 := hx2.cell 2
  have hx2f2 := hx2.free 2
  have hx3c0 := hx3.cell 0
  have hx3f0 := hx3.free 0
  have hx3c1 := hx3.cell 1
  have hx3f1 := hx3.free 1
  have hx3c2 := hx3.cell 2
  have hx3f2 := hx3.free 2
  have hx4c0 := hx4.cell 0
  have hx4f0 := hx4.free 0
  have hx4c1 := hx4.cell 1
  have hx4f1 := hx4.free 1
  have hx4c2 := hx4.cell 2
  have hx4f2 := hx4.free 2
  have hx5c0 := hx5.cell 0
  have hx5f0 := hx5.free 0
  have hx5c1 := hx5.cell 1
  have hx5f1 := hx5.free 1
  have hx5c2 := hx5.cell 2
  have hx5f2 := hx5.free 2
  go_wp2_with fail
  refine (HN.out _).mono ?_
  rintro e w7 ⟨rfl, hb7⟩
  go_wp2_with fail
  refine (HA.out _).mono ?_
  rintro e w8 ⟨rfl, hb8⟩
  go_wp2
  go_ret
  exact ⟨rfl, bt (bt hBW hb7) hb8⟩

set_option maxHeartbeats 8000000 in
theorem values_ok (p q g h n : Nat) (v : Int) (w : World) (hp : p < 256 ^ 8) (hq : q < 256 ^ 8) (hg : g < 256 ^ 8) (hh : h < 256 ^ 8) (hn : n < 256 ^ 8) (h1 : -9223372036854775808 ≤ v) (h2 : v ≤ 9223372036854775807) (h0 : readyN p q g h [n] = 0) :
    Calls Tryz.prog 3 #[.agg #[.string (E p), .string (E q), .string (E g), .string (E h)], .string (E n), .int .i64 v] w fun e w' => e = .returned (.bool true) ∧ Below w.heap.size w w' := by
  have z1 := (E_size_le p 8).2 hp
  have z2 := (E_size_le q 8).2 hq
  have z3 := (E_size_le g 8).2 hg
  have z4 := (E_size_le h 8).2 hh
  have z5 := (E_size_le n 8).2 hn
  obtain ⟨hq0, hpe, hge, hc, hgg⟩ := readyN_ok h0
  have HS := Lib.hid (lsmall_c (E p) (E q) (E g) (E h) [E n] (w.heap.size + 1) 1 ((w.alloc (.cells #[Value.string (E p), Value.string (E q), Value.string (E g), Value.string (E h)] 26)).alloc (.cells #[.string (E n)] 22)) rfl (by omega) (by omega) (by simp; omega) (blk2b _ _ _ _ _))
  rw [show smallB ([E n] ++ [E p, E q, E g, E h]) = true by simp [smallB]; omega] at HS
  have HA := Lib.hid awake_c
  have hsh : shiftN p n g (-v) = overN p n g v := shift_eq (-v) (has_lt hgg)
  have H1 := Lib.hid (fun w => equal_ok p q g h n v w hp (lt128 hq) (lt128 hg) (lt128 hh) (lt128 hn) h1 h2 h0 hpe hc hgg)
  have H2 := Lib.hid (fun w => requal_ok p q g h n v w hp (lt128 hq) (lt128 hg) (lt128 hh) (lt128 hn) h1 h2 h0 hq0 hge hc hgg)
  have H3 := Lib.hid (fun w => nots_ok p q g h n v w hp (lt128 hq) (lt128 hg) (lt128 hh) (lt128 hn) h1 h2 h0 hpe hc hgg)
  have H4 := Lib.hid (fun w => rnots_ok p q g h n v w hp (lt128 hq) (lt128 hg) (lt128 hh) (lt128 hn) h1 h2 h0 hq0 hge hc hgg)
  rw [hsh] at H1 H3
  generalize overN p n g v = x at H1 H2 H3 H4
  have hB := blk2a w #[Value.string (E p), Value.string (E q), Value.string (E g), Value.string (E h)] #[.string (E n)] 26 22
  have hBW := b2 w (.cells #[Value.string (E p), Value.string (E q), Value.string (E g), Value.string (E h)] 26) (.cells #[.string (E n)] 22)
  clear hp hq hg hh hn h1 h2 h0 z1 z2 z3 z4 z5 hq0 hpe hge hc hgg hsh
  go_enter Tryz.func3, Tryz.ntmps3
  go_wp2_with fail
  refine (HS.out).mono ?_
  rintro e w1 ⟨rfl, hb1⟩
  replace hB := hB.after hb1
  replace hBW := bt hBW hb1
  -- GEN1
  have yb : w.heap.size < w1.heap.size := hB.lt
  have hBc0 := hB.cell 0
  have hBf0 := hB.free 0
  have hBc1 := hB.cell 1
  have hBf1 := hB.free 1
  have hBc2 := hB.cell 2
  have hBf2 := hB.free 2
  have hBc3 := hB.cell 3
  have hBf3 := hB.free 3
  go_wp2_with fail
  refine (H1.out _).mono ?_
  rintro e w2 ⟨p2, q2, r2, s2, c2, d2, e2, f2, rfl, hs2, hb2⟩
  clear hBc0 hBf0 hBc1 hBf1 hBc2 hBf2 hBc3 hBf3
  clear yb
  replace hB := hB.after hb2
  replace hBW := bt hBW hb2
  have yb : w.heap.size < w2.heap.size := hB.lt
  have hx2 := Blk.new w2 #[.slice (some ⟨p2, 0, none⟩) 1 c2, .slice (some ⟨q2, 0, none⟩) 1 d2, .slice (some ⟨r2, 0, none⟩) 1 e2] 33
  clear hb2
  have hBc0 := hB.cell 0
  have hBf0 := hB.free 0
  have hBc1 := hB.cell 1
  have hBf1 := hB.free 1
  have hBc2 := hB.cell 2
  have hBf2 := hB.free 2
  have hBc3 := hB.cell 3
  have hBf3 := hB.free 3
  go_wp2_with fail
  refine (H2.out _).mono ?_
  rintro e w3 ⟨p3, q3, r3, s3, c3, d3, e3, f3, rfl, hs3, hb3⟩
  clear hBc0 hBf0 hBc1 hBf1 hBc2 hBf2 hBc3 hBf3
  clear yb
  replace hB := (hB.alloc (.cells #[.slice (some ⟨p2, 0, none⟩) 1 c2, .slice (some ⟨q2, 0, none⟩) 1 d2, .slice (some ⟨r2, 0, none⟩) 1 e2] 33)).after hb3
  replace hBW := bt (ba hBW (.cells #[.slice (some ⟨p2, 0, none⟩) 1 c2, .slice (some ⟨q2, 0, none⟩) 1 d2, .slice (some ⟨r2, 0, none⟩) 1 e2] 33)) hb3
  replace hx2 := hx2.after hb3
  replace hs2 := (hs2.after (b1 _ (.cells #[.slice (some ⟨p2, 0, none⟩) 1 c2, .slice (some ⟨q2, 0, none⟩) 1 d2, .slice (some ⟨r2, 0, none⟩) 1 e2] 33))).after hb3
  have yb : w.heap.size < w3.heap.size := hB.lt
  have hx3 := Blk.new w3 #[.slice (some ⟨p3, 0, none⟩) 1 c3, .slice (some ⟨q3, 0, none⟩) 1 d3, .slice (some ⟨r3, 0, none⟩) 1 e3] 33
  have hl2_3 := hx2.lt
  clear hb3
  have hBc0 := hB.cell 0
  have hBf0 := hB.free 0
  have hBc1 := hB.cell 1
  have hBf1 := hB.free 1
  have hBc2 := hB.cell 2
  have hBf2 := hB.free 2
  have hBc3 := hB.cell 3
  have hBf3 := hB.free 3
  go_wp2_with fail
  refine (H3.out _).mono ?_
  rintro e w4 ⟨p4, q4, r4, s4, c4, d4, e4, f4, rfl, hs4, hb4⟩
  clear hBc0 hBf0 hBc1 hBf1 hBc2 hBf2 hBc3 hBf3
  clear yb
  replace hB := (hB.alloc (.cells #[.slice (some ⟨p3, 0, none⟩) 1 c3, .slice (some ⟨q3, 0, none⟩) 1 d3, .slice (some ⟨r3, 0, none⟩) 1 e3] 33)).after hb4
  replace hBW := bt (ba hBW (.cells #[.slice (some ⟨p3, 0, none⟩) 1 c3, .slice (some ⟨q3, 0, none⟩) 1 d3, .slice (some ⟨r3, 0, none⟩) 1 e3] 33)) hb4
  replace hx2 := (hx2.alloc (.cells #[.slice (some ⟨p3, 0, none⟩) 1 c3, .slice (some ⟨q3, 0, none⟩) 1 d3, .slice (some ⟨r3, 0, none⟩) 1 e3] 33)).after hb4
  replace hx3 := hx3.after hb4
  replace hs2 := (hs2.after (b1 _ (.cells #[.slice (some ⟨p3, 0, none⟩) 1 c3, .slice (some ⟨q3, 0, none⟩) 1 d3, .slice (some ⟨r3, 0, none⟩) 1 e3] 33))).after hb4
  replace hs3 := (hs3.after (b1 _ (.cells #[.slice (some ⟨p3, 0, none⟩) 1 c3, .slice (some ⟨q3, 0, none⟩) 1 d3, .slice (some ⟨r3, 0, none⟩) 1 e3] 33))).after hb4
  have yb : w.heap.size < w4.heap.size := hB.lt
  have hx4 := Blk.new w4 #[.slice (some ⟨p4, 0, none⟩) 1 c4, .slice (some ⟨q4, 0, none⟩) 2 d4, .slice (some ⟨r4, 0, none⟩) 1 e4] 33
  have hl2_4 := hx2.lt
  have hl3_4 := hx3.lt
  clear hb4
  have hBc0 := hB.cell 0
  have hBf0 := hB.free 0
  have hBc1 := hB.cell 1
  have hBf1 := hB.free 1
  have hBc2 := hB.cell 2
  have hBf2 := hB.free 2
  have hBc3 := hB.cell 3
  have hBf3 := hB.free 3
  go_wp2_with fail
  refine (H4.out _).mono ?_
  rintro e w5 ⟨p5, q5, r5, s5, c5, d5, e5, f5, rfl, hs5, hb5⟩
  clear hBc0 hBf0 hBc1 hBf1 hBc2 hBf2 hBc3 hBf3
  clear yb
  replace hB := (hB.alloc (.cells #[.slice (some ⟨p4, 0, none⟩) 1 c4, .slice (some ⟨q4, 0, none⟩) 2 d4, .slice (some ⟨r4, 0, none⟩) 1 e4] 33)).after hb5
  replace hBW := bt (ba hBW (.cells #[.slice (some ⟨p4, 0, none⟩) 1 c4, .slice (some ⟨q4, 0, none⟩) 2 d4, .slice (some ⟨r4, 0, none⟩) 1 e4] 33)) hb5
  replace hx2 := (hx2.alloc (.cells #[.slice (some ⟨p4, 0, none⟩) 1 c4, .slice (some ⟨q4, 0, none⟩) 2 d4, .slice (some ⟨r4, 0, none⟩) 1 e4] 33)).after hb5
  replace hx3 := (hx3.alloc (.cells #[.slice (some ⟨p4, 0, none⟩) 1 c4, .slice (some ⟨q4, 0, none⟩) 2 d4, .slice (some ⟨r4, 0, none⟩) 1 e4] 33)).after hb5
  replace hx4 := hx4.after hb5
  replace hs2 := (hs2.after (b1 _ (.cells #[.slice (some ⟨p4, 0, none⟩) 1 c4, .slice (some ⟨q4, 0, none⟩) 2 d4, .slice (some ⟨r4, 0, none⟩) 1 e4] 33))).after hb5
  replace hs3 := (hs3.after (b1 _ (.cells #[.slice (some ⟨p4, 0, none⟩) 1 c4, .slice (some ⟨q4, 0, none⟩) 2 d4, .slice (some ⟨r4, 0, none⟩) 1 e4] 33))).after hb5
  replace hs4 := (hs4.after (b1 _ (.cells #[.slice (some ⟨p4, 0, none⟩) 1 c4, .slice (some ⟨q4, 0, none⟩) 2 d4, .slice (some ⟨r4, 0, none⟩) 1 e4] 33))).after hb5
  have yb : w.heap.size < w5.heap.size := hB.lt
  have hx5 := Blk.new w5 #[.slice (some ⟨p5, 0, none⟩) 1 c5, .slice (some ⟨q5, 0, none⟩) 2 d5, .slice (some ⟨r5, 0, none⟩) 1 e5] 33
  have hl2_5 := hx2.lt
  have hl3_5 := hx3.lt
  have hl4_5 := hx4.lt
  clear hb5
  have HM := Lib.hid (fun (w' : World) (ha : Stm w' p2 q2 r2 s2 f2 p q x [h]) (hb : Stm w' p3 q3 r3 s3 f3 p q x [h]) => same_c w' p2 q2 r2 s2 c2 d2 e2 f2 p3 q3 r3 s3 c3 d3 e3 f3 p q x 1 [h] rfl (by omega) ha hb)
  have HM2 := Lib.hid (fun (w' : World) (ha : Stm w' p4 q4 r4 s4 f4 p q g [x, h]) (hb : Stm w' p5 q5 r5 s5 f5 p q g [x, h]) => same_c w' p4 q4 r4 s4 c4 d4 e4 f4 p5 q5 r5 s5 c5 d5 e5 f5 p q g 2 [x, h] rfl (by omega) ha hb)
  have hx2c0 := hx2.cell 0
  have hx2f0 := hx2.free 0
  have hx2c1 := hx2.cell 1
  have hx2f1 := hx2.free 1
  have hx2c2 := hx2.cell 2
  have hx2f2 := hx2.free 2
  have hx3c0 := hx3.cell 0
  have hx3f0 := hx3.free 0
  have hx3c1 := hx3.cell 1
  have hx3f1 := hx3.free 1
  have hx3c2 := hx3.cell 2
  have hx3f2 := hx3.free 2
  have hx4c0 := hx4.cell 0
  have hx4f0 := hx4.free 0
  have hx4c1 := hx4.cell 1
  have hx4f1 := hx4.free 1
  have hx4c2 := hx4.cell 2
  have hx4f2 := hx4.free 2
  have hx5c0 := hx5.cell 0
  have hx5f0 := hx5.free 0
  have hx5c1 := hx5.cell 1
  have hx5f1 := hx5.free 1
  have hx5c2 := hx5.cell 2
  have hx5f2 := hx5.free 2
  go_wp2_with fail
  refine (HM.out _ (hs2.after (b1 _ _)) (hs3.after (b1 _ _))).mono ?_
  rintro e w6 ⟨rfl, hb6⟩
  clear hx2c0 hx2f0 hx2c1 hx2f1 hx2c2 hx2f2
  clear hx3c0 hx3f0 hx3c1 hx3f1 hx3c2 hx3f2
  clear hx4c0 hx4f0 hx4c1 hx4f1 hx4c2 hx4f2
  clear hx5c0 hx5f0 hx5c1 hx5f1 hx5c2 hx5f2
  replace hx2 := (hx2.alloc (.cells #[.slice (some ⟨p5, 0, none⟩) 1 c5, .slice (some ⟨q5, 0, none⟩) 2 d5, .slice (some ⟨r5, 0, none⟩) 1 e5] 33)).after hb6
  replace hx3 := (hx3.alloc (.cells #[.slice (some ⟨p5, 0, none⟩) 1 c5, .slice (some ⟨q5, 0, none⟩) 2 d5, .slice (some ⟨r5, 0, none⟩) 1 e5] 33)).after hb6
  replace hx4 := (hx4.alloc (.cells #[.slice (some ⟨p5, 0, none⟩) 1 c5, .slice (some ⟨q5, 0, none⟩) 2 d5, .slice (some ⟨r5, 0, none⟩) 1 e5] 33)).after hb6
  replace hx5 := hx5.after hb6
  replace hBW := bt (ba hBW (.cells #[.slice (some ⟨p5, 0, none⟩) 1 c5, .slice (some ⟨q5, 0, none⟩) 2 d5, .slice (some ⟨r5, 0, none⟩) 1 e5] 33)) hb6
  replace hs2 := (hs2.after (b1 _ (.cells #[.slice (some ⟨p5, 0, none⟩) 1 c5, .slice (some ⟨q5, 0, none⟩) 2 d5, .slice (some ⟨r5, 0, none⟩) 1 e5] 33))).after hb6
  replace hs3 := (hs3.after (b1 _ (.cells #[.slice (some ⟨p5, 0, none⟩) 1 c5, .slice (some ⟨q5, 0, none⟩) 2 d5, .slice (some ⟨r5, 0, none⟩) 1 e5] 33))).after hb6
  replace hs4 := (hs4.after (b1 _ (.cells #[.slice (some ⟨p5, 0, none⟩) 1 c5, .slice (some ⟨q5, 0, none⟩) 2 d5, .slice (some ⟨r5, 0, none⟩) 1 e5] 33))).after hb6
  replace hs5 := (hs5.after (b1 _ (.cells #[.slice (some ⟨p5, 0, none⟩) 1 c5, .slice (some ⟨q5, 0, none⟩) 2 d5, .slice (some ⟨r5, 0, none⟩) 1 e5] 33))).after hb6
  have hx2c0 := hx2.cell 0
  have hx2f0 := hx2.free 0
  have hx2c1 := hx2.cell 1
  have hx2f1 := hx2.free 1
  have hx2c2 := hx2.cell 2
  have hx2f2 := hx2.free 2
  have hx3c0 := hx3.cell 0
  have hx3f0 := hx3.free 0
  have hx3c1 := hx3.cell 1
  have hx3f1 := hx3.free 1
  have hx3c2 := hx3.cell 2
  have hx3f2 := hx3.free 2
  have hx4c0 := hx4.cell 0
  have hx4f0 := hx4.free 0
  have hx4c1 := hx4.cell 1
  have hx4f1 := hx4.free 1
  have hx4c2 := hx4.cell 2
  have hx4f2 := hx4.free 2
  have hx5c0 := hx5.cell 0
  have hx5f0 := hx5.free 0
  have hx5c1 := hx5.cell 1
  have hx5f1 := hx5.free 1
  have hx5c2 := hx5.cell 2
  have hx5f2 := hx5.free 2
  go_wp2_with fail
  refine (HM2.out _ hs4 hs5).mono ?_
  rintro e w7 ⟨rfl, hb7⟩
  go_wp2_with fail
  refine (HA.out _).mono ?_
  rintro e w8 ⟨rfl, hb8⟩
  go_wp2
  go_ret
  exact ⟨rfl, bt (bt hBW hb7) hb8⟩

theorem values_c (ka kb kc kd c : ByteArray) (v : Int) (w : World) (hs : ∀ s ∈ [c] ++ [ka, kb, kc, kd], s.size ≤ 9223372036854775807) (h1 : -9223372036854775808 ≤ v) (h2 : v ≤ 9223372036854775807) :
    Calls Tryz.prog 3 #[.agg #[.string ka, .string kb, .string kc, .string kd], .string c, .int .i64 v] w fun e w' => e = .returned (.bool true) ∧ Below w.heap.size w w' := by
  cases hb : smallB ([c] ++ [ka, kb, kc, kd])
  · exact values_big ka kb kc kd c v w hs hb
  · have hb2 := hb
    simp only [smallB, List.cons_append, List.nil_append, List.all_cons, List.all_nil, Bool.and_true, Bool.and_eq_true, decide_eq_true_eq] at hb2
    rcases ready_cases ka kb kc kd c hb2.2.1 hb2.2.2.1 hb2.2.2.2.1 hb2.2.2.2.2 hb2.1 with ⟨k, hk, hR, hQ⟩ | ⟨p, q, g, h, n, ⟨a1, a2, a3, a4, a5⟩, rfl, rfl, rfl, rfl, rfl, h0⟩
    · exact values_err ka kb kc kd c v k w hs hb hk hR hQ
    · exact values_ok p q g h n v w a1 a2 a3 a4 a5 h1 h2 h0

end Go.Proofs.YtecobjddpinonaaGreat
end
