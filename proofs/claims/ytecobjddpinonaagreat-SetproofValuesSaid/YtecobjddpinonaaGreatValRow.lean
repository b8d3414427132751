/- For every key, commitment and value, dominolaw28.SetproofValues returns true and its arguments read as they did: setproof.Equal and setproof.Not return the statements or the error of the reference. No condition. -/
import Derived.Test.YtecobjddpinonaaGreatBase
import Derived.Below
import Derived.ChangeSame
import Derived.ChangeMaps5
import Derived.JoinedOf
import Derived.JoinedAt
import Derived.RowKit3
import Derived.Deep.Strs
import Derived.Lib.SmallJoins
import Derived.OpenShut
import Derived.ProofKit
import Derived.Test.YtecobjddpinonaaGreatVal1
section
/- A row's last step, and keys as arguments. -/
set_option linter.unusedVariables false
set_option linter.unusedSimpArgs false
set_option maxRecDepth 100000
namespace Go.Proofs.YtecobjddpinonaaGreat
open Go.RowKit Go.WideShapes Go.ChangeShapes Go.ChangeAt Go.Joins Go.Deep
open Go.ChangeMaps (open_string shut_string)

section
variable {H : Type} {enc : TypeId × Value → H} {P : Program}
theorem post_of_below {f : Func} {s : ChangeSpec} {apart fresh handsOn again : Bool} {W W' : World} {args : Array Value} {v : Value} {ds gs : List (DataW H)} {before pa pv : List MemPlace}
    (hW : DataW.Whole enc P f.params.toList s.vars apart W args.toList ds gs before)
    (hres : ∀ (b : Nat) (sp : Nat → Bool) (hd : Bool), DataW.TrodAll enc P W' b sp hd f.resultTypes.toList (v.resultList f.resultTypes.size) (s.fn H (ds ++ gs)).results [])
    (hargs : ∀ sp : Nat → Bool, (∀ p ∈ before, sp p.block = true) → DataW.TrodAll enc P W' 0 sp true f.params.toList args.toList (s.fn H (ds ++ gs)).args pa)
    (hvars : ∀ sp : Nat → Bool, (∀ p ∈ before, sp p.block = true) → DataW.TrodVars enc P W' sp s.vars (s.fn H (ds ++ gs)).vars pv)
    (hps : before = pa ++ pv) (hb : Below W.heap.size W W')
    (hok : ∀ (j : Nat) (t : TypeId) (r : Value), f.resultTypes[j]? = some t → (v.resultList f.resultTypes.size)[j]? = some r → Value.okWide P W' .any 0 t r) :
    s.post enc P f apart fresh handsOn again W args v W' := by
  have hlt : ∀ p ∈ before, p.block < W.heap.size := fun p hp => hW.lt p hp
  have hold : ∀ p ∈ before, (fun b => decide (b < W.heap.size)) p.block = true := fun p hp => by simpa using hlt p hp
  refine ⟨ds, gs, before, [], pa, pv, hW, hres _ _ _, hargs _ hold, hvars _ hold, World.keptBut_mono (fun p hp => ⟨hp, ?_⟩) (hb.frame (· ∈ before)), fun _ => ?_⟩
  · rw [hps, List.mem_append] at hp
    exact Or.inr hp
  · obtain ⟨_, _, _, _, _, hz, hn⟩ := hW
    refine ⟨hok, _, _, ([] ++ pa) ++ pv, ⟨[] ++ pa, pv, trodAll_append (hargs _ (fun _ _ => rfl)) (hres _ _ _), hvars _ (fun _ _ => rfl), rfl, ?_, ?_⟩, ?_⟩
    · intro b off hp
      have hin : MemPlace.cell b off ∈ before := by rw [hps]; simpa using hp
      rw [hb.frozen (hlt _ hin)]
      exact hz b off hin
    · intro ha
      have := hn ha
      rw [hps] at this
      simpa using this
    · intro p hp _
      rw [hps]
      simpa using hp
end

section
variable {H : Type} {enc : TypeId × Value → H} {w : World} {base : Nat} {spare : Nat → Bool} {held : Bool}

theorem size_ped : Tryz.prog.cellsOf 26 = 4 := by kernel_rfl
theorem size_grp : Tryz.prog.cellsOf 24 = 2 := by kernel_rfl
theorem size_nat : Tryz.prog.cellsOf 22 = 1 := by kernel_rfl

/-- a key as a datum -/
def pedD (H : Type) (a b c d : ByteArray) : DataW H := .agg [.agg [.lit (.string a.data.toList), .lit (.string b.data.toList)], .lit (.string c.data.toList), .lit (.string d.data.toList)]

theorem open_ped {r : Reach} {b0 : Nat} {v : Value} {d : DataW H} {p : List MemPlace} (hv : Value.okWide Tryz.prog w r b0 26 v) (h : DataW.Trod enc Tryz.prog w base spare held 26 v d p) :
    ∃ a b c e : ByteArray, v = .agg #[.string a, .string b, .string c, .string e] ∧ d = pedD H a b c e ∧ p = [] ∧ a.size ≤ maxLen ∧ b.size ≤ maxLen ∧ c.size ≤ maxLen ∧ e.size ≤ maxLen := by
  obtain ⟨cs, rfl, hsz⟩ := okWide_struct Tryz.underlying26 hv
  obtain ⟨c0, c1, c2, c3, rfl⟩ := array4 (hsz.trans size_ped)
  obtain ⟨fuel, hf⟩ := h
  obtain ⟨y0, y1, y2, n, hx, _, h0, h1, h2⟩ := trod_struct3 Tryz.underlying26 hf
  obtain ⟨z0, z1, m, hz, _, g0, g1⟩ := trod_struct2 Tryz.underlying24 h0
  obtain ⟨a, ha, hxa, sa⟩ := DataW.trod_string Tryz.underlying22 g0
  obtain ⟨b, hb, hxb, sb⟩ := DataW.trod_string Tryz.underlying22 g1
  obtain ⟨c, hc, hxc, sc⟩ := DataW.trod_string Tryz.underlying22 h1
  obtain ⟨e, he, hxe, se⟩ := DataW.trod_string Tryz.underlying22 h2
  simp [Value.cells, size_grp, size_nat] at ha hb hc he
  subst ha hb hc he
  subst hxa hxb hxc hxe
  subst hz
  simp only [Prod.mk.injEq] at hx
  exact ⟨a, b, c, e, rfl, by rw [hx.1]; rfl, by rw [hx.2]; rfl, sa, sb, sc, se⟩

theorem shut_ped {a b c e : ByteArray} (ha : a.size ≤ maxLen) (hb : b.size ≤ maxLen) (hc : c.size ≤ maxLen) (he : e.size ≤ maxLen) : DataW.Trod enc Tryz.prog w base spare held 26 (.agg #[.string a, .string b, .string c, .string e]) (pedD H a b c e) [] := by
  have t : ∀ s : ByteArray, s.size ≤ maxLen → ∀ n, DataW.trod enc Tryz.prog w base spare held (n + 1) 22 [.string s] = some (.lit (.string s.data.toList), []) := fun s hs n => DataW.trod_le (show 1 ≤ n + 1 by omega) (by simp [DataW.trod, Tryz.underlying22, hs])
  have g := trod_struct2_mk (enc := enc) (w := w) (base := base) (spare := spare) (held := held) (n := 1) (cs := [.string a, .string b]) (y0 := (.lit (.string a.data.toList), [])) (y1 := (.lit (.string b.data.toList), [])) Tryz.underlying24 (by simp [size_grp]) (by simpa [size_nat] using t a ha 0) (by simpa [size_nat] using t b hb 0)
  have k := trod_struct3_mk (enc := enc) (w := w) (base := base) (spare := spare) (held := held) (n := 2) (cs := [.string a, .string b, .string c, .string e]) (y0 := (.agg [.lit (.string a.data.toList), .lit (.string b.data.toList)], [])) (y1 := (.lit (.string c.data.toList), [])) (y2 := (.lit (.string e.data.toList), [])) Tryz.underlying26 (by simp [size_ped]) (by simpa [size_grp] using g) (by simpa [size_nat] using t c hc 1) (by simpa [size_nat] using t e he 1)
  exact ⟨_, by simpa [Value.cells, pedD] using k⟩

end

theorem own_knob : ownKnob Tryz.prog.godebug = none := by kernel_rfl

end Go.Proofs.YtecobjddpinonaaGreat
end

section
set_option linter.unusedVariables false
set_option linter.unusedSimpArgs false
set_option maxRecDepth 100000
namespace Go.Proofs.YtecobjddpinonaaGreat
open Go.RowKit Go.WideShapes Go.ChangeShapes Go.ChangeAt
open Go.ChangeMaps (open_string shut_string)

theorem values_lifted (os : Os) (started : os.Started) (H : Type) (enc : TypeId × Value → H) :
    ReturnsInHanded {} Tryz.checked os 3 .any (Rows.setproofValuesSpec.pre6 enc Tryz.prog Tryz.f3 Rows.setproofValuesRow.domain false) (Rows.setproofValuesSpec.post enc Tryz.prog Tryz.f3 false true false false) := by
  refine returnsInHanded_of_change (C := Tryz.checked) own_knob started (by kernel_rfl) Tryz.func3
    (ChangeSpec.witness6 (enc := enc) (C := Tryz.checked) false ⟨#[], #[.agg #[.string ⟨#[]⟩, .string ⟨#[]⟩, .string ⟨#[]⟩, .string ⟨#[]⟩], .string ⟨#[]⟩, .int .i64 0], []⟩ 8 (by kernel_rfl) (by kernel_rfl) (by kernel_rfl) (by kernel_rfl)) ?_
  intro W base args ds gs before hval0 hW _ _
  have hval : ∀ (j : Nat) t v, Tryz.f3.params[j]? = some t → args[j]? = some v → Value.okWide Tryz.prog W .any base t v := hval0
  have hW' := hW
  obtain ⟨p, q, hA0, hV, rfl, _, _⟩ := hW
  have hA : DataW.TrodAll enc Tryz.prog W 0 (fun _ => true) true Tryz.f3.params.toList args.toList ds p := hA0
  rw [Tryz.params3] at hA hval
  obtain ⟨v0, vs0, d0, ds0, p0, q0, hargs, rfl, rfl, h0, r0⟩ := trodAll_cons hA
  obtain ⟨v1, vs1, d1, ds1, p1, q1, rfl, rfl, rfl, h1, r1⟩ := trodAll_cons r0
  obtain ⟨v2, vs2, d2, ds2, p2, q2, rfl, rfl, rfl, h2, r2⟩ := trodAll_cons r1
  obtain ⟨rfl, rfl, rfl⟩ := trodAll_nil r2
  obtain rfl : args = #[v0, v1, v2] := by cases args; simp_all
  obtain ⟨rfl, rfl⟩ := trodVars_none hV
  obtain ⟨a, b, c, e, rfl, rfl, rfl, sa, sb, sc, se⟩ := open_ped (hval 0 26 v0 rfl rfl) h0
  obtain ⟨s, rfl, rfl, rfl, ss⟩ := open_string Tryz.underlying22 (hval 1 22 v1 rfl rfl) h1
  obtain ⟨n, rfl, rfl, rfl, wn⟩ := open_int Tryz.underlying3 (hval 2 3 v2 rfl rfl) h2
  clear hA0 hval0 hA r0 r1 r2 h0 h1 h2
  simp only [List.append_nil] at hW'
  have hn : -9223372036854775808 ≤ n ∧ n ≤ 9223372036854775807 := by simpa [Lit.wf, IntKind.min, IntKind.max, IntKind.signed, IntKind.bits] using wn
  have hsz : ∀ x ∈ [s] ++ [a, b, c, e], x.size ≤ 9223372036854775807 := by
    unfold maxLen at sa sb sc se ss
    intro x hx
    simp at hx
    rcases hx with rfl | rfl | rfl | rfl | rfl <;> omega
  refine (values_c a b c e s n W hsz hn.1 hn.2).mono fun en W' hh => ?_
  obtain ⟨rfl, hb⟩ := hh
  exact ⟨_, rfl, post_of_below (pa := []) (pv := []) hW' (fun _ _ _ => trodAll_cons_mk (shut_bool Tryz.underlying4 _) trodAll_mk0)
    (fun sp _ => trodAll_cons_mk (shut_ped sa sb sc se) (trodAll_cons_mk (shut_string Tryz.underlying22 ss) (trodAll_cons_mk (shut_int Tryz.underlying3 wn) trodAll_mk0))) (fun _ _ => rfl) rfl hb
    (ok_one (by kernel_rfl) rfl (okWide_bool_mk Tryz.underlying4 _))⟩

theorem values_holds : Rows.SetproofValuesSaid :=
  OpenClaim.holds_of_wide 3 Tryz.f3 rfl rfl rfl rfl rfl rfl rfl ⟨rfl, rfl, rfl, rfl, rfl⟩ rfl rfl rfl rfl rfl (by kernel_rfl) Tryz.func3 (by kernel_rfl)
    (of_decide_eq_true (by kernel_rfl)) (by unfold Func.isWrapper; first | (rw [if_pos (by decide +kernel)]; kernel_rfl) | (rw [if_neg (by decide +kernel)]; exact ⟨rfl, rfl⟩))
    (fun os started H enc _ => values_lifted os started H enc)

#print axioms values_holds
end Go.Proofs.YtecobjddpinonaaGreat
end
