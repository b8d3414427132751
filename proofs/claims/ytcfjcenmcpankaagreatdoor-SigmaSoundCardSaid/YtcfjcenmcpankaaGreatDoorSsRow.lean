/- dominolaw16.SigmaSound: the row and its tied card. -/
import Derived.Test.YtcfjcenmcpankaaGreatDoorLs16
import Derived.OpenShut
import Derived.Test.YtcfjcenmcpankaaGreatDoorSnd4
import Derived.Test.YtcfjcenmcpankaaGreatDoorLd16
import Derived.Test.YtcfjcenmcpankaaGreatDoorAw16
import Derived.Test.YtcfjcenmcpankaaGreatDoorCards
import Derived.Test.YtcfjcenmcpankaaGreatDoorTie
import Derived.SevenTiedAt
section
/- Two proofs as an argument. -/
set_option linter.unusedVariables false
set_option linter.unusedSimpArgs false
set_option maxRecDepth 100000
namespace Go.Proofs.YtcfjcenmcpankaaGreatDoor
open Go.RowKit Go.WideShapes Go.ChangeShapes Go.ChangeAt Go.Joins Go.Deep
open Go.ChangeMaps (open_string shut_string)

theorem okWide_arr {P : Program} {w : World} {r : Reach} {b0 : Nat} {t e : TypeId} {n : Nat} {v : Value} (ht : P.underlying t = some (.array n e)) (h : Value.okWide P w r b0 t v) : ∃ cs, v = .agg cs ∧ cs.size = P.cellsOf t := by
 simp only [Value.okWide, ht] at h
 obtain ⟨cs, h1, h2, _⟩ := h
 exact ⟨cs, h1, h2⟩
theorem zTwo : Tryz.prog.cellsOf 77 = 6 := by kernel_rfl

section
variable {H : Type} {enc : TypeId × Value → H} {w : World} {base : Nat} {held : Bool}
theorem el_prf {n : Nat} {c0 c1 c2 : Value} {y : DataW H × List MemPlace} (h : DataW.trod enc Tryz.prog w base (fun _ => true) held n 52 [c0, c1, c2] = some y) :
  ∃ (F : List ByteArray) (ch : ByteArray) (R : List (Bool × ByteArray)) (s1 s2 : Option Addr) (m1 m2 d1 d2 : Nat), (c0 = .slice s1 m1 d1 ∧ c1 = .string ch ∧ c2 = .slice s2 m2 d2) ∧ (∀ x ∈ F, x.size ≤ 9223372036854775807) ∧ ch.size ≤ 9223372036854775807 ∧ (∀ x ∈ R, x.2.size ≤ 9223372036854775807) ∧
   SsAt w (.slice s1 m1 d1) F ∧ IsAt w (.slice s2 m2 d2) R := by
 obtain ⟨_, _, _, m1, _, _, t0, t1, t2⟩ := trod_struct3 Tryz.underlying52 h
 simp only [zNs, zNat, zZs, List.drop_succ_cons, List.drop_zero, List.take_succ_cons, List.take_zero] at t0 t1 t2
 obtain ⟨g1, g2, g3, F, hF, rF, sF, _⟩ := row_of (Q := QStr) (Sz := fun a => a.size ≤ maxLen) ⟨#[]⟩ Tryz.underlying32 zNat (by decide) t0 (fun n cs' y hl h => el_nat hl h)
 obtain ⟨s, hs, _, hz⟩ := DataW.trod_string Tryz.underlying22 t1
 obtain ⟨q1, q2, q3, R, hR, rR, sR, _⟩ := row_of (Q := QInt) (Sz := fun a => a.2.size ≤ maxLen) (false, ⟨#[]⟩) Tryz.underlying39 zInt (by decide) t2 (fun n cs' y hl h => el_int hl h)
 simp only [List.cons.injEq, and_true] at hF hs hR
 subst hF hs hR
 unfold maxLen at sF hz sR
 exact ⟨F, s, R, _, _, _, _, _, _, ⟨rfl, rfl, rfl⟩, sF, hz, sR, rF, rR⟩
theorem open_two {r : Reach} {b0 : Nat} {v : Value} {d : DataW H} {p : List MemPlace} (hv : Value.okWide Tryz.prog w r b0 77 v) (h : DataW.Trod enc Tryz.prog w base (fun _ => true) held 77 v d p) :
  ∃ (F0 F1 : List ByteArray) (ch0 ch1 : ByteArray) (R0 R1 : List (Bool × ByteArray)) (sf0 sr0 sf1 sr1 : Option Addr) (mf0 mr0 mf1 mr1 df0 dr0 df1 dr1 : Nat), v = .agg #[.slice sf0 mf0 df0, .string ch0, .slice sr0 mr0 dr0, .slice sf1 mf1 df1, .string ch1, .slice sr1 mr1 dr1] ∧
   (∀ x ∈ F0, x.size ≤ 9223372036854775807) ∧ ch0.size ≤ 9223372036854775807 ∧ (∀ x ∈ R0, x.2.size ≤ 9223372036854775807) ∧ (∀ x ∈ F1, x.size ≤ 9223372036854775807) ∧ ch1.size ≤ 9223372036854775807 ∧ (∀ x ∈ R1, x.2.size ≤ 9223372036854775807) ∧
   SsAt w (.slice sf0 mf0 df0) F0 ∧ IsAt w (.slice sr0 mr0 dr0) R0 ∧ SsAt w (.slice sf1 mf1 df1) F1 ∧ IsAt w (.slice sr1 mr1 dr1) R1 := by
 obtain ⟨cs, rfl, hsz⟩ := okWide_arr Tryz.underlying77 hv
 obtain ⟨c0, c1, c2, c3, c4, c5, rfl⟩ := array6 (hsz.trans zTwo)
 obtain ⟨fuel, hf⟩ := h
 obtain ⟨xs, m, _, _, _, hlen, hel⟩ := DataW.trod_array Tryz.underlying77 hf
 have h0 := hel 0 (by omega)
 have h1 := hel 1 (by omega)
 simp only [Value.cells, zPrf, Nat.zero_mul, Nat.one_mul, List.drop_succ_cons, List.drop_zero, List.take_succ_cons, List.take_zero] at h0 h1
 rw [List.getElem?_eq_getElem (by omega)] at h0 h1
 obtain ⟨F0, ch0, R0, sf0, sr0, mf0, mr0, df0, dr0, ⟨rfl, rfl, rfl⟩, a1, a2, a3, a4, a5⟩ := el_prf h0
 obtain ⟨F1, ch1, R1, sf1, sr1, mf1, mr1, df1, dr1, ⟨rfl, rfl, rfl⟩, b1, b2, b3, b4, b5⟩ := el_prf h1
 exact ⟨F0, F1, ch0, ch1, R0, R1, _, _, _, _, _, _, _, _, _, _, _, _, rfl, a1, a2, a3, b1, b2, b3, a4, a5, b4, b5⟩
end
end Go.Proofs.YtcfjcenmcpankaaGreatDoor
end

section
set_option linter.unusedVariables false
set_option linter.unusedSimpArgs false
set_option maxRecDepth 100000
namespace Go.Proofs.YtcfjcenmcpankaaGreatDoor
open Go.RowKit Go.WideShapes Go.ChangeShapes Go.ChangeAt Go.Joins Go.Deep
open Go.ChangeMaps (open_string shut_string)

theorem ssnd_c (S : Sta) (C K ch0 ch1 : ByteArray) (F0 F1 : List ByteArray) (R0 R1 : List (Bool × ByteArray)) (s1 s2 s3 sf0 sr0 sf1 sr1 : Option Addr) (m1 m2 m3 mf0 mr0 mf1 mr1 d1 d2 d3 df0 dr0 df1 dr1 : Nat) (w : World) (hC : C.size ≤ 9223372036854775807) (hK : K.size ≤ 9223372036854775807)
  (hF0 : ∀ x ∈ F0, x.size ≤ 9223372036854775807) (hR0 : ∀ x ∈ R0, x.2.size ≤ 9223372036854775807) (hF1 : ∀ x ∈ F1, x.size ≤ 9223372036854775807) (hR1 : ∀ x ∈ R1, x.2.size ≤ 9223372036854775807)
  (hz : SSz S) (hS : StAt w (.slice s1 m1 d1) (.slice s2 m2 d2) (.slice s3 m3 d3) S) (hFs0 : SsAt w (.slice sf0 mf0 df0) F0) (hIs0 : IsAt w (.slice sr0 mr0 dr0) R0) (hFs1 : SsAt w (.slice sf1 mf1 df1) F1) (hIs1 : IsAt w (.slice sr1 mr1 dr1) R1) :
  Calls Tryz.prog 9 #[.agg #[.string C, .string K], .agg #[.slice s1 m1 d1, .slice s2 m2 d2, .slice s3 m3 d3], .agg #[.slice sf0 mf0 df0, .string ch0, .slice sr0 mr0 dr0, .slice sf1 mf1 df1, .string ch1, .slice sr1 mr1 dr1]] w fun e w' => e = .returned (.bool true) ∧ Below w.heap.size w w' := by
 have e0 : mf0 = F0.length := by
  obtain ⟨a, c, h⟩ := RAt.form hFs0
  injection h
 have e1 : mf1 = F1.length := by
  obtain ⟨a, c, h⟩ := RAt.form hFs1
  injection h
 refine snd_w C K ch0 ch1 s1 s2 s3 sf0 sr0 sf1 sr1 m1 m2 m3 mf0 mr0 mf1 mr1 d1 d2 d3 df0 dr0 df1 dr1 w (ruleB S C K) (shB R0) (shB R1) (decide (F0 = F1)) (Lib.hid fun w => awake_c w) (Lib.hid fun w' hb => few16_c S C K _ _ _ w' hC hK hz (hS.after hb)) (Lib.hid fun w' hb => short_c R0 _ w' hR0 (IsAt.after hIs0 hb)) (Lib.hid fun w' hb => short_c R1 _ w' hR1 (IsAt.after hIs1 hb))
  (Lib.hid fun h0 h1 w' hb => eqStr_c F0 F1 _ _ w' (by omega) (by omega) (SsAt.after hFs0 hb) (SsAt.after hFs1 hb)) (Lib.hid fun hr hs0 hs1 hz0 hz1 hn0 hn1 he => ?_)
 simp only [ruleB, Bool.and_eq_true, decide_eq_true_eq] at hr
 simp only [shB, Bool.and_eq_true, decide_eq_true_eq, Bool.not_eq_true', List.any_eq_false, lgB] at hs0 hs1
 have he' : F0 = F1 := of_decide_eq_true he
 subst he'
 obtain ⟨k, hk, h1, h2⟩ | ⟨N, c, k, rfl, rfl, hc, hk, rfl, hm, h0, c2, k2, hv⟩ := bnd_two S C K _ _ _ w hr.1.1 hr.1.2 hr.2 hS
 ·exact ⟨k, k, fun w' hb => verify_bnd C K ch0 _ _ _ _ _ k w' hk (fun w2 hb2 => h1 w2 (bt hb hb2)), fun w' hb => verify_bnd C K ch1 _ _ _ _ _ k w' hk (fun w2 hb2 => h1 w2 (bt hb hb2)), fun h => absurd h hk⟩
 ·obtain ⟨ka, a1, a2⟩ := ver_numL N c k ch0 F0 R0 _ _ _ (.slice sf0 mf0 df0) (.slice sr0 mr0 dr0) w hc hk hm hS h0 c2 k2 hv (by omega) hF0 (by omega) (fun x hx => by have := hs0.2 x hx; omega) (by omega) hFs0 hIs0
  obtain ⟨kb, b1, b2⟩ := ver_numL N c k ch1 F0 R1 _ _ _ (.slice sf1 mf1 df1) (.slice sr1 mr1 dr1) w hc hk hm hS h0 c2 k2 hv (by omega) hF1 (by omega) (fun x hx => by have := hs1.2 x hx; omega) (by omega) hFs1 hIs1
  refine ⟨ka, kb, a1, b1, fun ha hb => ?_⟩
  obtain ⟨G, x, Z, g1, g2, g3, g4, g5, g6⟩ := a2 ha
  obtain ⟨G', x', Z', g1', g2', g3', g4', g5', g6'⟩ := b2 hb
  have hGG : G' = G := List.map_inj_right (fun a b h => E_inj h) |>.1 (g1'.trans g1.symm)
  subst hGG
  subst g3 g3'
  exact ⟨N, x, x', Z, Z', { m := hm, c := h0, st := hS, e0 := g2, e1 := g2', a := g4, b := g4', x := hIs0, y := hIs1, lx := (ver_inv g6).2.1, ly := (ver_inv g6').2.1, sx := g5, sy := g5', eq := fun j hj => sound_eq hm h0 g6 g6' j hj }⟩

theorem ssnd_lifted (os : Os) (started : os.Started) (H : Type) (enc : TypeId × Value → H) :
  ReturnsInHanded {} Tryz.checked os 9 .any (fun w args => (Rows.sigmaSoundSpec.pre enc Tryz.prog Tryz.f9 [] false w args ∧ laidMetH Tryz.prog laid3 w) ∧ sizedMet enc Tryz.prog Tryz.f9 (OpenSpec.ofChange Rows.sigmaSoundSpec) false w args)
   (Rows.sigmaSoundSpec.post enc Tryz.prog Tryz.f9 false true false false) := by
 refine returnsInHanded_of_change_and (C := Tryz.checked) (X := fun w _ => laidMetH Tryz.prog laid3 w) (fun _ _ _ hh h => h.of_heap hh) own_knob started (by kernel_rfl) Tryz.func9
  (ChangeSpec.witness_shaped (enc := enc) (C := Tryz.checked) (os := os) (X := fun w _ => laidMetH Tryz.prog laid3 w) false (World.doorLaid Tryz.prog 24 os) #[.agg #[.string ⟨#[]⟩, .string ⟨#[]⟩], .agg #[.slice none 0 0, .slice none 0 0, .slice none 0 0], .agg #[.slice none 0 0, .string ⟨#[]⟩, .slice none 0 0, .slice none 0 0, .string ⟨#[]⟩, .slice none 0 0]] 8 rfl (World.shaped_of_RefB (by kernel_rfl) (by kernel_rfl)) (by kernel_rfl) (by kernel_rfl) (by kernel_rfl) (door_met os _)) ?_
 intro W base args ds gs before hval0 hW _ _ _ _
 have hval : ∀ (j : Nat) t v, Tryz.f9.params[j]? = some t → args[j]? = some v → Value.okWide Tryz.prog W .any base t v := hval0
 have hW' := hW
 obtain ⟨p, q, hA0, hV, rfl, _, _⟩ := hW
 have hA : DataW.TrodAll enc Tryz.prog W 0 (fun _ => true) true Tryz.f9.params.toList args.toList ds p := hA0
 rw [Tryz.params9] at hA hval
 obtain ⟨v0, vs0, d0, ds0, p0, q0, hargs, rfl, rfl, h0, r0⟩ := trodAll_cons hA
 obtain ⟨v1, vs1, d1, ds1, p1, q1, rfl, rfl, rfl, h1, r1⟩ := trodAll_cons r0
 obtain ⟨v2, vs2, d2, ds2, p2, q2, rfl, rfl, rfl, h2, r2⟩ := trodAll_cons r1
 obtain ⟨rfl, rfl, rfl⟩ := trodAll_nil r2
 obtain rfl : args = #[v0, v1, v2] := by cases args; simp_all
 obtain ⟨rfl, rfl⟩ := trodVars_none hV
 simp only [List.append_nil] at hW'
 have hlt : ∀ x ∈ p0 ++ (p1 ++ p2), x.block < W.heap.size := fun x hx => hW'.lt x hx
 have k0 := h0
 have k1 := h1
 have k2 := h2
 obtain ⟨C, K, rfl, hC, hK⟩ := open_rule (hval 0 24 v0 rfl rfl) h0
 obtain ⟨S, s1, s2, s3, m1, m2, m3, d1, d2, d3, rfl, hz, hS⟩ := open_sta (hval 1 29 v1 rfl rfl) h1
 obtain ⟨F0, F1, ch0, ch1, R0, R1, sf0, sr0, sf1, sr1, mf0, mr0, mf1, mr1, df0, dr0, df1, dr1, rfl, hF0, hch0, hR0, hF1, hch1, hR1, hFs0, hIs0, hFs1, hIs1⟩ := open_two (hval 2 77 v2 rfl rfl) h2
 clear hA0 hval0 hA r0 h0 r1 h1 r2 h2
 refine (ssnd_c S C K ch0 ch1 F0 F1 R0 R1 s1 s2 s3 sf0 sr0 sf1 sr1 m1 m2 m3 mf0 mr0 mf1 mr1 d1 d2 d3 df0 dr0 df1 dr1 W hC hK hF0 hR0 hF1 hR1 hz hS hFs0 hIs0 hFs1 hIs1).mono fun en W' hh => ?_
 obtain ⟨rfl, hb⟩ := hh
 have stay : ∀ {t : TypeId} (hr : Tryz.prog.readableRec t = true) (hrow : t < Tryz.prog.types.size) {v : Value} {d : DataW H} {ps : List MemPlace} (h : DataW.Trod enc Tryz.prog W 0 (fun _ => true) true t v d ps) (hl : ∀ z ∈ ps, z.block < W.heap.size) (sp : Nat → Bool) (hs : ∀ z ∈ ps, sp z.block = true), DataW.Trod enc Tryz.prog W' 0 sp true t v d ps :=
  fun hr hrow _ _ _ h hl sp hs => WideElems.Trod_stays laid_out hr hrow h (fun z hz => hb.same (hl z hz)) hs
 exact ⟨_, rfl, post_of_below (pa := p0 ++ (p1 ++ (p2 ++ []))) (pv := []) hW' (fun _ _ _ => trodAll_cons_mk (shut_bool Tryz.underlying4 _) trodAll_mk0)
  (fun sp hs => trodAll_cons_mk (stay (by kernel_rfl) (of_decide_eq_true (by kernel_rfl)) k0 (fun z hz => hlt z (by simp [hz])) sp (fun z hz => hs z (by simp [hz]))) (trodAll_cons_mk (stay (by kernel_rfl) (of_decide_eq_true (by kernel_rfl)) k1 (fun z hz => hlt z (by simp [hz])) sp (fun z hz => hs z (by simp [hz]))) (trodAll_cons_mk (stay (by kernel_rfl) (of_decide_eq_true (by kernel_rfl)) k2 (fun z hz => hlt z (by simp [hz])) sp (fun z hz => hs z (by simp [hz]))) trodAll_mk0))) (fun _ _ => rfl) (by simp) hb
  (ok_one (by kernel_rfl) rfl (okWide_bool_mk Tryz.underlying4 _))⟩

theorem ssnd_holds : Rows.SigmaSoundSaid :=
 OpenClaim.holds_of_wide 9 Tryz.f9 rfl rfl rfl rfl rfl rfl rfl ⟨rfl, rfl, rfl, rfl, rfl⟩ rfl rfl rfl rfl rfl (by kernel_rfl) Tryz.func9 (by kernel_rfl)
  (of_decide_eq_true (by kernel_rfl)) (by unfold Func.isWrapper; first | (rw [if_pos (by decide +kernel)]; kernel_rfl) | (rw [if_neg (by decide +kernel)]; exact ⟨rfl, rfl⟩))
  (fun os started H enc _ => ssnd_lifted os started H enc)

theorem ssnd_card : Rows.SigmaSoundCardSaid :=
 Claim7.holds_tied_plain_at .later [] [.data, .data, .data] true (true, "82157d4e328a061784dc718d726121388702a985537db1dd35e3cb80443a5f63") false
  ssnd_holds (fun _ h => by cases h) (by kernel_rfl) (fun _ h => by cases h) sigmaSound_row_tie rfl ⟨rfl, rfl⟩ (by kernel_rfl) rfl
  (fun f fn hf hfn => by
   obtain rfl : f = 9 := Option.some.inj ((show Tryz.prog.funcNamed "domino/dominolaw16.SigmaSound" = some 9 by kernel_rfl).symm.trans hf) |>.symm
   obtain rfl : fn = Tryz.f9 := (Option.some.inj (Tryz.func9.symm.trans hfn)).symm
   exact ⟨by kernel_rfl, fun j t ht => by
    rw [Tryz.params9] at ht
    have hm : t ∈ [24, 29, 77] := by simpa using Array.mem_of_getElem? ht
    have hall : ([24, 29, 77].all fun u => !Tryz.prog.wantsStandIn u) = true := by kernel_rfl
    exact (show Tryz.prog.wantsStandIn t = false by simpa using List.all_eq_true.1 hall t hm)⟩)
  (by kernel_rfl)
end Go.Proofs.YtcfjcenmcpankaaGreatDoor
end
