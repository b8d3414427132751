/- For every rule and statement, dominolaw16.SigmaBounds returns true and its arguments read as they did: sigma.Bounds returns the limits, or the error, of the reference. No condition. -/
import Derived.Test.YtcfjcenmcpankaaGreatDoorHol
import Derived.Test.YtcfjcenmcpankaaGreatDoorLd16
import Derived.Test.YtcfjcenmcpankaaGreatDoorAw16
import Derived.Test.YtcfjcenmcpankaaGreatDoorCards
import Derived.Test.YtcfjcenmcpankaaGreatDoorTie
import Derived.SevenTiedAt
section
set_option linter.unusedVariables false
set_option linter.unusedSimpArgs false
set_option maxRecDepth 100000
namespace Go.Proofs.YtcfjcenmcpankaaGreatDoor
open Go.RowKit Go.Shelf

set_option maxHeartbeats 4000000 in
theorem sb_big (C K : ByteArray) (s1 s2 s3 : Option Addr) (m1 m2 m3 d1 d2 d3 : Nat) (w : World)
  (HF : ∀ w', Below w.heap.size w w' → Calls Tryz.prog 11 #[.agg #[.string C, .string K], .agg #[.slice s1 m1 d1, .slice s2 m2 d2, .slice s3 m3 d3]] w' fun e w'' => e = .returned (.bool false) ∧ Below w'.heap.size w' w'') :
  Calls Tryz.prog 3 #[.agg #[.string C, .string K], .agg #[.slice s1 m1 d1, .slice s2 m2 d2, .slice s3 m3 d3]] w fun e w' => e = .returned (.bool true) ∧ Below w.heap.size w w' := by
 have HFF := Lib.hid HF
 have hR := blk2a w #[.string C, .string K] #[.slice s1 m1 d1, .slice s2 m2 d2, .slice s3 m3 d3] 24 29
 have hP := blk2b w #[.string C, .string K] #[.slice s1 m1 d1, .slice s2 m2 d2, .slice s3 m3 d3] 24 29
 have hBW := b2 w (.cells #[.string C, .string K] 24) (.cells #[.slice s1 m1 d1, .slice s2 m2 d2, .slice s3 m3 d3] 29)
 clear HF
 obtain ⟨hRc0, hRf0, hRc1, hRf1⟩ := hR.x2
 obtain ⟨hPc0, hPf0, hPc1, hPf1, hPc2, hPf2⟩ := hP.x3
 go_enter Tryz.func3, Tryz.ntmps3
 go_wp2_with fail
 refine (HFF.out _ hBW).mono ?_
 rintro e w2 ⟨rfl, hb2⟩
 clear hRc0 hRf0 hRc1 hRf1
 clear hPc0 hPf0 hPc1 hPf1 hPc2 hPf2
 go_wp2_with fail
 refine (awake_c _).mono ?_
 rintro e w3 ⟨rfl, hb3⟩
 go_wp2
 go_ret
 exact ⟨rfl, bt (bt hBW hb2) hb3⟩

set_option maxHeartbeats 4000000 in
theorem sb_walk (C K : ByteArray) (L M : List Nat) (k : Nat) (s1 s2 s3 : Option Addr) (m1 m2 m3 d1 d2 d3 : Nat) (w : World) (hL : L.length ≤ 1000) (hM : M.length ≤ 1000)
  (HF : ∀ w', Below w.heap.size w w' → Calls Tryz.prog 11 #[.agg #[.string C, .string K], .agg #[.slice s1 m1 d1, .slice s2 m2 d2, .slice s3 m3 d3]] w' fun e w'' => e = .returned (.bool true) ∧ Below w'.heap.size w' w'')
  (H1 : ∀ w', Below w.heap.size w w' → Calls Tryz.prog 13 #[.agg #[.string C, .string K], .agg #[.slice s1 m1 d1, .slice s2 m2 d2, .slice s3 m3 d3]] w' (BB w' k L M))
  (H2 : ∀ w', Below w.heap.size w w' → Calls Tryz.prog 14 #[.agg #[.string C, .string K], .agg #[.slice s1 m1 d1, .slice s2 m2 d2, .slice s3 m3 d3]] w' (BB w' k L M)) :
  Calls Tryz.prog 3 #[.agg #[.string C, .string K], .agg #[.slice s1 m1 d1, .slice s2 m2 d2, .slice s3 m3 d3]] w fun e w' => e = .returned (.bool true) ∧ Below w.heap.size w w' := by
 have HFF := Lib.hid HF
 have HH1 := Lib.hid H1
 have HH2 := Lib.hid H2
 have HL := Lib.hid hL
 have HM := Lib.hid hM
 have hkk : ((k : Int) == (k : Int)) = true := by simp
 have hR := blk2a w #[.string C, .string K] #[.slice s1 m1 d1, .slice s2 m2 d2, .slice s3 m3 d3] 24 29
 have hP := blk2b w #[.string C, .string K] #[.slice s1 m1 d1, .slice s2 m2 d2, .slice s3 m3 d3] 24 29
 have hBW := b2 w (.cells #[.string C, .string K] 24) (.cells #[.slice s1 m1 d1, .slice s2 m2 d2, .slice s3 m3 d3] 29)
 clear HF H1 H2 hL hM
 obtain ⟨hRc0, hRf0, hRc1, hRf1⟩ := hR.x2
 obtain ⟨hPc0, hPf0, hPc1, hPf1, hPc2, hPf2⟩ := hP.x3
 go_enter Tryz.func3, Tryz.ntmps3
 go_wp2_with fail
 refine (HFF.out _ hBW).mono ?_
 rintro e w2 ⟨rfl, hb2⟩
 clear hRc0 hRf0 hRc1 hRf1
 clear hPc0 hPf0 hPc1 hPf1 hPc2 hPf2
 replace hR := hR.after hb2
 replace hP := hP.after hb2
 replace hBW := bt hBW hb2
 clear hb2
 obtain ⟨hRc0, hRf0, hRc1, hRf1⟩ := hR.x2
 obtain ⟨hPc0, hPf0, hPc1, hPf1, hPc2, hPf2⟩ := hP.x3
 go_wp2_with fail
 refine (HH1.out _ hBW).mono ?_
 rintro e w3 ⟨v, u, rfl, hV, hU, hb3⟩
 clear hRc0 hRf0 hRc1 hRf1
 clear hPc0 hPf0 hPc1 hPf1 hPc2 hPf2
 have hS1 := NOwn.ss hV
 have hT1 := NOwn.ss hU
 clear hV hU
 replace hR := hR.after hb3
 replace hP := hP.after hb3
 replace hBW := bt hBW hb3
 clear hb3
 obtain ⟨a1, c1, rfl⟩ := RAt.form hS1
 obtain ⟨e1, f1, rfl⟩ := RAt.form hT1
 rw [List.length_map] at hS1 hT1
 simp only [List.length_map]
 obtain ⟨hRc0, hRf0, hRc1, hRf1⟩ := hR.x2
 obtain ⟨hPc0, hPf0, hPc1, hPf1, hPc2, hPf2⟩ := hP.x3
 go_wp2_with fail
 refine (HH2.out _ hBW).mono ?_
 rintro e w4 ⟨v', u', rfl, hV, hU, hb4⟩
 clear hRc0 hRf0 hRc1 hRf1
 clear hPc0 hPf0 hPc1 hPf1 hPc2 hPf2
 have hS2 := NOwn.ss hV
 have hT2 := NOwn.ss hU
 replace hS1 := SsAt.after hS1 hb4
 replace hT1 := SsAt.after hT1 hb4
 replace hBW := bt hBW hb4
 clear hb4 hR hP hV hU
 obtain ⟨a2, c2, rfl⟩ := RAt.form hS2
 obtain ⟨e2, f2, rfl⟩ := RAt.form hT2
 rw [List.length_map] at hS2 hT2
 simp only [List.length_map]
 go_wp2_with fail
 refine (eqNat_cV L L _ _ true _ HL.out HL.out hS1 hS2 (decide_eq_true rfl)).mono ?_
 rintro e w5 ⟨rfl, hb5⟩
 replace hT1 := SsAt.after hT1 hb5
 replace hT2 := SsAt.after hT2 hb5
 replace hBW := bt hBW hb5
 clear hb5 hS1 hS2
 go_wp2_with fail
 refine (eqNat_cV M M _ _ true _ HM.out HM.out hT1 hT2 (decide_eq_true rfl)).mono ?_
 rintro e w6 ⟨rfl, hb6⟩
 replace hBW := bt hBW hb6
 clear hb6 hT1 hT2
 go_wp2_with fail
 refine (awake_c _).mono ?_
 rintro e w7 ⟨rfl, hb7⟩
 go_wp2
 go_ret
 exact ⟨rfl, bt hBW hb7⟩
end Go.Proofs.YtcfjcenmcpankaaGreatDoor
end

section
set_option linter.unusedVariables false
set_option linter.unusedSimpArgs false
set_option maxRecDepth 100000
namespace Go.Proofs.YtcfjcenmcpankaaGreatDoor
open Go.RowKit Go.WideShapes Go.ChangeShapes Go.ChangeAt Go.Joins Go.Deep
open Go.ChangeMaps (open_string shut_string)

theorem sbnd_c (S : Sta) (C K : ByteArray) (s1 s2 s3 : Option Addr) (m1 m2 m3 d1 d2 d3 : Nat) (w : World) (hC : C.size ≤ 9223372036854775807) (hK : K.size ≤ 9223372036854775807) (hz : SSz S) (hS : StAt w (.slice s1 m1 d1) (.slice s2 m2 d2) (.slice s3 m3 d3) S) :
  Calls Tryz.prog 3 #[.agg #[.string C, .string K], .agg #[.slice s1 m1 d1, .slice s2 m2 d2, .slice s3 m3 d3]] w fun e w' => e = .returned (.bool true) ∧ Below w.heap.size w w' := by
 have HF := fun w' (hb : Below w.heap.size w w') => few16_c S C K _ _ _ w' hC hK hz (hS.after hb)
 cases hr : ruleB S C K
 ·rw [hr] at HF
  exact sb_big C K s1 s2 s3 m1 m2 m3 d1 d2 d3 w HF
 ·rw [hr] at HF
  simp only [ruleB, Bool.and_eq_true, decide_eq_true_eq] at hr
  obtain ⟨k, L, M, hL, hM, h1, h2⟩ := bnds_two S C K _ _ _ w hr.1.1 hr.1.2 hr.2 hS
  exact sb_walk C K L M k s1 s2 s3 m1 m2 m3 d1 d2 d3 w hL hM HF h1 h2

theorem sbnd_lifted (os : Os) (started : os.Started) (H : Type) (enc : TypeId × Value → H) :
  ReturnsInHanded {} Tryz.checked os 3 .any (fun w args => (Rows.sigmaBoundsSpec.pre enc Tryz.prog Tryz.f3 [] false w args ∧ laidMetH Tryz.prog laid3 w) ∧ sizedMet enc Tryz.prog Tryz.f3 (OpenSpec.ofChange Rows.sigmaBoundsSpec) false w args)
   (Rows.sigmaBoundsSpec.post enc Tryz.prog Tryz.f3 false true false false) := by
 refine returnsInHanded_of_change_and (C := Tryz.checked) (X := fun w _ => laidMetH Tryz.prog laid3 w) (fun _ _ _ hh h => h.of_heap hh) own_knob started (by kernel_rfl) Tryz.func3
  (ChangeSpec.witness_shaped (enc := enc) (C := Tryz.checked) (os := os) (X := fun w _ => laidMetH Tryz.prog laid3 w) false (World.doorLaid Tryz.prog 24 os) #[.agg #[.string ⟨#[]⟩, .string ⟨#[]⟩], .agg #[.slice none 0 0, .slice none 0 0, .slice none 0 0]] 8 rfl (World.shaped_of_RefB (by kernel_rfl) (by kernel_rfl)) (by kernel_rfl) (by kernel_rfl) (by kernel_rfl) (door_met os _)) ?_
 intro W base args ds gs before hval0 hW _ _ _ _
 have hval : ∀ (j : Nat) t v, Tryz.f3.params[j]? = some t → args[j]? = some v → Value.okWide Tryz.prog W .any base t v := hval0
 have hW' := hW
 obtain ⟨p, q, hA0, hV, rfl, _, _⟩ := hW
 have hA : DataW.TrodAll enc Tryz.prog W 0 (fun _ => true) true Tryz.f3.params.toList args.toList ds p := hA0
 rw [Tryz.params3] at hA hval
 obtain ⟨v0, vs0, d0, ds0, p0, q0, hargs, rfl, rfl, h0, r0⟩ := trodAll_cons hA
 obtain ⟨v1, vs1, d1, ds1, p1, q1, rfl, rfl, rfl, h1, r1⟩ := trodAll_cons r0
 obtain ⟨rfl, rfl, rfl⟩ := trodAll_nil r1
 obtain rfl : args = #[v0, v1] := by cases args; simp_all
 obtain ⟨rfl, rfl⟩ := trodVars_none hV
 simp only [List.append_nil] at hW'
 have hlt : ∀ x ∈ p0 ++ p1, x.block < W.heap.size := fun x hx => hW'.lt x hx
 have k0 := h0
 have k1 := h1
 obtain ⟨C, K, rfl, hC, hK⟩ := open_rule (hval 0 24 v0 rfl rfl) h0
 obtain ⟨S, s1, s2, s3, m1, m2, m3, d1, d2, d3, rfl, hz, hS⟩ := open_sta (hval 1 29 v1 rfl rfl) h1
 clear hA0 hval0 hA r0 r1 h0 h1
 refine (sbnd_c S C K s1 s2 s3 m1 m2 m3 d1 d2 d3 W hC hK hz hS).mono fun en W' hh => ?_
 obtain ⟨rfl, hb⟩ := hh
 have stay : ∀ {t : TypeId} (hr : Tryz.prog.readableRec t = true) (hrow : t < Tryz.prog.types.size) {v : Value} {d : DataW H} {ps : List MemPlace} (h : DataW.Trod enc Tryz.prog W 0 (fun _ => true) true t v d ps) (hl : ∀ z ∈ ps, z.block < W.heap.size) (sp : Nat → Bool) (hs : ∀ z ∈ ps, sp z.block = true), DataW.Trod enc Tryz.prog W' 0 sp true t v d ps :=
  fun hr hrow _ _ _ h hl sp hs => WideElems.Trod_stays laid_out hr hrow h (fun z hz => hb.same (hl z hz)) hs
 exact ⟨_, rfl, post_of_below (pa := p0 ++ (p1 ++ [])) (pv := []) hW' (fun _ _ _ => trodAll_cons_mk (shut_bool Tryz.underlying4 _) trodAll_mk0)
  (fun sp hs => trodAll_cons_mk (stay (by kernel_rfl) (of_decide_eq_true (by kernel_rfl)) k0 (fun z hz => hlt z (by simp [hz])) sp (fun z hz => hs z (by simp [hz]))) (trodAll_cons_mk (stay (by kernel_rfl) (of_decide_eq_true (by kernel_rfl)) k1 (fun z hz => hlt z (by simp [hz])) sp (fun z hz => hs z (by simp [hz]))) trodAll_mk0)) (fun _ _ => rfl) (by simp) hb
  (ok_one (by kernel_rfl) rfl (okWide_bool_mk Tryz.underlying4 _))⟩

theorem sbnd_holds : Rows.SigmaBoundsSaid :=
 OpenClaim.holds_of_wide 3 Tryz.f3 rfl rfl rfl rfl rfl rfl rfl ⟨rfl, rfl, rfl, rfl, rfl⟩ rfl rfl rfl rfl rfl (by kernel_rfl) Tryz.func3 (by kernel_rfl)
  (of_decide_eq_true (by kernel_rfl)) (by unfold Func.isWrapper; first | (rw [if_pos (by decide +kernel)]; kernel_rfl) | (rw [if_neg (by decide +kernel)]; exact ⟨rfl, rfl⟩))
  (fun os started H enc _ => sbnd_lifted os started H enc)

theorem sbnd_card : Rows.SigmaBoundsCardSaid :=
 Claim7.holds_tied_plain_at .later [] [.data, .data, .data] true (true, "82157d4e328a061784dc718d726121388702a985537db1dd35e3cb80443a5f63") false
  sbnd_holds (fun _ h => by cases h) (by kernel_rfl) (fun _ h => by cases h) sigmaBounds_row_tie rfl ⟨rfl, rfl⟩ (by kernel_rfl) rfl
  (fun f fn hf hfn => by
   obtain rfl : f = 3 := Option.some.inj ((show Tryz.prog.funcNamed "domino/dominolaw16.SigmaBounds" = some 3 by kernel_rfl).symm.trans hf) |>.symm
   obtain rfl : fn = Tryz.f3 := (Option.some.inj (Tryz.func3.symm.trans hfn)).symm
   exact ⟨by kernel_rfl, fun j t ht => by
    rw [Tryz.params3] at ht
    have hm : t ∈ [24, 29] := by simpa using Array.mem_of_getElem? ht
    have hall : ([24, 29].all fun u => !Tryz.prog.wantsStandIn u) = true := by kernel_rfl
    exact (show Tryz.prog.wantsStandIn t = false by simpa using List.all_eq_true.1 hall t hm)⟩)
  (by kernel_rfl)

end Go.Proofs.YtcfjcenmcpankaaGreatDoor
end
