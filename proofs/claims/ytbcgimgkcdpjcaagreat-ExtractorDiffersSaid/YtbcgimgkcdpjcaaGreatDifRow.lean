/- For every case (rule, statement, two proofs), dominolaw18.ExtractorDiffers returns true and its argument reads as it did: extractor.Differences returns the differences or the error of the reference. No condition. -/
import Derived.Test.YtbcgimgkcdpjcaaGreatArg
section
set_option linter.unusedVariables false
set_option linter.unusedSimpArgs false
set_option maxRecDepth 100000
namespace Go.Proofs.YtbcgimgkcdpjcaaGreat
open Go.RowKit Go.Shelf

/-- what both sides of Differences return: an error and nothing, or the numbers -/
def DQ (w : World) (cs : ByteArray) (L : List Int) (k : Nat) (e : Ending) (w' : World) : Prop := ∃ a n c, e = .returned (.tuple #[.agg #[.bool false, .string cs], .slice a n c, .int .i64 k]) ∧ ZsAt w' (.slice a n c) L ∧ Below w.heap.size w w'

theorem dq_err {w w' : World} {e : Ending} {k : Nat} (h : e = .returned (.tuple #[.agg #[.bool false, .string { data := #[] }], .slice none 0 0, .int .i64 k]) ∧ Below w.heap.size w w') : DQ w { data := #[] } [] k e w' :=
 ⟨_, _, _, h.1, ⟨none, 0, rfl, .inl rfl⟩, h.2⟩
theorem dq_num {w w' : World} {e : Ending} {c : Nat} {L : List Int} (h : DPost w c L e w') : DQ w (E c) L 0 e w' := by
 obtain ⟨v, rfl, hz, hb⟩ := h
 have hz := hz.zs
 obtain ⟨a, n, rfl⟩ := hz.form
 exact ⟨_, _, _, rfl, hz, hb⟩

set_option maxHeartbeats 4000000 in
theorem differs_big (C K cha chb : ByteArray) (s1 s2 s3 xa ya xb yb : Option Addr) (m1 m2 m3 d1 d2 d3 na pa ma qa nb pb mb qb : Nat) (w : World)
  (HF : ∀ w', Below w.heap.size w w' → Calls Tryz.prog 8 #[.agg #[.string C, .string K, .slice s1 m1 d1, .slice s2 m2 d2, .slice s3 m3 d3, .slice xa na pa, .string cha, .slice ya ma qa, .slice xb nb pb, .string chb, .slice yb mb qb]] w' fun e w'' => e = .returned (.bool false) ∧ Below w'.heap.size w' w'') :
  Calls Tryz.prog 3 #[.agg #[.string C, .string K, .slice s1 m1 d1, .slice s2 m2 d2, .slice s3 m3 d3, .slice xa na pa, .string cha, .slice ya ma qa, .slice xb nb pb, .string chb, .slice yb mb qb]] w fun e w' => e = .returned (.bool true) ∧ Below w.heap.size w w' := by
 have HFF := Lib.hid HF
 have hP := Blk.new w #[.string C, .string K, .slice s1 m1 d1, .slice s2 m2 d2, .slice s3 m3 d3, .slice xa na pa, .string cha, .slice ya ma qa, .slice xb nb pb, .string chb, .slice yb mb qb] 35
 have hBW := b1 w (.cells #[.string C, .string K, .slice s1 m1 d1, .slice s2 m2 d2, .slice s3 m3 d3, .slice xa na pa, .string cha, .slice ya ma qa, .slice xb nb pb, .string chb, .slice yb mb qb] 35)
 clear HF
 have hPc0 := hP.cell 0
 have hPf0 := hP.free 0
 have hPc1 := hP.cell 1
 have hPf1 := hP.free 1
 have hPc2 := hP.cell 2
 have hPf2 := hP.free 2
 have hPc3 := hP.cell 3
 have hPf3 := hP.free 3
 have hPc4 := hP.cell 4
 have hPf4 := hP.free 4
 have hPc5 := hP.cell 5
 have hPf5 := hP.free 5
 have hPc6 := hP.cell 6
 have hPf6 := hP.free 6
 have hPc7 := hP.cell 7
 have hPf7 := hP.free 7
 have hPc8 := hP.cell 8
 have hPf8 := hP.free 8
 have hPc9 := hP.cell 9
 have hPf9 := hP.free 9
 have hPc10 := hP.cell 10
 have hPf10 := hP.free 10
 go_enter Tryz.func3, Tryz.ntmps3
 go_wp2_with fail
 refine (HFF.out _ hBW).mono ?_
 rintro e w2 ⟨rfl, hb2⟩
 clear hPc0 hPf0 hPc1 hPf1 hPc2 hPf2 hPc3 hPf3 hPc4 hPf4 hPc5 hPf5 hPc6 hPf6 hPc7 hPf7 hPc8 hPf8 hPc9 hPf9 hPc10 hPf10
 go_wp2_with fail
 refine (awake_c _).mono ?_
 rintro e w3 ⟨rfl, hb3⟩
 go_wp2
 go_ret
 exact ⟨rfl, bt (bt hBW hb2) hb3⟩

set_option maxHeartbeats 4000000 in
theorem differs_walk (C K cha chb cs : ByteArray) (L : List Int) (k : Nat) (s1 s2 s3 xa ya xb yb : Option Addr) (m1 m2 m3 d1 d2 d3 na pa ma qa nb pb mb qb : Nat) (w : World) (hL : L.length ≤ 1000)
  (HF : ∀ w', Below w.heap.size w w' → Calls Tryz.prog 8 #[.agg #[.string C, .string K, .slice s1 m1 d1, .slice s2 m2 d2, .slice s3 m3 d3, .slice xa na pa, .string cha, .slice ya ma qa, .slice xb nb pb, .string chb, .slice yb mb qb]] w' fun e w'' => e = .returned (.bool true) ∧ Below w'.heap.size w' w'')
  (H1 : ∀ w', Below w.heap.size w w' → Calls Tryz.prog 10 #[.agg #[.string C, .string K], .agg #[.slice s1 m1 d1, .slice s2 m2 d2, .slice s3 m3 d3], .agg #[.slice xa na pa, .string cha, .slice ya ma qa], .agg #[.slice xb nb pb, .string chb, .slice yb mb qb]] w' (DQ w' cs L k))
  (H2 : ∀ w', Below w.heap.size w w' → Calls Tryz.prog 11 #[.agg #[.string C, .string K], .agg #[.slice s1 m1 d1, .slice s2 m2 d2, .slice s3 m3 d3], .agg #[.slice xa na pa, .string cha, .slice ya ma qa], .agg #[.slice xb nb pb, .string chb, .slice yb mb qb]] w' (DQ w' cs L k)) :
  Calls Tryz.prog 3 #[.agg #[.string C, .string K, .slice s1 m1 d1, .slice s2 m2 d2, .slice s3 m3 d3, .slice xa na pa, .string cha, .slice ya ma qa, .slice xb nb pb, .string chb, .slice yb mb qb]] w fun e w' => e = .returned (.bool true) ∧ Below w.heap.size w w' := by
 have HFF := Lib.hid HF
 have HH1 := Lib.hid H1
 have HH2 := Lib.hid H2
 have HL := Lib.hid hL
 have hP := Blk.new w #[.string C, .string K, .slice s1 m1 d1, .slice s2 m2 d2, .slice s3 m3 d3, .slice xa na pa, .string cha, .slice ya ma qa, .slice xb nb pb, .string chb, .slice yb mb qb] 35
 have hBW := b1 w (.cells #[.string C, .string K, .slice s1 m1 d1, .slice s2 m2 d2, .slice s3 m3 d3, .slice xa na pa, .string cha, .slice ya ma qa, .slice xb nb pb, .string chb, .slice yb mb qb] 35)
 clear HF H1 H2 hL
 obtain ⟨gp, hgp⟩ : ∃ g, w.heap.size = g := ⟨_, rfl⟩
 have HGP := Lib.hid hgp
 go_enter Tryz.func3, Tryz.ntmps3
 go_wp2_with fail
 refine (HFF.out _ hBW).mono ?_
 rintro e w2 ⟨rfl, hb2⟩
 replace hP := hP.after hb2
 replace hBW := bt hBW hb2
 clear hb2
 replace hP : Blk w2 w.heap.size 35 [.string C, .string K, .slice s1 m1 d1, .slice s2 m2 d2, .slice s3 m3 d3, .slice xa na pa, .string cha, .slice ya ma qa, .slice xb nb pb, .string chb, .slice yb mb qb] := hP
 rw [hgp] at hP
 clear hgp
 have hPc0 := hP.cell 0
 have hPf0 := hP.free 0
 have hPc1 := hP.cell 1
 have hPf1 := hP.free 1
 have hPc2 := hP.cell 2
 have hPf2 := hP.free 2
 have hPc3 := hP.cell 3
 have hPf3 := hP.free 3
 have hPc4 := hP.cell 4
 have hPf4 := hP.free 4
 have hPc5 := hP.cell 5
 have hPf5 := hP.free 5
 have hPc6 := hP.cell 6
 have hPf6 := hP.free 6
 have hPc7 := hP.cell 7
 have hPf7 := hP.free 7
 have hPc8 := hP.cell 8
 have hPf8 := hP.free 8
 have hPc9 := hP.cell 9
 have hPf9 := hP.free 9
 have hPc10 := hP.cell 10
 have hPf10 := hP.free 10
 go_wp2_with fail
 refine (HH1.out _ hBW).mono ?_
 rintro e w3 ⟨a1, n1, c1, rfl, hZ1, hb3⟩
 clear hPc0 hPf0 hPc1 hPf1 hPc2 hPf2 hPc3 hPf3 hPc4 hPf4 hPc5 hPf5 hPc6 hPf6 hPc7 hPf7 hPc8 hPf8 hPc9 hPf9 hPc10 hPf10
 have hD1 := Blk.new w3 #[.bool false, .string cs] 39
 replace hP := (hP.after hb3).alloc (.cells #[.bool false, .string cs] 39)
 replace hBW := ba (bt hBW hb3) (.cells #[.bool false, .string cs] 39)
 replace hZ1 := ZsAt.after hZ1 (b1 _ (.cells #[.bool false, .string cs] 39))
 clear hb3
 have hPc0 := hP.cell 0
 have hPf0 := hP.free 0
 have hPc1 := hP.cell 1
 have hPf1 := hP.free 1
 have hPc2 := hP.cell 2
 have hPf2 := hP.free 2
 have hPc3 := hP.cell 3
 have hPf3 := hP.free 3
 have hPc4 := hP.cell 4
 have hPf4 := hP.free 4
 have hPc5 := hP.cell 5
 have hPf5 := hP.free 5
 have hPc6 := hP.cell 6
 have hPf6 := hP.free 6
 have hPc7 := hP.cell 7
 have hPf7 := hP.free 7
 have hPc8 := hP.cell 8
 have hPf8 := hP.free 8
 have hPc9 := hP.cell 9
 have hPf9 := hP.free 9
 have hPc10 := hP.cell 10
 have hPf10 := hP.free 10
 go_wp2_with fail
 refine (HH2.out _ hBW).mono ?_
 rintro e w4 ⟨a2, n2, c2, rfl, hZ2, hb4⟩
 clear hPc0 hPf0 hPc1 hPf1 hPc2 hPf2 hPc3 hPf3 hPc4 hPf4 hPc5 hPf5 hPc6 hPf6 hPc7 hPf7 hPc8 hPf8 hPc9 hPf9 hPc10 hPf10
 have hD2 := Blk.new w4 #[.bool false, .string cs] 39
 replace hD1 := (hD1.after hb4).alloc (.cells #[.bool false, .string cs] 39)
 replace hBW := ba (bt hBW hb4) (.cells #[.bool false, .string cs] 39)
 replace hZ1 := ZsAt.after (ZsAt.after hZ1 hb4) (b1 _ (.cells #[.bool false, .string cs] 39))
 replace hZ2 := ZsAt.after hZ2 (b1 _ (.cells #[.bool false, .string cs] 39))
 clear hb4 hP
 go_wp2_with fail
 refine (awake_c _).mono ?_
 rintro e w5 ⟨rfl, hb5⟩
 replace hD1 := hD1.after hb5
 replace hD2 := hD2.after hb5
 replace hZ1 := ZsAt.after hZ1 hb5
 replace hZ2 := ZsAt.after hZ2 hb5
 replace hBW := bt hBW hb5
 clear hb5
 have hD1c0 := hD1.cell 0
 have hD1f0 := hD1.free 0
 have hD1c1 := hD1.cell 1
 have hD1f1 := hD1.free 1
 have hD2c0 := hD2.cell 0
 have hD2f0 := hD2.free 0
 have hD2c1 := hD2.cell 1
 have hD2f1 := hD2.free 1
 go_wp2_with fail
 refine (sameInts_c L _ _ _ HL.out hZ1 hZ2).mono ?_
 rintro e w6 ⟨rfl, hb6⟩
 go_wp2
 go_ret
 exact ⟨rfl, bt hBW hb6⟩
end Go.Proofs.YtbcgimgkcdpjcaaGreat
end

section
set_option linter.unusedVariables false
set_option linter.unusedSimpArgs false
set_option maxRecDepth 100000
namespace Go.Proofs.YtbcgimgkcdpjcaaGreat
open Go.RowKit Go.WideShapes Go.ChangeShapes Go.ChangeAt Go.Joins Go.Deep
open Go.ChangeMaps (open_string shut_string)

theorem differs_c (S : Sta) (C K cha chb : ByteArray) (FA FB : List ByteArray) (RA RB : List (Bool × ByteArray)) (s1 s2 s3 xa ya xb yb : Option Addr) (m1 m2 m3 d1 d2 d3 na pa ma qa nb pb mb qb : Nat) (w : World)
  (hC : C.size ≤ 9223372036854775807) (hK : K.size ≤ 9223372036854775807) (hz : SSz S) (hS : StAt w (.slice s1 m1 d1) (.slice s2 m2 d2) (.slice s3 m3 d3) S)
  (hpa : PSz FA cha RA) (hFa : SsAt w (.slice xa na pa) FA) (hRa : IsAt w (.slice ya ma qa) RA)
  (hpb : PSz FB chb RB) (hFb : SsAt w (.slice xb nb pb) FB) (hRb : IsAt w (.slice yb mb qb) RB) :
  Calls Tryz.prog 3 #[.agg #[.string C, .string K, .slice s1 m1 d1, .slice s2 m2 d2, .slice s3 m3 d3, .slice xa na pa, .string cha, .slice ya ma qa, .slice xb nb pb, .string chb, .slice yb mb qb]] w fun e w' => e = .returned (.bool true) ∧ Below w.heap.size w w' := by
 have HF := fun w' (hb : Below w.heap.size w w') => fewC_c S C K cha chb FA FB RA RB s1 s2 s3 xa ya xb yb m1 m2 m3 d1 d2 d3 na pa ma qa nb pb mb qb w' hC hK hz (hS.after hb) hpa (SsAt.after hFa hb) (IsAt.after hRa hb) hpb (SsAt.after hFb hb) (IsAt.after hRb hb)
 cases hr : (prfB FA cha RA && prfB FB chb RB && fewB S && (decide (C.size ≤ 8) && decide (K.size ≤ 8)))
 ·rw [hr] at HF
  exact differs_big C K cha chb s1 s2 s3 xa ya xb yb m1 m2 m3 d1 d2 d3 na pa ma qa nb pb mb qb w HF
 ·rw [hr] at HF
  simp only [prfB, shB, rszB, Bool.and_eq_true, decide_eq_true_eq, List.all_eq_true] at hr
  obtain ⟨⟨⟨⟨⟨⟨⟨a1, a2⟩, a3⟩, a4⟩, a5⟩, ⟨⟨⟨⟨b1, b2⟩, b3⟩, b4⟩, b5⟩⟩, hf⟩, hc8, hk8⟩ := hr
  obtain ⟨k, hk, h1, h2⟩ | ⟨N, c, k, ca, cb, F, X, Y, rfl, rfl, rfl, hT, h1, h2⟩ := dif_two S C K cha chb FA FB RA RB s1 s2 s3 xa ya xb yb m1 m2 m3 d1 d2 d3 na pa ma qa nb pb mb qb w hc8 hk8 hf hS a1 a3 a2 a5 a4 hFa hRa b1 b3 b2 b5 b4 hFb hRb
  ·exact differs_walk C K cha chb _ [] k s1 s2 s3 xa ya xb yb m1 m2 m3 d1 d2 d3 na pa ma qa nb pb mb qb w (by simp) HF (fun w' hb => (h1 w' hb).mono fun _ _ h => dq_err h) (fun w' hb => (h2 w' hb).mono fun _ _ h => dq_err h)
  ·exact differs_walk (E c) (E k) cha chb _ (N.difs X Y) 0 s1 s2 s3 xa ya xb yb m1 m2 m3 d1 d2 d3 na pa ma qa nb pb mb qb w (by have := hT.dif.1; have := hT.m.nv; omega) HF (fun w' hb => (h1 w' hb).mono fun _ _ h => dq_num h) (fun w' hb => (h2 w' hb).mono fun _ _ h => dq_num h)

theorem differs_lifted (os : Os) (started : os.Started) (H : Type) (enc : TypeId × Value → H) :
  ReturnsInHanded {} Tryz.checked os 3 .any (Rows.extractorDiffersSpec.pre6 enc Tryz.prog Tryz.f3 Rows.extractorDiffersRow.domain false) (Rows.extractorDiffersSpec.post enc Tryz.prog Tryz.f3 false true false false) := by
 refine returnsInHanded_of_change (C := Tryz.checked) own_knob started (by kernel_rfl) Tryz.func3
  (ChangeSpec.witness6 (enc := enc) (C := Tryz.checked) false ⟨#[], #[.agg #[.string ⟨#[]⟩, .string ⟨#[]⟩, .slice none 0 0, .slice none 0 0, .slice none 0 0, .slice none 0 0, .string ⟨#[]⟩, .slice none 0 0, .slice none 0 0, .string ⟨#[]⟩, .slice none 0 0]], []⟩ 8 (by kernel_rfl) (by kernel_rfl) (by kernel_rfl) (by kernel_rfl)) ?_
 intro W base args ds gs before hval0 hW _ _
 have hval : ∀ (j : Nat) t v, Tryz.f3.params[j]? = some t → args[j]? = some v → Value.okWide Tryz.prog W .any base t v := hval0
 have hW' := hW
 obtain ⟨p, q, hA0, hV, rfl, _, _⟩ := hW
 have hA : DataW.TrodAll enc Tryz.prog W 0 (fun _ => true) true Tryz.f3.params.toList args.toList ds p := hA0
 rw [Tryz.params3] at hA hval
 obtain ⟨v0, vs0, d0, ds0, p0, q0, hargs, rfl, rfl, h0, r0⟩ := trodAll_cons hA
 obtain ⟨rfl, rfl, rfl⟩ := trodAll_nil r0
 obtain rfl : args = #[v0] := by cases args; simp_all
 obtain ⟨rfl, rfl⟩ := trodVars_none hV
 simp only [List.append_nil] at hW'
 have hlt : ∀ x ∈ p0, x.block < W.heap.size := fun x hx => hW'.lt x (by simpa using hx)
 have k0 := h0
 obtain ⟨C, K, cha, chb, S, FA, FB, RA, RB, s1, s2, s3, xa, ya, xb, yb, m1, m2, m3, d1, d2, d3, na, pa, ma, qa, nb, pb, mb, qb, rfl, hC, hK, hz, hS, hpa, hFa, hRa, hpb, hFb, hRb⟩ := open_case (hval 0 35 v0 rfl rfl) h0
 clear hA0 hval0 hA r0 h0
 refine (differs_c S C K cha chb FA FB RA RB s1 s2 s3 xa ya xb yb m1 m2 m3 d1 d2 d3 na pa ma qa nb pb mb qb W hC hK hz hS hpa hFa hRa hpb hFb hRb).mono fun en W' hh => ?_
 obtain ⟨rfl, hb⟩ := hh
 have stay : ∀ {t : TypeId} (hr : Tryz.prog.readableRec t = true) (hrow : t < Tryz.prog.types.size) {v : Value} {d : DataW H} {ps : List MemPlace} (h : DataW.Trod enc Tryz.prog W 0 (fun _ => true) true t v d ps) (hl : ∀ z ∈ ps, z.block < W.heap.size) (sp : Nat → Bool) (hs : ∀ z ∈ ps, sp z.block = true), DataW.Trod enc Tryz.prog W' 0 sp true t v d ps :=
  fun hr hrow _ _ _ h hl sp hs => WideElems.Trod_stays laid_out hr hrow h (fun z hz => hb.same (hl z hz)) hs
 exact ⟨_, rfl, post_of_below (pa := p0 ++ []) (pv := []) hW' (fun _ _ _ => trodAll_cons_mk (shut_bool Tryz.underlying4 _) trodAll_mk0)
  (fun sp hs => trodAll_cons_mk (stay (by kernel_rfl) (of_decide_eq_true (by kernel_rfl)) k0 (fun z hz => hlt z (by simp [hz])) sp (fun z hz => hs z (by simp [hz]))) trodAll_mk0) (fun _ _ => rfl) (by simp) hb
  (ok_one (by kernel_rfl) rfl (okWide_bool_mk Tryz.underlying4 _))⟩

theorem differs_holds : Rows.ExtractorDiffersSaid :=
 OpenClaim.holds_of_wide 3 Tryz.f3 rfl rfl rfl rfl rfl rfl rfl ⟨rfl, rfl, rfl, rfl, rfl⟩ rfl rfl rfl rfl rfl (by kernel_rfl) Tryz.func3 (by kernel_rfl)
  (of_decide_eq_true (by kernel_rfl)) (by unfold Func.isWrapper; first | (rw [if_pos (by decide +kernel)]; kernel_rfl) | (rw [if_neg (by decide +kernel)]; exact ⟨rfl, rfl⟩))
  (fun os started H enc _ => differs_lifted os started H enc)

#print axioms differs_holds
end Go.Proofs.YtbcgimgkcdpjcaaGreat
end
