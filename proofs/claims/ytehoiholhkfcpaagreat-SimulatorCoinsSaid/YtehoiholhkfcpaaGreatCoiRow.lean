/- For every case (rule, statement, witness, challenge, numbers, tape), dominolaw17.SimulatorCoins returns true and its argument reads as it did: simulator.Coins returns the coins of the masks, or the error, of the reference. No condition. -/
import Derived.Test.YtehoiholhkfcpaaGreatArg7
set_option linter.unusedVariables false
set_option linter.unusedSimpArgs false
set_option maxRecDepth 100000
namespace Go.Proofs.YtehoiholhkfcpaaGreat
open Go.RowKit Go.WideShapes Go.ChangeShapes Go.ChangeAt Go.Joins Go.Deep
open Go.ChangeMaps (open_string shut_string)

theorem coins_c (S : Sta) (C K ch sd : ByteArray) (WL L : List (Bool × ByteArray)) (V : List ByteArray) (ti : Int) (s1 s2 s3 xw xl xt : Option Addr) (m1 m2 m3 d1 d2 d3 nw pw nl pl nt pt : Nat) (w : World)
  (hC : C.size ≤ 9223372036854775807) (hK : K.size ≤ 9223372036854775807) (hz : SSz S) (hS : StAt w (.slice s1 m1 d1) (.slice s2 m2 d2) (.slice s3 m3 d3) S)
  (hp : CSz WL L V ch sd) (hWl : IsAt w (.slice xw nw pw) WL) (hLl : IsAt w (.slice xl nl pl) L) (hVl : SsAt w (.slice xt nt pt) V) :
  Calls Tryz.prog 5 #[.agg #[.string C, .string K, .slice s1 m1 d1, .slice s2 m2 d2, .slice s3 m3 d3, .slice xw nw pw, .string ch, .slice xl nl pl, .slice xt nt pt, .string sd, .int .i64 ti]] w fun e w' => e = .returned (.bool true) ∧ Below w.heap.size w w' := by
 have HF := fun w' (hb : Below w.heap.size w w') => fewC_c S C K ch sd WL L V ti s1 s2 s3 xw xl xt m1 m2 m3 d1 d2 d3 nw pw nl pl nt pt w' hC hK hz (hS.after hb) hp (IsAt.after hWl hb) (IsAt.after hLl hb) (SsAt.after hVl hb)
 cases hr : caseB S C K ch sd WL L V
 ·rw [hr] at HF
  exact coins_big C K ch sd s1 s2 s3 xw xl xt m1 m2 m3 d1 d2 d3 nw pw nl pl nt pt ti w HF
 ·rw [hr] at HF
  obtain ⟨hC8, hK8, hf, hw1, hw2, hl1, hl2, hc8⟩ := caseB_inv hr
  obtain ⟨k, G, hG, h1, h2⟩ := coins_two S C K L _ _ _ _ w hC8 hK8 hf hS hl1 hl2 hLl
  exact coins_walk C K ch sd G k s1 s2 s3 xw xl xt m1 m2 m3 d1 d2 d3 nw pw nl pl nt pt ti w hG HF h1 h2

theorem coins_lifted (os : Os) (started : os.Started) (H : Type) (enc : TypeId × Value → H) :
  ReturnsInHanded {} Tryz.checked os 5 .any (Rows.simulatorCoinsSpec.pre6 enc Tryz.prog Tryz.f5 Rows.simulatorCoinsRow.domain false) (Rows.simulatorCoinsSpec.post enc Tryz.prog Tryz.f5 false true false false) := by
 refine returnsInHanded_of_change (C := Tryz.checked) own_knob started (by kernel_rfl) Tryz.func5
  (ChangeSpec.witness6 (enc := enc) (C := Tryz.checked) false ⟨#[], #[.agg #[.string ⟨#[]⟩, .string ⟨#[]⟩, .slice none 0 0, .slice none 0 0, .slice none 0 0, .slice none 0 0, .string ⟨#[]⟩, .slice none 0 0, .slice none 0 0, .string ⟨#[]⟩, .int .i64 0]], []⟩ 8 (by kernel_rfl) (by kernel_rfl) (by kernel_rfl) (by kernel_rfl)) ?_
 intro W base args ds gs before hval0 hW _ _
 have hval : ∀ (j : Nat) t v, Tryz.f5.params[j]? = some t → args[j]? = some v → Value.okWide Tryz.prog W .any base t v := hval0
 have hW' := hW
 obtain ⟨p, q, hA0, hV, rfl, _, _⟩ := hW
 have hA : DataW.TrodAll enc Tryz.prog W 0 (fun _ => true) true Tryz.f5.params.toList args.toList ds p := hA0
 rw [Tryz.params5] at hA hval
 obtain ⟨v0, vs0, d0, ds0, p0, q0, hargs, rfl, rfl, h0, r0⟩ := trodAll_cons hA
 obtain ⟨rfl, rfl, rfl⟩ := trodAll_nil r0
 obtain rfl : args = #[v0] := by cases args; simp_all
 obtain ⟨rfl, rfl⟩ := trodVars_none hV
 simp only [List.append_nil] at hW'
 have hlt : ∀ x ∈ p0, x.block < W.heap.size := fun x hx => hW'.lt x (by simpa using hx)
 have k0 := h0
 obtain ⟨C, K, ch, sd, S, WL, L, V, ti, s1, s2, s3, xw, xl, xt, m1, m2, m3, d1, d2, d3, nw, pw, nl, pl, nt, pt, rfl, hC, hK, hz, hS, hp, hWl, hLl, hVl⟩ := open_case (hval 0 35 v0 rfl rfl) h0
 clear hA0 hval0 hA r0 h0
 refine (coins_c S C K ch sd WL L V ti s1 s2 s3 xw xl xt m1 m2 m3 d1 d2 d3 nw pw nl pl nt pt W hC hK hz hS hp hWl hLl hVl).mono fun en W' hh => ?_
 obtain ⟨rfl, hb⟩ := hh
 have stay : ∀ {t : TypeId} (hr : Tryz.prog.readableRec t = true) (hrow : t < Tryz.prog.types.size) {v : Value} {d : DataW H} {ps : List MemPlace} (h : DataW.Trod enc Tryz.prog W 0 (fun _ => true) true t v d ps) (hl : ∀ z ∈ ps, z.block < W.heap.size) (sp : Nat → Bool) (hs : ∀ z ∈ ps, sp z.block = true), DataW.Trod enc Tryz.prog W' 0 sp true t v d ps :=
  fun hr hrow _ _ _ h hl sp hs => WideElems.Trod_stays laid_out hr hrow h (fun z hz => hb.same (hl z hz)) hs
 exact ⟨_, rfl, post_of_below (pa := p0 ++ []) (pv := []) hW' (fun _ _ _ => trodAll_cons_mk (shut_bool Tryz.underlying4 _) trodAll_mk0)
  (fun sp hs => trodAll_cons_mk (stay (by kernel_rfl) (of_decide_eq_true (by kernel_rfl)) k0 (fun z hz => hlt z (by simp [hz])) sp (fun z hz => hs z (by simp [hz]))) trodAll_mk0) (fun _ _ => rfl) (by simp) hb
  (ok_one (by kernel_rfl) rfl (okWide_bool_mk Tryz.underlying4 _))⟩

theorem coins_holds : Rows.SimulatorCoinsSaid :=
 OpenClaim.holds_of_wide 5 Tryz.f5 rfl rfl rfl rfl rfl rfl rfl ⟨rfl, rfl, rfl, rfl, rfl⟩ rfl rfl rfl rfl rfl (by kernel_rfl) Tryz.func5 (by kernel_rfl)
  (of_decide_eq_true (by kernel_rfl)) (by unfold Func.isWrapper; first | (rw [if_pos (by decide +kernel)]; kernel_rfl) | (rw [if_neg (by decide +kernel)]; exact ⟨rfl, rfl⟩))
  (fun os started H enc _ => coins_lifted os started H enc)

end Go.Proofs.YtehoiholhkfcpaaGreat
