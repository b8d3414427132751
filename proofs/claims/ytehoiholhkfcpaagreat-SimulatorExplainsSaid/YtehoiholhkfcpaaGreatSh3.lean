import Derived.Test.YtehoiholhkfcpaaGreatSh8
import Derived.Test.YtehoiholhkfcpaaGreatSig7
set_option linter.unusedVariables false
set_option linter.unusedSimpArgs false
set_option maxRecDepth 100000
namespace Go.Proofs.YtehoiholhkfcpaaGreat
open Go.RowKit Go.Shelf

theorem Wdr.app {w : World} {g : Nat} {xs Z : Array Value} {n : Nat} (h : Blk w g 186 (xs ++ Z).toList) (hx : xs.toList.all isU32 = true) (hn : xs.toList.length = n) : Wdr w g n := by
 obtain ⟨f, hf⟩ := words_of _ n hx hn
 refine ⟨h.lt, fun j hj => ⟨f j, ?_⟩⟩
 rw [h.cell, Array.toList_append, List.getElem?_append_left (by omega), hf, u32f_get f hj]

/-- eight words in a new block -/
theorem wds8 (w : World) (a0 a1 a2 a3 a4 a5 a6 a7 : Int) : Wds (w.alloc (.cells #[.int .u32 a0, .int .u32 a1, .int .u32 a2, .int .u32 a3, .int .u32 a4, .int .u32 a5, .int .u32 a6, .int .u32 a7] 186)) w.heap.size 8 :=
 Wds.of (n := 8) (Blk.new w _ _) (by rfl) (by rfl)

set_option maxHeartbeats 40000000 in
theorem compress_x (s : ByteArray) (b c : Nat) (w : World) (hs : s.size = 64) (hS : Wdr w b 8) :
  Calls Tryz.prog 221 #[.slice (some ⟨b, 0, none⟩) 8 c, .string s] w fun e w' => ∃ g, e = .returned (.slice (some ⟨g, 0, none⟩) 8 8) ∧ Wdr w' g 8 ∧ Below w.heap.size w w' := by
 have HR6 : Hid (∀ x w, Calls Tryz.prog 225 #[.int .u32 x, .int .i64 6] w fun e w' => e = .returned (.int .u32 (rr x 6)) ∧ Below w.heap.size w w') := fun x w => right_c x 6 6 w rfl (by decide) (by decide)
 have HR11 : Hid (∀ x w, Calls Tryz.prog 225 #[.int .u32 x, .int .i64 11] w fun e w' => e = .returned (.int .u32 (rr x 11)) ∧ Below w.heap.size w w') := fun x w => right_c x 11 11 w rfl (by decide) (by decide)
 have HR25 : Hid (∀ x w, Calls Tryz.prog 225 #[.int .u32 x, .int .i64 25] w fun e w' => e = .returned (.int .u32 (rr x 25)) ∧ Below w.heap.size w w') := fun x w => right_c x 25 25 w rfl (by decide) (by decide)
 have HR2 : Hid (∀ x w, Calls Tryz.prog 225 #[.int .u32 x, .int .i64 2] w fun e w' => e = .returned (.int .u32 (rr x 2)) ∧ Below w.heap.size w w') := fun x w => right_c x 2 2 w rfl (by decide) (by decide)
 have HR13 : Hid (∀ x w, Calls Tryz.prog 225 #[.int .u32 x, .int .i64 13] w fun e w' => e = .returned (.int .u32 (rr x 13)) ∧ Below w.heap.size w w') := fun x w => right_c x 13 13 w rfl (by decide) (by decide)
 have HR22 : Hid (∀ x w, Calls Tryz.prog 225 #[.int .u32 x, .int .i64 22] w fun e w' => e = .returned (.int .u32 (rr x 22)) ∧ Below w.heap.size w w') := fun x w => right_c x 22 22 w rfl (by decide) (by decide)
 go_enter Tryz.func221, Tryz.ntmps221
 go_wp2_with fail
 refine (schedule_x s _ hs).mono ?_
 rintro e w2 ⟨gw_, rfl, hW, _, hb2⟩
 replace hS := hS.after hb2
 go_wp2_with fail
 refine (constants_x _).mono ?_
 rintro e w3 ⟨gk, rfl, hK, hb3⟩
 replace hS := hS.after hb3
 replace hW := hW.r.after hb3
 have hBW := bt hb2 hb3
 clear hb2 hb3
 obtain ⟨x0, h0⟩ := hS.2 0 (by omega)
 obtain ⟨x1, h1⟩ := hS.2 1 (by omega)
 obtain ⟨x2, h2⟩ := hS.2 2 (by omega)
 obtain ⟨x3, h3⟩ := hS.2 3 (by omega)
 obtain ⟨x4, h4⟩ := hS.2 4 (by omega)
 obtain ⟨x5, h5⟩ := hS.2 5 (by omega)
 obtain ⟨x6, h6⟩ := hS.2 6 (by omega)
 obtain ⟨x7, h7⟩ := hS.2 7 (by omega)
 have hl := hS.1
 go_wp2
 generalize (Question.appendCap 8 0 186).cut (w3.tape w3.drawn (Question.appendCap 8 0 186)) = cap
 generalize Builtin.zeroCells #[Value.int IntKind.u32 0] (cap - 8) = ZC
 have hV := Wdr.drew (Wdr.app (n := 8) (Blk.new (w3.alloc (.cells #[] 186)) (#[.int .u32 x0, .int .u32 x1, .int .u32 x2, .int .u32 x3, .int .u32 x4, .int .u32 x5, .int .u32 x6, .int .u32 x7] ++ ZC) 186) (by rfl) (by rfl))
 have hBV := (ba (b1 w3 (.cells #[] 186)) (.cells (#[.int .u32 x0, .int .u32 x1, .int .u32 x2, .int .u32 x3, .int .u32 x4, .int .u32 x5, .int .u32 x6, .int .u32 x7] ++ ZC) 186)).drew
 rw [World.size_alloc] at hV
 generalize ((w3.alloc (.cells #[] 186)).alloc (.cells (#[.int .u32 x0, .int .u32 x1, .int .u32 x2, .int .u32 x3, .int .u32 x4, .int .u32 x5, .int .u32 x6, .int .u32 x7] ++ ZC) 186)).drew = w4 at hV hBV ⊢
 replace hS := hS.after hBV
 replace hW := hW.after hBV
 replace hK := hK.after hBV
 replace hBW := bt hBW hBV
 generalize w3.heap.size + 1 = g0 at hV ⊢
 clear h0 h1 h2 h3 h4 h5 h6 h7 hl hBV
 have HS4 := Lib.hid hBW.size
 go_loopw [7, 8] (fun v i wr => ∃ (k g cc : Nat), k ≤ 64 ∧ i = .int .i64 k ∧ v = .slice (some ⟨g, 0, none⟩) 8 cc ∧ Wdr wr g 8 ∧ Hid (0 < k → cc = 8 ∧ Wds wr g 8 ∧ w4.heap.size ≤ g) ∧ Below w4.heap.size w4 wr) (fun _ i _ => 64 - (intOf i).toNat)
 case atStart => exact ⟨0, g0, cap, by omega, rfl, rfl, hV, fun h => absurd h (Nat.lt_irrefl 0), Below.refl _ _⟩
 case round =>
  clear hV
  obtain ⟨k, g, cc, hk, rfl, rfl, hV, HL, hbr⟩ := hrel
  obtain ⟨wp, hwp⟩ : ∃ wp, wp = wr := ⟨_, rfl⟩
  subst hwp
  by_cases hlt : k < 64
  ·have hKr := hK.after hbr
   have hWr := hW.after hbr
   clear HL
   obtain ⟨y0, c0⟩ := hV.2 0 (by omega)
   obtain ⟨y1, c1⟩ := hV.2 1 (by omega)
   obtain ⟨y2, c2⟩ := hV.2 2 (by omega)
   obtain ⟨y3, c3⟩ := hV.2 3 (by omega)
   obtain ⟨y4, c4⟩ := hV.2 4 (by omega)
   obtain ⟨y5, c5⟩ := hV.2 5 (by omega)
   obtain ⟨y6, c6⟩ := hV.2 6 (by omega)
   obtain ⟨y7, c7⟩ := hV.2 7 (by omega)
   obtain ⟨kk, ck⟩ := hKr.2 k hlt
   obtain ⟨wk, cw⟩ := hWr.2 k hlt
   have hVl := hV.1
   have hKl := hKr.1
   have hWl := hWr.1
   have k1 : (0 : Int) ≤ (k : Int) := by omega
   have k2 : (k : Int) < 64 := by omega
   go_upto_region 6 with fail
   go_cut [9, 10, 11, 12, 13, 14] (fun s9 s10 s11 s12 s13 s14 wc' => s9 = .int .u32 y0 ∧ s10 = .int .u32 y1 ∧ s11 = .int .u32 y2 ∧ s12 = .int .u32 y4 ∧ s13 = .int .u32 y5 ∧ s14 = .int .u32 y6 ∧ wc' = wp.drew)
   case first =>
    as_aux_lemma =>
    go_wp2_with fail
    go_region
    go_wp2_with fail
    go_meet
    exact ⟨rfl, rfl, rfl, rfl, rfl, rfl, rfl⟩
   case rest =>
   obtain ⟨rfl, rfl, rfl, rfl, rfl, rfl, rfl⟩ := hcut
   obtain ⟨cl, hcl⟩ : ∃ l : List (Addr × Value), l = [(⟨g, 7, none⟩, .int .u32 y7), (⟨gk, k, none⟩, .int .u32 kk), (⟨gw_, k, none⟩, .int .u32 wk)] := ⟨_, rfl⟩
   have HCL := Lib.hid hcl
   clear hcl
   have hC : CA wp.drew cl := by
    rw [HCL.out]
    exact CA.cons hVl c7 (CA.cons hKl ck (CA.cons hWl cw (CA.nil _)))
   have hbr2 := hbr.drew
   have hV2 := hV.drew
   clear c0 c1 c2 c4 c5 c6 c7 ck cw hKr hWr hV hVl hKl hWl c3
   generalize wp.drew = wx at hC hbr2 hV2 ⊢
   clear hbr
   go_upto_region 7 with fail
   go_cut [15] (fun s15 wc' => (∃ t, s15 = .int .u32 t) ∧ Below wx.heap.size wx wc')
   case first =>
    as_aux_lemma =>
    clear hbr2 hV2
    go_region_held3 (fun w' => w'.cell? ⟨g, 7, none⟩ = some (.int .u32 y7) ∧ w'.cell? ⟨gk, k, none⟩ = some (.int .u32 kk) ∧ w'.cell? ⟨gw_, k, none⟩ = some (.int .u32 wk)) ((refine CA.k3 ?_; rw [← HCL.out]; repeat (first | (with_reducible exact hC3) | (with_reducible exact hC2) | (with_reducible exact hC1) | (with_reducible exact hC) | (with_reducible refine CA.drew ?_))))
     (first | (go_at_call 225; (with_reducible refine (HR6.out _ _).mono ?_); rintro e wa ⟨rfl, hba⟩; have hC1 := hC.drew.after hba; have hA1 := (Below.drew (Below.refl wx.heap.size wx)).trans hba) | (go_at_call 225; (with_reducible refine (HR11.out _ _).mono ?_); rintro e wb ⟨rfl, hbb⟩; have hC2 := hC1.after hbb; have hA2 := bt hA1 hbb) | (go_at_call 225; (with_reducible refine (HR25.out _ _).mono ?_); rintro e wc ⟨rfl, hbc⟩; have hC3 := hC2.after hbc; have hA3 := bt hA2 hbc))
    go_wp2_with fail
    go_meet
    exact ⟨⟨_, rfl⟩, hA3⟩
   case rest =>
    obtain ⟨⟨t, rfl⟩, hbc⟩ := hcut
    obtain ⟨wy, hwy⟩ : ∃ wx, wx = wc := ⟨_, rfl⟩
    subst hwy
    replace hbr2 := bt hbr2 hbc
    replace hV2 := hV2.after hbc
    clear hbc hC HCL HR6 HR11 HR25
    go_upto_region 8 with fail
    go_cut [16] (fun s16 wc' => (∃ t, s16 = .int .u32 t) ∧ Below wy.heap.size wy wc')
    case first =>
     as_aux_lemma =>
     clear hbr2 hV2
     go_wp2_with fail
     refine (HR2.out _ _).mono ?_
     rintro e wa ⟨rfl, hba⟩
     go_wp2_with fail
     refine (HR13.out _ _).mono ?_
     rintro e wb ⟨rfl, hbb⟩
     go_wp2_with fail
     refine (HR22.out _ _).mono ?_
     rintro e wd ⟨rfl, hbd⟩
     have hb6 := bt hba (bt hbb hbd)
     generalize rr y0 2 = r2
     generalize rr y0 13 = r13
     generalize rr y0 22 = r22
     go_wp2_with fail
     go_meet
     exact ⟨⟨_, rfl⟩, hb6⟩
    case rest =>
     obtain ⟨⟨t2, rfl⟩, hbc⟩ := hcut
     obtain ⟨wd, hwd⟩ : ∃ wx, wx = wc := ⟨_, rfl⟩
     subst hwd
     replace hbr2 := bt hbr2 hbc
     replace hV2 := hV2.after hbc
     clear hbc HR2 HR13 HR22
     obtain ⟨z3, d3⟩ := hV2.2 3 (by omega)
     have hVl := hV2.1
     go_wp2
     go_roundw
     case rel =>
      refine ⟨k + 1, wd.heap.size, 8, by omega, by go_num, rfl, ?_, ?_, ?_⟩
      ·exact (wds8 wd _ _ _ _ _ _ _ _).r
      ·exact fun _ => ⟨rfl, wds8 wd _ _ _ _ _ _ _ _, hbr2.size⟩
      ·exact ba hbr2 _
     case measure => simp [intOf]; omega
  ·obtain rfl : k = 64 := by omega
   obtain ⟨rfl, hW8, hge⟩ := HL.out (by omega)
   have HGE := Lib.hid hge
   have hSr := hS.after hbr
   clear hV HL hge hK hW
   go_wp2
   go_loopw [17] (fun i wr => ∃ k : Nat, k ≤ 8 ∧ i = .int .i64 k ∧ Wds wr g 8 ∧ Below w4.heap.size w4 wr) (fun i _ => 8 - (intOf i).toNat)
   case atStart => exact ⟨0, by omega, rfl, hW8, hbr⟩
   case round =>
    clear hW8 hbr hlt hk hSr
    obtain ⟨k, hk, rfl, hW8, hbr⟩ := hrel
    obtain ⟨wp, hwp⟩ : ∃ wp, wp = wr := ⟨_, rfl⟩
    subst hwp
    by_cases hlt : k < 8
    ·have hSr := hS.after hbr
     obtain ⟨x, c1⟩ := hW8.at_ hlt
     obtain ⟨y, c2⟩ := hSr.2 k hlt
     have f1 := hW8.free k
     have l1 := hW8.lt
     have l2 := hSr.1
     have k1 : (0 : Int) ≤ (k : Int) := by omega
     have k2 : (k : Int) < 8 := by omega
     go_wp2_with fail
     go_region
     go_wp2
     go_roundw
     case rel => exact ⟨k + 1, by omega, by go_num, (hW8.set k _).drew, (hbr.setCell HGE.out _).drew⟩
     case measure => simp [intOf]; omega
    ·go_wp2
     go_ret
     exact ⟨_, rfl, hW8.r, bt hBW hbr⟩
end Go.Proofs.YtehoiholhkfcpaaGreat
