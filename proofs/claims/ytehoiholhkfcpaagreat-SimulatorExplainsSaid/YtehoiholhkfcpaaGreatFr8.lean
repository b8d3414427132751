import Derived.Test.YtehoiholhkfcpaaGreatSh8
import Derived.Test.YtehoiholhkfcpaaGreatSm4
import Derived.Test.YtehoiholhkfcpaaGreatArg7
import Derived.Test.YtehoiholhkfcpaaGreatRm4
section
set_option linter.unusedVariables false
set_option linter.unusedSimpArgs false
set_option maxRecDepth 100000
namespace Go.Proofs.YtehoiholhkfcpaaGreat
open Go.RowKit Go.Shelf

theorem SsAt.app {w : World} {base cap g : Nat} {V : List ByteArray} (h : w.ownsRow base 22 1 (.slice (some ⟨g, 0, none⟩) V.length cap) V.length (V.map .string)) : SsAt w (.slice (some ⟨g, 0, none⟩) V.length cap) V := by
 refine ⟨_, _, rfl, ?_⟩
 by_cases h0 : V.length = 0
 ·exact .inl h0
 ·refine .inr ⟨g, 0, rfl, (own_cap h).1, fun j hj => ⟨[.string V[j]], rfl, fun i hi => ?_⟩⟩
  obtain rfl : i = 0 := by omega
  have := own_cellS h j (.string V[j]) (by simp [hj])
  simpa using this

theorem SsAt.set_other {w : World} {g n c g2 i : Nat} {x : Value} {V : List ByteArray} (h : SsAt w (.slice (some ⟨g, 0, none⟩) n c) V) (hne : g ≠ g2) : SsAt (w.setCell ⟨g2, i, none⟩ x) (.slice (some ⟨g, 0, none⟩) n c) V := by
 obtain ⟨ao, c', e, h⟩ := h
 refine ⟨ao, c', e, ?_⟩
 rcases h with h | ⟨b, o, h1, h2, h3⟩
 ·exact .inl h
 ·subst h1
  injection e with e1 e2 e3
  injection e1 with e1
  injection e1 with e4 e5 e6
  refine .inr ⟨b, o, rfl, by simpa using h2, fun j hj => ?_⟩
  obtain ⟨cs, hq, hc⟩ := h3 j hj
  refine ⟨cs, hq, fun i2 hi => ?_⟩
  rw [← hc i2 hi]
  exact World.cell?_of_block (heap_setCell_other w ⟨g2, i, none⟩ b x (fun e => hne (by rw [e4]; exact e)))

theorem SsAt.set_far {w : World} {g i : Nat} {v x : Value} {V : List ByteArray} (h : SsAt w v V) (hf : FarS v g) : SsAt (w.setCell ⟨g, i, none⟩ x) v V := by
 obtain ⟨ao, c', rfl, h⟩ := h
 refine ⟨ao, c', rfl, ?_⟩
 by_cases h0 : V.length = 0
 ·exact .inl h0
 rcases h with h | ⟨b, o, rfl, h2, h3⟩
 ·exact .inl h
 ·refine .inr ⟨b, o, rfl, by simpa using h2, fun j hj => ?_⟩
  obtain ⟨cs, hq, hc⟩ := h3 j hj
  refine ⟨cs, hq, fun i2 hi => ?_⟩
  rw [← hc i2 hi]
  exact World.cell?_of_block (heap_setCell_other w ⟨g, i, none⟩ b x (fun e => hf _ _ _ _ rfl h0 e))

set_option exponentiation.threshold 600 in
set_option maxHeartbeats 6400000 in
theorem draw_x (hc : HCmp) (V : List ByteArray) (v : Value) (sd : ByteArray) (ti n : Nat) (w : World) (hn : V.length ≤ 100) (hs : ∀ x ∈ V, x.size ≤ 24) (hv : V.all vldB = true) (hsd : sd.size ≤ 60) (ht : ti ≤ 2147483647) (h1 : 1 ≤ n) (h2 : n < 256 ^ 64) (hV : SsAt w v V) :
  Calls Tryz.prog 118 #[.agg #[v, .string sd, .int .i64 (ti : Int)], .string (E n)] w (DrPost w n) := by
 obtain ⟨i0, hi0, hz00, hz01, hz02⟩ := info_parts info_nat
 have HI0 := Lib.hid hi0
 have HA0 := Lib.hid hz00
 have HB0 := Lib.hid hz01
 have HC0 := Lib.hid hz02
 clear hi0 hz00 hz01 hz02
 obtain ⟨ao, c, rfl⟩ := RAt.form hV
 obtain ⟨m, hm⟩ : ∃ m, V.length = m := ⟨_, rfl⟩
 have HM := Lib.hid hm
 rw [hm] at hV hn ⊢
 clear hm
 have hP := Blk.new w #[.slice ao m c, .string sd, .int .i64 (ti : Int)] 33
 have hBW := b1 w (.cells #[.slice ao m c, .string sd, .int .i64 (ti : Int)] 33)
 obtain ⟨hPc0, hPf0, hPc1, hPf1, hPc2, hPf2⟩ := hP.x3
 go_enter Tryz.func118, Tryz.ntmps118
 go_upto_region 2 with fail
 clear hPc0 hPf0 hPc1 hPf1 hPc2 hPf2
 clear hP hBW
 have hP := blk3a w #[.slice ao m c, .string sd, .int .i64 (ti : Int)] #[.slice none 0 0, .string ⟨#[]⟩, .int .i64 0] #[.slice none 0 0, .string sd, .int .i64 ((ti : Int) + 1)] 33 33 33
 have hR := blk3b w #[.slice ao m c, .string sd, .int .i64 (ti : Int)] #[.slice none 0 0, .string ⟨#[]⟩, .int .i64 0] #[.slice none 0 0, .string sd, .int .i64 ((ti : Int) + 1)] 33 33 33
 have hX := blk3c w #[.slice ao m c, .string sd, .int .i64 (ti : Int)] #[.slice none 0 0, .string ⟨#[]⟩, .int .i64 0] #[.slice none 0 0, .string sd, .int .i64 ((ti : Int) + 1)] 33 33 33
 have hBW := b3 w (.cells #[.slice ao m c, .string sd, .int .i64 (ti : Int)] 33) (.cells #[.slice none 0 0, .string ⟨#[]⟩, .int .i64 0] 33) (.cells #[.slice none 0 0, .string sd, .int .i64 ((ti : Int) + 1)] 33)
 have hV3 := SsAt.after hV hBW
 generalize (((w.alloc (.cells #[.slice ao m c, .string sd, .int .i64 (ti : Int)] 33)).alloc (.cells #[.slice none 0 0, .string ⟨#[]⟩, .int .i64 0] 33)).alloc (.cells #[.slice none 0 0, .string sd, .int .i64 ((ti : Int) + 1)] 33)) = w3 at hP hR hX hBW hV3 ⊢
 obtain ⟨gP, hgP⟩ : ∃ g, w.heap.size = g := ⟨_, rfl⟩
 obtain ⟨gR, hgR⟩ : ∃ g, w.heap.size + 1 = g := ⟨_, rfl⟩
 obtain ⟨gX, hgX⟩ : ∃ g, w.heap.size + 1 + 1 = g := ⟨_, rfl⟩
 have hgX2 : w.heap.size + 2 = gX := hgX
 rw [hgR] at hR
 rw [hgX2] at hX
 have HGX : Hid (w.heap.size ≤ gX ∧ gP ≠ gX ∧ gR ≠ gX ∧ w.heap.size ≤ gR) := by unfold Hid; omega
 rw [hgX, hgR, hgP]
 rw [hgP] at hP
 clear hgX2 hgX hgR hgP
 replace hP : Blk w3 gP 33 [.slice ao m c, .string sd, .int .i64 (ti : Int)] := hP
 replace hR : Blk w3 gR 33 [.slice none 0 0, .string ⟨#[]⟩, .int .i64 0] := hR
 replace hX : Blk w3 gX 33 [.slice none 0 0, .string sd, .int .i64 ((ti : Int) + 1)] := hX
 go_cut [20] (fun s20 wx => ∃ u, Blk wx gX 33 [u, .string sd, .int .i64 ((ti : Int) + 1)] ∧ Blk wx gP 33 [.slice ao m c, .string sd, .int .i64 (ti : Int)] ∧ Blk wx gR 33 [.slice none 0 0, .string ⟨#[]⟩, .int .i64 0] ∧ SsAt wx u V ∧ FarS u gR ∧ (∀ b, b < w.heap.size → FarS u b) ∧ SsAt wx (.slice ao m c) V ∧ Below w.heap.size w wx)
 case first =>
  as_aux_lemma =>
  by_cases h0 : m = 0
  ·subst h0
   have hVV : V = [] := List.length_eq_zero_iff.1 HM.out
   have HV0 := Lib.hid hVV
   clear hVV
   obtain ⟨hPc0, hPf0, hPc1, hPf1, hPc2, hPf2⟩ := hP.x3
   obtain ⟨hXc0, hXf0, hXc1, hXf1, hXc2, hXf2⟩ := hX.x3
   have hxs := hX.set 0 (.slice none 0 0)
   cases ao with
   | none =>
    go_wp2
    clear hPc0 hPf0 hPc1 hPf1 hPc2 hPf2
    clear hXc0 hXf0 hXc1 hXf1 hXc2 hXf2
    go_meet
    exact ⟨_, hxs, hP.other _ _ HGX.out.2.1, hR.other _ _ HGX.out.2.2.1, by rw [HV0.out]; exact ss_nil _, (fun _ _ _ _ h => nomatch h), (fun _ _ _ _ _ _ h => nomatch h), SsAt.after hV (hBW.setCell HGX.out.1 _), hBW.setCell HGX.out.1 _⟩
   | some a0 =>
    go_wp2
    clear hPc0 hPf0 hPc1 hPf1 hPc2 hPf2
    clear hXc0 hXf0 hXc1 hXf1 hXc2 hXf2
    go_meet
    exact ⟨_, hxs, hP.other _ _ HGX.out.2.1, hR.other _ _ HGX.out.2.2.1, by rw [HV0.out]; exact ss_nil _, (fun _ _ _ _ h => nomatch h), (fun _ _ _ _ _ _ h => nomatch h), SsAt.after hV (hBW.setCell HGX.out.1 _), hBW.setCell HGX.out.1 _⟩
  ·obtain ⟨ao', c', hv', hcs⟩ := hV3
   have hml : V.length ≠ 0 := by rw [HM.out]; exact h0
   rcases hcs with hcs | ⟨b, o, rfl, hb, hcs⟩
   ·exact absurd hcs hml
   ·injection hv' with e1 e2 e3
    subst e1 e3
    have hnews : ∀ j u, (V.map Value.string)[j]? = some u → w3.cell? ((⟨b, o, none⟩ : Addr).add j) = some u := fun j u hj => by
     rw [List.getElem?_map] at hj
     by_cases hjl : j < V.length
     ·obtain ⟨cs, hq, hc⟩ := hcs j hjl
      rw [List.getElem?_eq_getElem hjl] at hj
      have h := hc 0 (by omega)
      rw [show (⟨b, o, none⟩ : Addr).add j = ⟨b, o + j * 1 + 0, none⟩ by rw [Addr.add_lit]; simp, h, hq]
      simpa using hj
     ·rw [List.getElem?_eq_none (by omega)] at hj; simp at hj
    have HNW := Lib.hid hnews
    clear hnews hcs e2
    obtain ⟨hPc0, hPf0, hPc1, hPf1, hPc2, hPf2⟩ := hP.x3
    obtain ⟨hXc0, hXf0, hXc1, hXf1, hXc2, hXf2⟩ := hX.x3
    go_wp2_with (at_builtin; refine wpList_append_lies _ rfl (.tmp 17) (.tmp 19) _ rfl w.heap.size 22 i0 _ 1 16 Tryz.underlying31 HI0.out HA0.out HB0.out HC0.out rfl (by omega) (.slice none 0 0) 0 [] rfl (World.ownsRow_nil _ _ _ _) ⟨b, o, none⟩ m c (V.map Value.string) rfl (by rw [List.length_map, HM.out]; omega) HNW.out (by intro u hu; obtain ⟨x, _, rfl⟩ := List.mem_map.1 hu; rfl) (by omega) (by simp only [maxLen]; omega) (by omega) hBW.size w3.heap.size rfl ?_; intro ga ca wz hown hgrow hat hlt2; have hXz := Blk.grown hX hgrow (by simp [Value.ownBlock]); have hz0 := hXz.cell 0; have hf0 := hXz.free 0)
    clear hPc0 hPf0 hPc1 hPf1 hPc2 hPf2
    clear hXc0 hXf0 hXc1 hXf1 hXc2 hXf2
    go_meet
    have hPz := Blk.grown hP hgrow (by simp [Value.ownBlock])
    have hRz := Blk.grown hR hgrow (by simp [Value.ownBlock])
    have hbz := hBW.grown hgrow hBW.size (fun x hx => by simp [Value.ownBlock] at hx)
    have hVo : SsAt wz (.slice (some ⟨ga, 0, none⟩) m ca) V := by
     rw [Nat.zero_add, List.nil_append] at hown
     rw [← HM.out] at hown ⊢
     exact SsAt.app hown
    have hgz : ga ≠ gX := fun e => by
     rcases hat with h | h
     ·simp [Value.ownBlock] at h
     ·have := hX.lt; omega
    have hgr : ga ≠ gR := fun e => by
     rcases hat with h | h
     ·simp [Value.ownBlock] at h
     ·have := hR.lt; omega
    have hgw : ¬ ga < w.heap.size := fun e => by
     rcases hat with h | h
     ·simp [Value.ownBlock] at h
     ·have := hBW.size; omega
    exact ⟨_, hXz.set 0 _, hPz.other _ _ HGX.out.2.1, hRz.other _ _ HGX.out.2.2.1, hVo.set_other hgz, (fun _ _ _ _ h _ => by injection h with h; injection h with h; injection h with h; rw [← h]; exact hgr), (fun b hb _ _ _ _ h _ => by injection h with h; injection h with h; injection h with h; rw [← h]; exact fun e => by subst e; exact hgw hb), SsAt.after hV (hbz.setCell HGX.out.1 _), hbz.setCell HGX.out.1 _⟩
 case rest =>
  as_aux_lemma =>
  obtain ⟨u, hX, hP, hR, hU, hFU, hFW, hV3, hBW⟩ := hcut
  obtain ⟨wx, hwx⟩ : ∃ wx, wx = wc := ⟨_, rfl⟩
  subst hwx
  clear hV
  obtain ⟨uo, uc, rfl⟩ := RAt.form hU
  rw [HM.out] at hU hX hFU hFW
  have HFW := Lib.hid hFW
  clear hFW
  have HHV : Hid (∀ k (h : k < V.length), ∃ x, x < 256 ^ 24 ∧ V[k]'h = E x) := fun k h => by
   have h1 := (List.all_eq_true.1 hv) _ (List.getElem_mem h)
   have h2 := hs _ (List.getElem_mem h)
   obtain ⟨x, hx, e⟩ := of_vldB h1
   rw [e] at h2
   exact ⟨x, lt_of_size h2, e⟩
  have HUU : Hid (∀ (w' : World) (i j k : Nat) (x y z : Value), Below wx.heap.size wx w' → TpAt (((w'.setCell ⟨gR, i, none⟩ x).setCell ⟨gR, j, none⟩ y).setCell ⟨gR, k, none⟩ z).drew (.agg #[.slice uo m uc, .string sd, .int .i64 ((ti : Int) + 1)])) := fun w' i j k x y z hb => ⟨_, V, sd, _, rfl, SsAt.after ((((SsAt.after hU hb).set_far hFU).set_far hFU).set_far hFU) (Below.drew (Below.refl _ _)), by rw [HM.out]; omega, hs, hsd⟩
  clear hs hv hU
  by_cases htm : ti < m
  ·have hkl : ti < V.length := by rw [HM.out]; exact htm
   obtain ⟨b, o, rfl, hb, hc1⟩ := SsAt.at_ hV3 hkl
   obtain ⟨x, hx, hxe⟩ := HHV.out ti hkl
   rw [hxe] at hc1
   have HCM : Hid (∀ w, Calls Tryz.prog 138 #[.string (E x), .string (E n)] w fun e w' => e = .returned (.int .i64 (cmpN x n)) ∧ Below w.heap.size w w') := fun w => rcmp_c x n w (Nat.lt_of_lt_of_le hx (Nat.pow_le_pow_right (by decide) (by decide))) (Nat.lt_of_lt_of_le h2 (Nat.pow_le_pow_right (by decide) (by decide)))
   have HXE := Lib.hid hxe
   clear hxe
   have t0 : (0 : Int) ≤ (ti : Int) := by omega
   have t1 : (ti : Int) < (m : Int) := by omega
   obtain ⟨q, hq⟩ : ∃ q : Int, q = cmpN x n := ⟨_, rfl⟩
   rw [← hq] at HCM
   obtain ⟨hPc0, hPf0, hPc1, hPf1, hPc2, hPf2⟩ := hP.x3
   obtain ⟨hRc0, hRf0, hRc1, hRf1, hRc2, hRf2⟩ := hR.x3
   obtain ⟨hXc0, hXf0, hXc1, hXf1, hXc2, hXf2⟩ := hX.x3
   go_wp2_with fail
   refine (HCM.out _).mono ?_
   rintro e w4 ⟨rfl, hb4⟩
   clear hPc0 hPf0 hPc1 hPf1 hPc2 hPf2
   clear hRc0 hRf0 hRc1 hRf1 hRc2 hRf2
   clear hXc0 hXf0 hXc1 hXf1 hXc2 hXf2
   replace hBW := bt hBW hb4
   replace hP := hP.after hb4
   replace hR := hR.after hb4
   replace hX := hX.after hb4
   replace hV3 := SsAt.after hV3 hb4
   have HU4 : Hid (∀ (i j k : Nat) (x y z : Value), TpAt (((w4.setCell ⟨gR, i, none⟩ x).setCell ⟨gR, j, none⟩ y).setCell ⟨gR, k, none⟩ z).drew (.agg #[.slice uo m uc, .string sd, .int .i64 ((ti : Int) + 1)])) := fun i j k x y z => HUU.out w4 i j k x y z hb4
   clear HUU hb4 hc1 hb HCM
   by_cases hq0 : 0 ≤ q
   ·have d1 : decide (0 ≤ q) = true := decide_eq_true hq0
    clear hq
    have hRl := hR.lt
    obtain ⟨hRc0, hRf0, hRc1, hRf1, hRc2, hRf2⟩ := hR.x3
    go_wp2
    refine bodyPost_ret (v := .tuple #[.string ⟨#[]⟩, .agg #[.slice none 0 0, .string ⟨#[]⟩, .int .i64 0], .int .i64 2]) ?_ rfl ⟨_, _, 2, rfl, TpAt.zero _, TFar.zero _ _ _, fun h => absurd h (by decide), ((hBW.setCell HGX.out.2.2.2 _).setCell HGX.out.2.2.2 _).setCell HGX.out.2.2.2 _⟩
    simp [results, Tryz.results118, go_sem, hRc0, hRc1, hRc2, hRl]
   ·have d1 : decide (0 ≤ q) = false := decide_eq_false hq0
    have HXN : Hid (x < n) := by
     rw [Hid]
     apply Classical.byContradiction
     intro hge
     have := cmp_nneg x n (by omega)
     rw [← hq] at this
     omega
    clear hq hq0
    obtain ⟨b', o', e', hb, hc1⟩ := SsAt.at_ hV3 hkl
    injection e' with e'
    injection e' with e1 e2 e3
    subst e1 e2
    clear e3
    rw [HXE.out] at hc1
    have hRl := hR.lt
    have hXl := hX.lt
    have hPl := hP.lt
    obtain ⟨hPc0, hPf0, hPc1, hPf1, hPc2, hPf2⟩ := hP.x3
    obtain ⟨hRc0, hRf0, hRc1, hRf1, hRc2, hRf2⟩ := hR.x3
    obtain ⟨hXc0, hXf0, hXc1, hXf1, hXc2, hXf2⟩ := hX.x3
    go_wp2_with fail
    go_region
    go_wp2
    refine bodyPost_ret (v := .tuple #[.string (E x), .agg #[.slice uo m uc, .string sd, .int .i64 ((ti : Int) + 1)], .int .i64 0]) ?_ rfl ⟨_, _, 0, rfl, HU4.out _ _ _ _ _ _, TFar.of HFW.out, fun _ => ⟨x, HXN.out, rfl⟩, (((hBW.setCell HGX.out.2.2.2 _).setCell HGX.out.2.2.2 _).setCell HGX.out.2.2.2 _).drew⟩
    simp [results, Tryz.results118, go_sem, hRc0, hRc1, hRc2, hRl]
  ·have h2' : n < 256 ^ 128 := Nat.lt_of_lt_of_le h2 (Nat.pow_le_pow_right (by decide) (by decide))
   have HBI : Hid (∀ w, Calls Tryz.prog 163 #[.string (E n)] w fun e w' => e = .returned (.int .i64 (nb n)) ∧ w' = w) := fun w => (rBits_c n w h2').mono fun e w' h => ⟨h.1, h.2.symm⟩
   have HAT : Hid (∀ (a : Nat) (w : World), a < 256 → Calls Tryz.prog 162 #[.string sd, .int .i64 (ti : Int), .int .i64 (a : Int), .int .i64 (nb n)] w fun e w' => ∃ x : Nat, e = .returned (.string (E x)) ∧ x < 256 ^ 64 ∧ Below w.heap.size w w') := fun a w ha => by
    have hb1 := nb_pos n (by omega)
    have hb2 : nb n ≤ 512 := by
     apply Classical.byContradiction
     intro hc
     have h3 := nb_low n (by omega)
     have h5 : (2 : Nat) ^ (8 * 64) ≤ 2 ^ (nb n - 1) := Nat.pow_le_pow_right (by decide) (by omega)
     rw [Nat.pow_mul] at h5
     exact Nat.lt_irrefl _ (Nat.lt_of_lt_of_le h2 (Nat.le_trans h5 h3))
    refine (attempt_x hc sd ti a (nb n) w (by omega) ht ha hb1 hb2).mono ?_
    rintro e w' ⟨t, rfl, ht1, ht2, hb⟩
    obtain ⟨x, hx, rfl⟩ := numk ht2 ht1
    exact ⟨x, rfl, hx, hb⟩
   have HCM : Hid (∀ (x : Nat) (w : World), x < 256 ^ 64 → Calls Tryz.prog 138 #[.string (E x), .string (E n)] w fun e w' => e = .returned (.int .i64 (cmpN x n)) ∧ Below w.heap.size w w') := fun x w hx => rcmp_c x n w (Nat.lt_of_lt_of_le hx (Nat.pow_le_pow_right (by decide) (by decide))) h2'
   have t1 : ¬ (ti : Int) < (m : Int) := by omega
   have d1 : decide ((ti : Int) < (m : Int)) = false := decide_eq_false t1
   clear h2 h2' hc hV3
   have hRl := hR.lt
   by_cases hs0 : sd.size = 0
   ·obtain rfl : sd = ByteArray.empty := by apply ByteArray.ext; apply Array.eq_empty_of_size_eq_zero; exact hs0
    obtain ⟨hPc0, hPf0, hPc1, hPf1, hPc2, hPf2⟩ := hP.x3
    obtain ⟨hRc0, hRf0, hRc1, hRf1, hRc2, hRf2⟩ := hR.x3
    go_wp2
    refine bodyPost_ret (v := .tuple #[.string ⟨#[]⟩, .agg #[.slice none 0 0, .string ⟨#[]⟩, .int .i64 0], .int .i64 14]) ?_ rfl ⟨_, _, 14, rfl, TpAt.zero _, TFar.zero _ _ _, fun h => absurd h (by decide), ((hBW.setCell HGX.out.2.2.2 _).setCell HGX.out.2.2.2 _).setCell HGX.out.2.2.2 _⟩
    simp [results, Tryz.results118, go_sem, hRc0, hRc1, hRc2, hRl]
   ·have hne := nz_str (s := sd) (by omega)
    by_cases htx : ti = 2147483647
    ·subst htx
     obtain ⟨hPc0, hPf0, hPc1, hPf1, hPc2, hPf2⟩ := hP.x3
     obtain ⟨hRc0, hRf0, hRc1, hRf1, hRc2, hRf2⟩ := hR.x3
     go_wp2
     refine bodyPost_ret (v := .tuple #[.string ⟨#[]⟩, .agg #[.slice none 0 0, .string ⟨#[]⟩, .int .i64 0], .int .i64 14]) ?_ rfl ⟨_, _, 14, rfl, TpAt.zero _, TFar.zero _ _ _, fun h => absurd h (by decide), ((hBW.setCell HGX.out.2.2.2 _).setCell HGX.out.2.2.2 _).setCell HGX.out.2.2.2 _⟩
     simp [results, Tryz.results118, go_sem, hRc0, hRc1, hRc2, hRl]
    ·have htb : ((ti : Int) == 2147483647) = false := by rw [beq_eq_false_iff_ne]; omega
     have hXl := hX.lt
     have hPl := hP.lt
     obtain ⟨hPc0, hPf0, hPc1, hPf1, hPc2, hPf2⟩ := hP.x3
     go_wp2
     clear hPc0 hPf0 hPc1 hPf1 hPc2 hPf2
     go_loopw [8, 9] (fun i v wr => ∃ a : Nat, a ≤ 256 ∧ i = .int .i64 (a : Int) ∧ Below wx.heap.size wx wr) (fun i _ _ => 256 - (intOf i).toNat)
     case atStart => exact ⟨0, by omega, rfl, Below.refl _ _⟩
     case round =>
      clear hRl hXl hPl
      obtain ⟨a, ha, rfl, hbr⟩ := hrel
      obtain ⟨wp, hwp⟩ : ∃ wp, wp = wr := ⟨_, rfl⟩
      subst hwp
      by_cases hlt : a < 256
      ·have hPr := hP.after hbr
       have HATk := Lib.hid (fun w => HAT.out a w hlt)
       obtain ⟨cl, hcl⟩ : ∃ l : List (Addr × Value), l = [(⟨gP, 1, none⟩, .string sd), (⟨gP, 2, none⟩, .int .i64 (ti : Int))] := ⟨_, rfl⟩
       have HCL := Lib.hid hcl
       clear hcl
       have hC : CA wp cl := by
        rw [HCL.out]
        exact CA.cons hPr.lt (hPr.cell 1) (CA.cons hPr.lt (hPr.cell 2) (CA.nil _))
       go_upto_region 12 with fail
       go_cut [9] (fun s9 wc' => (∃ x : Nat, s9 = .string (E x) ∧ x < 256 ^ 64) ∧ Below wp.heap.size wp wc')
       case first =>
        as_aux_lemma =>
        clear hPr hP hX hR hBW HCM hbr
        go_region_held3 (fun w' => w'.cell? ⟨gP, 1, none⟩ = some (.string sd) ∧ w'.cell? ⟨gP, 2, none⟩ = some (.int .i64 (ti : Int))) ((refine CA.k2 ?_; rw [← HCL.out]; repeat (first | (with_reducible exact hC1) | (with_reducible exact hC) | (with_reducible refine CA.drew ?_))))
         (first | (go_at_call 163; (with_reducible refine (HBI.out _).mono ?_); rintro e wa ⟨rfl, rfl⟩) | (go_at_call 162; (with_reducible refine (HATk.out _).mono ?_); rintro e wb ⟨y, rfl, hy, hbb⟩; have hC1 := hC.drew.after hbb; have hA1 := (Below.drew (Below.refl wp.heap.size wp)).trans hbb))
        go_wp2_with fail
        go_meet
        exact ⟨⟨_, rfl, hy⟩, hA1⟩
       case rest =>
        as_aux_lemma =>
        obtain ⟨⟨y, rfl, hy⟩, hbc⟩ := hcut
        obtain ⟨wy, hwy⟩ : ∃ wx, wx = wc := ⟨_, rfl⟩
        subst hwy
        replace hbr := bt hbr hbc
        clear hC hPr hbc
        go_wp2_with fail
        refine (HCM.out y _ hy).mono ?_
        rintro e w4 ⟨rfl, hb4⟩
        replace hbr := bt hbr hb4
        clear hb4 HCM
        obtain ⟨q, hq⟩ : ∃ q : Int, q = cmpN y n := ⟨_, rfl⟩
        rw [← hq]
        by_cases hq0 : q < 0
        ·have dq : decide (q < 0) = true := decide_eq_true hq0
         have HXN : Hid (y < n) := by
          rw [Hid]
          apply Classical.byContradiction
          intro hge
          have := cmp_nneg y n (by omega)
          rw [← hq] at this
          exact this hq0
         clear hq hq0
         have hRr := hR.after hbr
         have hXr := hX.after hbr
         have hbw := bt hBW hbr
         have hRl := hRr.lt
         have hXl := hXr.lt
         obtain ⟨hRrc0, hRrf0, hRrc1, hRrf1, hRrc2, hRrf2⟩ := hRr.x3
         obtain ⟨hXrc0, hXrf0, hXrc1, hXrf1, hXrc2, hXrf2⟩ := hXr.x3
         go_wp2_with fail
         go_region
         go_wp2
         refine bodyPost_ret (v := .tuple #[.string (E y), .agg #[.slice uo m uc, .string sd, .int .i64 ((ti : Int) + 1)], .int .i64 0]) ?_ rfl ⟨_, _, 0, rfl, HUU.out w4 _ _ _ _ _ _ hbr, TFar.of HFW.out, fun _ => ⟨y, HXN.out, rfl⟩, (((hbw.setCell HGX.out.2.2.2 _).setCell HGX.out.2.2.2 _).setCell HGX.out.2.2.2 _).drew⟩
         simp [results, Tryz.results118, go_sem, hRrc0, hRrc1, hRrc2, hRl]
        ·have dq : decide (q < 0) = false := decide_eq_false hq0
         clear hq hq0
         go_wp2
         go_roundw
         case rel => exact ⟨a + 1, by omega, by go_num, hbr⟩
         case measure => simp [intOf]; omega
      ·have hRr := hR.after hbr
       have hbw := bt hBW hbr
       have hRl := hRr.lt
       obtain ⟨hRrc0, hRrf0, hRrc1, hRrf1, hRrc2, hRrf2⟩ := hRr.x3
       go_wp2
       refine bodyPost_ret (v := .tuple #[.string ⟨#[]⟩, .agg #[.slice none 0 0, .string ⟨#[]⟩, .int .i64 0], .int .i64 14]) ?_ rfl ⟨_, _, 14, rfl, TpAt.zero _, TFar.zero _ _ _, fun h => absurd h (by decide), ((hbw.setCell HGX.out.2.2.2 _).setCell HGX.out.2.2.2 _).setCell HGX.out.2.2.2 _⟩
       simp [results, Tryz.results118, go_sem, hRrc0, hRrc1, hRrc2, hRl]
end Go.Proofs.YtehoiholhkfcpaaGreat
end

section
set_option linter.unusedVariables false
set_option linter.unusedSimpArgs false
set_option maxRecDepth 100000
namespace Go.Proofs.YtehoiholhkfcpaaGreat
open Go.RowKit Go.Shelf

set_option maxHeartbeats 3200000 in
theorem below_x (hc : HCmp) (t : Value) (n : Nat) (w : World) (h2 : n < 256 ^ 64) (hT : TpAt w t) :
  Calls Tryz.prog 65 #[t, .string (E n)] w (DrPost w n) := by
 obtain ⟨v, V, sd, ti, rfl, hV, hn, hs, hsd⟩ := hT
 obtain ⟨ao, c, rfl⟩ := RAt.form hV
 have HVL : Hid (∀ w, Calls Tryz.prog 27 #[.string (E n)] w fun e w' => e = .returned (.bool true) ∧ w = w') := fun w => rvalidE_c n w (Nat.lt_of_lt_of_le h2 (Nat.pow_le_pow_right (by decide) (by decide)))
 have HGD : Hid (∀ w', Below w.heap.size w w' → Calls Tryz.prog 63 #[.agg #[.slice ao V.length c, .string sd, .int .i64 ti]] w' fun e w'' => ∃ b, e = .returned (.bool b) ∧ (b = true → V.all vldB = true ∧ 0 ≤ ti ∧ ti ≤ 2147483647) ∧ Below w'.heap.size w' w'') := fun w' hb => good_x V _ sd ti w' hn hs (SsAt.after hV hb)
 have HDR : Hid (V.all vldB = true → 0 ≤ ti → ti ≤ 2147483647 → 1 ≤ n → ∀ w', Below w.heap.size w w' → Calls Tryz.prog 118 #[.agg #[.slice ao V.length c, .string sd, .int .i64 ti], .string (E n)] w' (DrPost w' n)) := fun h1 h3 h4 h5 w' hb => by
  obtain ⟨k, rfl⟩ := Int.eq_ofNat_of_zero_le h3
  exact draw_x hc V _ sd k n w' hn hs h1 hsd (by omega) h5 h2 (SsAt.after hV hb)
 generalize V.length = m at HGD HDR
 clear hV hn hs hc h2 hsd
 have hP := blk2a w #[.slice ao m c, .string sd, .int .i64 ti] #[.slice none 0 0, .string ⟨#[]⟩, .int .i64 0] 33 33
 have hR := blk2b w #[.slice ao m c, .string sd, .int .i64 ti] #[.slice none 0 0, .string ⟨#[]⟩, .int .i64 0] 33 33
 have hBW := b2 w (.cells #[.slice ao m c, .string sd, .int .i64 ti] 33) (.cells #[.slice none 0 0, .string ⟨#[]⟩, .int .i64 0] 33)
 obtain ⟨hPc0, hPf0, hPc1, hPf1, hPc2, hPf2⟩ := hP.x3
 go_enter Tryz.func65, Tryz.ntmps65
 go_wp2_with fail
 refine (HGD.out _ hBW).mono ?_
 rintro e w2 ⟨g, rfl, hg, hb2⟩
 clear hPc0 hPf0 hPc1 hPf1 hPc2 hPf2
 have HG := Lib.hid hg
 clear hg
 replace hP := hP.after hb2
 replace hR := hR.after hb2
 replace hBW := bt hBW hb2
 replace hR : Blk w2 (w.heap.size + 1) 33 [.slice none 0 0, .string ⟨#[]⟩, .int .i64 0] := hR
 replace hP : Blk w2 w.heap.size 33 [.slice ao m c, .string sd, .int .i64 ti] := hP
 have hRl := hR.lt
 clear hb2
 cases g
 ·clear hP HDR HG
  obtain ⟨hRc0, hRf0, hRc1, hRf1, hRc2, hRf2⟩ := hR.x3
  go_wp2
  refine bodyPost_ret (v := .tuple #[.string ⟨#[]⟩, .agg #[.slice none 0 0, .string ⟨#[]⟩, .int .i64 0], .int .i64 3]) ?_ rfl ⟨_, _, 3, rfl, TpAt.zero _, TFar.zero _ _ _, fun h => absurd h (by decide), ((hBW.setCell (Nat.le_succ _) _).setCell (Nat.le_succ _) _).setCell (Nat.le_succ _) _⟩
  simp [results, Tryz.results65, go_sem, hRc0, hRc1, hRc2, hRl]
 ·obtain ⟨q1, q2, q3⟩ := HG.out rfl
  go_wp2_with fail
  refine (HVL.out _).mono ?_
  rintro e w' ⟨rfl, rfl⟩
  by_cases h0 : n = 0
  ·subst h0
   have hz := zE (n := 0) rfl
   obtain ⟨hRc0, hRf0, hRc1, hRf1, hRc2, hRf2⟩ := hR.x3
   go_wp2
   refine bodyPost_ret (v := .tuple #[.string ⟨#[]⟩, .agg #[.slice none 0 0, .string ⟨#[]⟩, .int .i64 0], .int .i64 11]) ?_ rfl ⟨_, _, 11, rfl, TpAt.zero _, TFar.zero _ _ _, fun h => absurd h (by decide), ((hBW.setCell (Nat.le_succ _) _).setCell (Nat.le_succ _) _).setCell (Nat.le_succ _) _⟩
   simp [results, Tryz.results65, go_sem, hRc0, hRc1, hRc2, hRl]
  ·have hz := nzE (n := n) (by omega)
   have HD2 := Lib.hid (HDR.out q1 q2 q3 (by omega))
   obtain ⟨hPc0, hPf0, hPc1, hPf1, hPc2, hPf2⟩ := hP.x3
   go_wp2_with fail
   refine (HD2.out _ hBW).mono ?_
   rintro e w4 ⟨s, t', k, rfl, hT4, hF4, hk4, hb4⟩
   obtain ⟨u', V', sd', ti', rfl, hV', hn', hs', hsd'⟩ := hT4
   obtain ⟨ao', c', rfl⟩ := RAt.form hV'
   clear hPc0 hPf0 hPc1 hPf1 hPc2 hPf2
   have hR4 := hR.after hb4
   have hR4l := hR4.lt
   have hf1 := hF4 _ _ _ rfl (w.heap.size + 1) hRl
   have HFR := Lib.hid hf1
   have HFA : Hid (TFar (.agg #[.slice ao' V'.length c', .string sd', .int .i64 ti']) w.heap.size) := TFar.of (fun b hb => hF4 _ _ _ rfl b (Nat.lt_of_lt_of_le hb hBW.size))
   replace hBW := bt hBW hb4
   clear hf1 hF4 hb4 hP hR HDR HD2 HGD
   have HT4 : Hid (∀ (i j k : Nat) (x y z : Value), TpAt (((w4.setCell ⟨w.heap.size + 1, i, none⟩ x).setCell ⟨w.heap.size + 1, j, none⟩ y).setCell ⟨w.heap.size + 1, k, none⟩ z) (.agg #[.slice ao' V'.length c', .string sd', .int .i64 ti'])) := fun i j k x y z => ⟨_, V', sd', _, rfl, (((SsAt.set_far hV' HFR.out).set_far HFR.out).set_far HFR.out), hn', hs', hsd'⟩
   clear hV' hn' hs' hsd'
   have HK4 := Lib.hid hk4
   clear hk4
   generalize V'.length = m' at HT4 HFA ⊢
   obtain ⟨hR4c0, hR4f0, hR4c1, hR4f1, hR4c2, hR4f2⟩ := hR4.x3
   go_wp2
   refine bodyPost_ret (v := .tuple #[.string s, .agg #[.slice ao' m' c', .string sd', .int .i64 ti'], .int .i64 k]) ?_ rfl ⟨_, _, k, rfl, HT4.out _ _ _ _ _ _, HFA.out, HK4.out, ((hBW.setCell (Nat.le_succ _) _).setCell (Nat.le_succ _) _).setCell (Nat.le_succ _) _⟩
   simp [results, Tryz.results65, go_sem, hR4c0, hR4c1, hR4c2, hR4l]
/-- what Signed leaves -/
def SgPost (w : World) (n : Nat) : Ending → World → Prop := fun e w' => ∃ (b : Bool) (s : ByteArray) (t : Value) (k : Nat), e = .returned (.tuple #[.agg #[.bool b, .string s], t, .int .i64 (k : Int)]) ∧ TpAt w' t ∧ TFar t w.heap.size ∧ (k = 0 → ∃ z : Int, z.natAbs < n ∧ b = sg z ∧ s = E z.natAbs) ∧ Below w.heap.size w w'

set_option maxHeartbeats 3200000 in
theorem signed_x (hc : HCmp) (t : Value) (n : Nat) (w : World) (h2 : n < 256 ^ 40) (hT : TpAt w t) :
  Calls Tryz.prog 64 #[t, .string (E n)] w (SgPost w n) := by
 obtain ⟨v, V, sd, ti, rfl, hV, hn, hs, hsd⟩ := hT
 obtain ⟨ao, c, rfl⟩ := RAt.form hV
 have h2' : n < 256 ^ 128 := Nat.lt_of_lt_of_le h2 (Nat.pow_le_pow_right (by decide) (by decide))
 have hnn : n + (n - 1) < 256 ^ 64 := by
  have h3 : (256 : Nat) ^ 40 + 256 ^ 40 ≤ 256 ^ 64 := by decide
  omega
 have hnn' : n + (n - 1) < 256 ^ 128 := Nat.lt_of_lt_of_le hnn (Nat.pow_le_pow_right (by decide) (by decide))
 have HVL : Hid (∀ w, Calls Tryz.prog 27 #[.string (E n)] w fun e w' => e = .returned (.bool true) ∧ w = w') := fun w => rvalidE_c n w h2'
 have HGD : Hid (∀ w', Below w.heap.size w w' → Calls Tryz.prog 63 #[.agg #[.slice ao V.length c, .string sd, .int .i64 ti]] w' fun e w'' => ∃ b, e = .returned (.bool b) ∧ (b = true → V.all vldB = true ∧ 0 ≤ ti ∧ ti ≤ 2147483647) ∧ Below w'.heap.size w' w'') := fun w' hb => good_x V _ sd ti w' hn hs (SsAt.after hV hb)
 have HDR : Hid (V.all vldB = true → 0 ≤ ti → ti ≤ 2147483647 → 1 ≤ n → ∀ w', Below w.heap.size w w' → Calls Tryz.prog 118 #[.agg #[.slice ao V.length c, .string sd, .int .i64 ti], .string (E (n + (n - 1)))] w' (DrPost w' (n + (n - 1)))) := fun h1 h3 h4 h5 w' hb => by
  obtain ⟨k, rfl⟩ := Int.eq_ofNat_of_zero_le h3
  exact draw_x hc V _ sd k (n + (n - 1)) w' hn hs h1 hsd (by omega) (by omega) hnn (SsAt.after hV hb)
 have HOF : Hid (∀ w, Calls Tryz.prog 110 #[.int .u64 1] w fun e w' => e = .returned (.string (E 1)) ∧ Below w.heap.size w w') := fun w => rof_c 1 w (by decide)
 have HSB : Hid (1 ≤ n → ∀ w, Calls Tryz.prog 116 #[.string (E n), .string (E 1)] w fun e w' => e = .returned (.tuple #[.string (E (n - 1)), .int .i64 0]) ∧ Below w.heap.size w w') := fun h w => rsub_c n 1 w h2' h
 have HAD : Hid (∀ w, Calls Tryz.prog 117 #[.string (E n), .string (E (n - 1))] w fun e w' => e = .returned (.tuple #[.string (E (n + (n - 1))), .int .i64 0]) ∧ Below w.heap.size w w') := fun w => radd_c n (n - 1) w h2' (by omega) hnn'
 have HSM : Hid (∀ (x : Nat), x < n + (n - 1) → 1 ≤ n → ∃ z : Int, z.natAbs < n ∧ ∀ w, Calls Tryz.prog 119 #[.agg #[.bool (sg (x : Int)), .string (E x)], .agg #[.bool (sg ((n - 1 : Nat) : Int)), .string (E (n - 1))]] w fun e w' => e = .returned (.tuple #[.agg #[.bool (sg (z)), .string (E (z).natAbs)], .int .i64 0]) ∧ Below w.heap.size w w') := fun x hx h1 => ⟨(x : Int) - ((n - 1 : Nat) : Int), by omega, fun w => by
  have h := risub_c (x : Int) ((n - 1 : Nat) : Int) w (by simp; omega) (by simp; omega) (by omega)
  rwa [Int.natAbs_natCast, Int.natAbs_natCast] at h⟩
 have HFM : Hid (∀ (x : Nat), x < n + (n - 1) → ∀ w, Calls Tryz.prog 120 #[.string (E x)] w fun e w' => e = .returned (.agg #[.bool (sg (x : Int)), .string (E x)]) ∧ Below w.heap.size w w') := fun x hx w => rifromS_c x w (by omega)
 have HFL : Hid (∀ w, Calls Tryz.prog 120 #[.string (E (n - 1))] w fun e w' => e = .returned (.agg #[.bool (sg ((n - 1 : Nat) : Int)), .string (E (n - 1))]) ∧ Below w.heap.size w w') := fun w => rifromS_c (n - 1) w (by omega)
 generalize V.length = m at HGD HDR
 clear hV hn hs hc h2 hsd h2' hnn hnn'
 generalize n - 1 = l at HSB HAD HDR HSM HFM HFL
 have hP := blk3a w #[.slice ao m c, .string sd, .int .i64 ti] #[.bool false, .string ⟨#[]⟩] #[.slice none 0 0, .string ⟨#[]⟩, .int .i64 0] 33 53 33
 have hI := blk3b w #[.slice ao m c, .string sd, .int .i64 ti] #[.bool false, .string ⟨#[]⟩] #[.slice none 0 0, .string ⟨#[]⟩, .int .i64 0] 33 53 33
 have hR := blk3c w #[.slice ao m c, .string sd, .int .i64 ti] #[.bool false, .string ⟨#[]⟩] #[.slice none 0 0, .string ⟨#[]⟩, .int .i64 0] 33 53 33
 have hBW := b3 w (.cells #[.slice ao m c, .string sd, .int .i64 ti] 33) (.cells #[.bool false, .string ⟨#[]⟩] 53) (.cells #[.slice none 0 0, .string ⟨#[]⟩, .int .i64 0] 33)
 go_enter Tryz.func64, Tryz.ntmps64
 go_upto_region 1 with fail
 generalize (((w.alloc (.cells #[.slice ao m c, .string sd, .int .i64 ti] 33)).alloc (.cells #[.bool false, .string ⟨#[]⟩] 53)).alloc (.cells #[.slice none 0 0, .string ⟨#[]⟩, .int .i64 0] 33)) = w3 at hP hI hR hBW ⊢
 obtain ⟨gP, hgP⟩ : ∃ g, w.heap.size = g := ⟨_, rfl⟩
 obtain ⟨gI, hgI⟩ : ∃ g, w.heap.size + 1 = g := ⟨_, rfl⟩
 obtain ⟨gR, hgR⟩ : ∃ g, w.heap.size + 1 + 1 = g := ⟨_, rfl⟩
 have hgR2 : w.heap.size + 2 = gR := hgR
 rw [hgI] at hI
 rw [hgR2] at hR
 have HG1 : Hid (w.heap.size ≤ gI) := by unfold Hid; omega
 have HG2 : Hid (w.heap.size ≤ gR) := by unfold Hid; omega
 have hne1 : gI ≠ gR := by omega
 have hne2 : gR ≠ gI := by omega
 rw [hgR, hgI, hgP]
 rw [hgP] at hP
 clear hgR2 hgR hgI hgP
 replace hP : Blk w3 gP 33 [.slice ao m c, .string sd, .int .i64 ti] := hP
 replace hI : Blk w3 gI 53 [.bool false, .string ⟨#[]⟩] := hI
 replace hR : Blk w3 gR 33 [.slice none 0 0, .string ⟨#[]⟩, .int .i64 0] := hR
 obtain ⟨hPc0, hPf0, hPc1, hPf1, hPc2, hPf2⟩ := hP.x3
 go_wp2_with fail
 refine (HGD.out _ hBW).mono ?_
 rintro e w2 ⟨g, rfl, hg, hb2⟩
 clear hPc0 hPf0 hPc1 hPf1 hPc2 hPf2
 have HG := Lib.hid hg
 clear hg
 replace hP := hP.after hb2
 replace hI := hI.after hb2
 replace hR := hR.after hb2
 replace hBW := bt hBW hb2
 have hRl := hR.lt
 have hIl := hI.lt
 clear hb2
 cases g
 ·clear hP HDR HG
  obtain ⟨hIc0, hIf0, hIc1, hIf1⟩ := hI.x2
  obtain ⟨hRc0, hRf0, hRc1, hRf1, hRc2, hRf2⟩ := hR.x3
  go_wp2
  refine bodyPost_ret (v := .tuple #[.agg #[.bool false, .string ⟨#[]⟩], .agg #[.slice none 0 0, .string ⟨#[]⟩, .int .i64 0], .int .i64 3]) ?_ rfl ⟨_, _, _, 3, rfl, TpAt.zero _, TFar.zero _ _ _, fun h => absurd h (by decide), ((((hBW.setCell HG1.out _).setCell HG1.out _).setCell HG2.out _).setCell HG2.out _).setCell HG2.out _⟩
  simp [results, Tryz.results64, go_sem, hRc0, hRc1, hRc2, hRl, hIc0, hIc1, hIl, hne1, hne2]
 ·obtain ⟨q1, q2, q3⟩ := HG.out rfl
  go_wp2_with fail
  refine (HVL.out _).mono ?_
  rintro e w' ⟨rfl, rfl⟩
  by_cases h0 : n = 0
  ·subst h0
   have hz := zE (n := 0) rfl
   obtain ⟨hIc0, hIf0, hIc1, hIf1⟩ := hI.x2
   obtain ⟨hRc0, hRf0, hRc1, hRf1, hRc2, hRf2⟩ := hR.x3
   go_wp2
   refine bodyPost_ret (v := .tuple #[.agg #[.bool false, .string ⟨#[]⟩], .agg #[.slice none 0 0, .string ⟨#[]⟩, .int .i64 0], .int .i64 11]) ?_ rfl ⟨_, _, _, 11, rfl, TpAt.zero _, TFar.zero _ _ _, fun h => absurd h (by decide), ((((hBW.setCell HG1.out _).setCell HG1.out _).setCell HG2.out _).setCell HG2.out _).setCell HG2.out _⟩
   simp [results, Tryz.results64, go_sem, hRc0, hRc1, hRc2, hRl, hIc0, hIc1, hIl, hne1, hne2]
  ·have hz := nzE (n := n) (by omega)
   have HN1 : Hid (1 ≤ n) := by rw [Hid]; omega
   have HD2 := Lib.hid (HDR.out q1 q2 q3 HN1.out)
   have HS2 := Lib.hid (HSB.out HN1.out)
   clear h0 q1 q2 q3
   go_wp2_with fail
   refine (HOF.out _).mono ?_
   rintro e wa ⟨rfl, hba⟩
   go_wp2_with fail
   refine (HS2.out _).mono ?_
   rintro e wb ⟨rfl, hbb⟩
   go_wp2_with fail
   refine (HAD.out _).mono ?_
   rintro e wd ⟨rfl, hbd⟩
   have hb6 := bt hba (bt hbb hbd)
   replace hP := hP.after hb6
   replace hI := hI.after hb6
   replace hR := hR.after hb6
   replace hBW := bt hBW hb6
   clear hba hbb hbd hb6 hRl hIl
   have hRl := hR.lt
   have hIl := hI.lt
   obtain ⟨hPc0, hPf0, hPc1, hPf1, hPc2, hPf2⟩ := hP.x3
   go_wp2_with fail
   refine (HD2.out _ hBW).mono ?_
   rintro e w4 ⟨s, t', k, rfl, hT4, hF4, hk4, hb4⟩
   obtain ⟨u', V', sd', ti', rfl, hV', hn', hs', hsd'⟩ := hT4
   obtain ⟨ao', c', rfl⟩ := RAt.form hV'
   clear hPc0 hPf0 hPc1 hPf1 hPc2 hPf2
   have hBW4 := bt hBW hb4
   have HF4 := Lib.hid hF4
   have hV4 := hV'
   clear hF4 hV' hRl hIl
   generalize hml : V'.length = m' at HF4 ⊢
   have HML := Lib.hid hml
   clear hml
   have hT12 := Blk.new w4 #[.slice ao' m' c', .string sd', .int .i64 ti'] 33
   have hbT := b1 w4 (.cells #[.slice ao' m' c', .string sd', .int .i64 ti'] 33)
   have hI5 := (hI.after hb4).after hbT
   have hR5 := (hR.after hb4).after hbT
   by_cases hk0 : k = 0
   ·obtain ⟨x, hx, rfl⟩ := hk4 hk0
    subst hk0
    clear hk4
    obtain ⟨z, hz1, hsx⟩ := HSM.out x hx HN1.out
    have HSX := Lib.hid hsx
    have HZ1 := Lib.hid hz1
    clear hsx hz1
    have HFX := Lib.hid (HFM.out x hx)
    clear HSM HFM
    go_wp2_with fail
    refine (HFX.out _).mono ?_
    rintro e w5 ⟨rfl, hb5⟩
    go_wp2_with fail
    refine (HFL.out _).mono ?_
    rintro e w6 ⟨rfl, hb6⟩
    go_wp2_with fail
    refine (HSX.out _).mono ?_
    rintro e w7 ⟨rfl, hb7⟩
    have hbx := bt hb5 (bt hb6 hb7)
    have hT7 := hT12.after hbx
    have hI7 := hI5.after hbx
    have hR7 := hR5.after hbx
    have hV7 := SsAt.after (SsAt.after hV4 hbT) hbx
    have hBW7 := bt (bt hBW4 hbT) hbx
    clear hb5 hb6 hb7 hbx hT12 hI5 hR5 hbT hV4 hP
    have hRI := hI7.lt
    have hRR := hR7.lt
    go_upto_region 13 with fail
    have hZ := Blk.new w7 #[.bool (sg z), .string (E z.natAbs)] 53
    have hb8 := b1 w7 (.cells #[.bool (sg z), .string (E z.natAbs)] 53)
    have ne1 : w7.heap.size ≠ gI := by omega
    have ne2 : w7.heap.size ≠ gR := by omega
    have hlt4 := HF4
    have ne3 : w4.heap.size ≠ gI := Nat.ne_of_gt (Nat.lt_of_lt_of_le (hI.lt) hb4.size)
    have ne4 : w4.heap.size ≠ gR := Nat.ne_of_gt (Nat.lt_of_lt_of_le (hR.lt) hb4.size)
    replace hT7 := hT7.after hb8
    replace hI7 := hI7.after hb8
    replace hR7 := hR7.after hb8
    replace hV7 := SsAt.after hV7 hb8
    replace hBW7 := bt hBW7 hb8
    generalize w7.alloc (.cells #[.bool (sg z), .string (E z.natAbs)] 53) = w8 at hZ hT7 hI7 hR7 hV7 hBW7 ⊢
    generalize w7.heap.size = gZ at hZ ne1 ne2 ⊢
    have hFI : FarS (.slice ao' V'.length c') gI := by rw [HML.out]; exact HF4.out _ _ _ rfl gI hI.lt
    have hFR : FarS (.slice ao' V'.length c') gR := by rw [HML.out]; exact HF4.out _ _ _ rfl gR hR.lt
    have HT8 : Hid (∀ (i1 i2 i3 i4 i5 : Nat) (x1 x2 x3 x4 x5 : Value), TpAt (((((w8.setCell ⟨gI, i1, none⟩ x1).setCell ⟨gI, i2, none⟩ x2).setCell ⟨gR, i3, none⟩ x3).setCell ⟨gR, i4, none⟩ x4).setCell ⟨gR, i5, none⟩ x5).drew (.agg #[.slice ao' m' c', .string sd', .int .i64 ti'])) := fun i1 i2 i3 i4 i5 x1 x2 x3 x4 x5 => by
     rw [← HML.out]
     exact ⟨_, V', sd', _, rfl, SsAt.after (((((hV7.set_far hFI).set_far hFI).set_far hFR).set_far hFR).set_far hFR) (Below.drew (Below.refl _ _)), hn', hs', hsd'⟩
    have HFA : Hid (TFar (.agg #[.slice ao' m' c', .string sd', .int .i64 ti']) w.heap.size) := TFar.of (fun b hb => HF4.out _ _ _ rfl b (Nat.lt_of_lt_of_le hb hBW.size))
    generalize w4.heap.size = gT at hT7 ne3 ne4 ⊢
    clear hb8 hV7 hFI hFR hb4 hI hR hBW hBW4
    replace hT7 : Blk w8 gT 33 [.slice ao' m' c', .string sd', .int .i64 ti'] := hT7
    replace hZ : Blk w8 gZ 53 [.bool (sg z), .string (E z.natAbs)] := hZ
    have hTl := hT7.lt
    have hZl := hZ.lt
    have hIl := hI7.lt
    have hRl := hR7.lt
    obtain ⟨hT7c0, hT7f0, hT7c1, hT7f1, hT7c2, hT7f2⟩ := hT7.x3
    obtain ⟨hZc0, hZf0, hZc1, hZf1⟩ := hZ.x2
    obtain ⟨hI7c0, hI7f0, hI7c1, hI7f1⟩ := hI7.x2
    obtain ⟨hR7c0, hR7f0, hR7c1, hR7f1, hR7c2, hR7f2⟩ := hR7.x3
    go_wp2_with fail
    go_region
    go_wp2
    refine bodyPost_ret (v := .tuple #[.agg #[.bool (sg (z)), .string (E (z).natAbs)], .agg #[.slice ao' m' c', .string sd', .int .i64 ti'], .int .i64 0]) ?_ rfl ⟨_, _, _, 0, rfl, HT8.out _ _ _ _ _ _ _ _ _ _, HFA.out, fun _ => ⟨z, HZ1.out, rfl, rfl⟩, ?_⟩
    ·simp [results, Tryz.results64, go_sem, hR7c0, hR7c1, hR7c2, hRl, hI7c0, hI7c1, hIl, hne1, hne2]
    ·exact (((((hBW7.setCell HG1.out _).setCell HG1.out _).setCell HG2.out _).setCell HG2.out _).setCell HG2.out _).drew
   ·have hkb : ((k : Int) != 0) = true := by rw [bne_iff_ne]; omega
    have HK0 := Lib.hid hk0
    have hRl := hR5.lt
    have hIl := hI5.lt
    clear hk0 hk4 hP hI hR
    obtain ⟨hI5c0, hI5f0, hI5c1, hI5f1⟩ := hI5.x2
    obtain ⟨hR5c0, hR5f0, hR5c1, hR5f1, hR5c2, hR5f2⟩ := hR5.x3
    go_wp2
    refine bodyPost_ret (v := .tuple #[.agg #[.bool false, .string ⟨#[]⟩], .agg #[.slice none 0 0, .string ⟨#[]⟩, .int .i64 0], .int .i64 k]) ?_ rfl ⟨_, _, _, k, rfl, TpAt.zero _, TFar.zero _ _ _, fun h => absurd h HK0.out, ?_⟩
    ·simp [results, Tryz.results64, go_sem, hR5c0, hR5c1, hR5c2, hRl, hI5c0, hI5c1, hIl, hne1, hne2]
    ·exact (((((ba hBW4 _).setCell HG1.out _).setCell HG1.out _).setCell HG2.out _).setCell HG2.out _).setCell HG2.out _
end Go.Proofs.YtehoiholhkfcpaaGreat
end

section
set_option linter.unusedVariables false
set_option linter.unusedSimpArgs false
set_option maxRecDepth 100000
namespace Go.Proofs.YtehoiholhkfcpaaGreat
open Go.RowKit Go.Shelf

theorem SsAt.grown {w w' : World} {row : Option Nat} {v : Value} {V : List ByteArray} (h : SsAt w v V) (hg : w.grownBy w' row) (hf : ∀ g, row = some g → FarS v g) : SsAt w' v V := by
 obtain ⟨ao, c', rfl, h⟩ := h
 refine ⟨ao, c', rfl, ?_⟩
 by_cases h0 : V.length = 0
 ·exact .inl h0
 rcases h with h | ⟨b, o, rfl, h2, h3⟩
 ·exact .inl h
 ·refine .inr ⟨b, o, rfl, Nat.lt_of_lt_of_le h2 hg.size, fun j hj => ?_⟩
  obtain ⟨cs, hq, hc⟩ := h3 j hj
  refine ⟨cs, hq, fun i hi => ?_⟩
  rw [← hc i hi]
  exact World.cell?_of_block (hg.block b h2 (fun e => hf b e.symm _ _ _ _ rfl h0 rfl))

theorem SsAt.lt {w : World} {b o n c : Nat} {V : List ByteArray} (h : SsAt w (.slice (some ⟨b, o, none⟩) n c) V) (hn : n ≠ 0) : b < w.heap.size := by
 obtain ⟨ao, c', e, h⟩ := h
 injection e with e1 e2 e3
 rcases h with h | ⟨b', o', h1, h2, _⟩
 ·omega
 ·subst h1
  injection e1 with e1
  injection e1 with e1
  rw [e1]; exact h2

/-- what the loop of Simulate keeps -/
def SimJ (w0 : World) (base gS gT gF gO : Nat) (cS : List Value) (uv : Value) (U : List ByteArray) (v14 : Value) (Z : List Int) (wr : World) (uo : Option Addr) (m uc : Nat) (sd : ByteArray) (ti : Int) : Prop :=
 Blk wr gT 33 [.slice uo m uc, .string sd, .int .i64 ti] ∧ TpAt wr (.agg #[.slice uo m uc, .string sd, .int .i64 ti]) ∧
  (∀ g, v14.ownBlock = some g → g < wr.heap.size → FarS (.slice uo m uc) g) ∧
  Blk wr gS 29 cS ∧ Blk wr gF 45 [.slice none 0 0, .string ⟨#[]⟩, .slice none 0 0] ∧ Blk wr gO 33 [.slice none 0 0, .string ⟨#[]⟩, .int .i64 0] ∧
  SsAt wr uv U ∧ ZOwn wr base v14 Z ∧ Below w0.heap.size w0 wr
def SimI (w0 : World) (base gS gT gF gO : Nat) (cS : List Value) (uv : Value) (U : List ByteArray) (v14 : Value) (Z : List Int) (wr : World) : Prop :=
 ∃ (uo : Option Addr) (m uc : Nat) (sd : ByteArray) (ti : Int), SimJ w0 base gS gT gF gO cS uv U v14 Z wr uo m uc sd ti

theorem TpAt.set_far {w : World} {g i : Nat} {x u s t : Value} (h : TpAt w (.agg #[u, s, t])) (hf : FarS u g) : TpAt (w.setCell ⟨g, i, none⟩ x) (.agg #[u, s, t]) := by
 obtain ⟨u', V, sd2, ti2, e, hV, q⟩ := h
 refine ⟨u', V, sd2, ti2, e, ?_, q⟩
 injection e with e
 have e := congrArg (fun a => a[0]?) e
 simp at e
 rw [← e] at hV ⊢
 exact hV.set_far hf

theorem SimI.after {w0 : World} {base gS gT gF gO : Nat} {cS : List Value} {uv : Value} {U : List ByteArray} {v14 : Value} {Z : List Int} {wr wx : World}
  (h : SimI w0 base gS gT gF gO cS uv U v14 Z wr) (hb : Below wr.heap.size wr wx) : SimI w0 base gS gT gF gO cS uv U v14 Z wx := by
 obtain ⟨uo, m, uc, sd, ti, h1, h2, h3, h4, h5, h6, h7, h8, h9⟩ := h
 exact ⟨uo, m, uc, sd, ti, h1.after hb, h2.after hb, fun g hg _ => h3 g hg (own_lt h8 hg).1, h4.after hb, h5.after hb, h6.after hb, SsAt.after h7 hb, own_after h8 hb, bt h9 hb⟩
/-- a tape is stored -/
theorem SimI.tape {w0 : World} {base gS gT gF gO : Nat} {cS : List Value} {uv : Value} {U : List ByteArray} {v14 : Value} {Z : List Int} {wr : World} {uo : Option Addr} {m uc : Nat} {sd : ByteArray} {ti : Int}
  (h : SimI w0 base gS gT gF gO cS uv U v14 Z wr) (hT : TpAt wr (.agg #[.slice uo m uc, .string sd, .int .i64 ti])) (hF : FarS (.slice uo m uc) gT) (hG : ∀ g, v14.ownBlock = some g → FarS (.slice uo m uc) g)
  (n1 : gS ≠ gT) (n2 : gF ≠ gT) (n3 : gO ≠ gT) (n4 : w0.heap.size ≤ gT) (hu : FarS uv gT) :
  SimJ w0 base gS gT gF gO cS uv U v14 Z (((wr.setCell ⟨gT, 0, none⟩ (.slice uo m uc)).setCell ⟨gT, 1, none⟩ (.string sd)).setCell ⟨gT, 2, none⟩ (.int .i64 ti)) uo m uc sd ti := by
 obtain ⟨uo', m', uc', sd', ti', h1, h2, h3, h4, h5, h6, h7, h8, h9⟩ := h
 refine ⟨?_, ?_, fun g hg _ => hG g hg, ?_, ?_, ?_, ((h7.set_far hu).set_far hu).set_far hu, ?_, ((h9.setCell n4 _).setCell n4 _).setCell n4 _⟩
 ·exact ((h1.set 0 (.slice uo m uc)).set 1 (.string sd)).set 2 (.int .i64 ti)
 ·exact ((hT.set_far hF).set_far hF).set_far hF
 ·exact ((h4.other _ _ n1).other _ _ n1).other _ _ n1
 ·exact ((h5.other _ _ n2).other _ _ n2).other _ _ n2
 ·exact ((h6.other _ _ n3).other _ _ n3).other _ _ n3
 ·have e : v14.ownBlock ≠ some gT := own_ne h8 h1 (by decide)
  exact own_set (own_set (own_set h8 e) e) e

/-- a store into another block -/
theorem SimJ.x {w0 : World} {base gS gT gF gO g i : Nat} {cS : List Value} {uv x : Value} {U : List ByteArray} {v14 : Value} {Z : List Int} {wr : World} {uo : Option Addr} {m uc : Nat} {sd : ByteArray} {ti : Int}
  (h : SimJ w0 base gS gT gF gO cS uv U v14 Z wr uo m uc sd ti) (n1 : gS ≠ g) (n2 : gF ≠ g) (n3 : gO ≠ g) (n4 : gT ≠ g) (n5 : w0.heap.size ≤ g) (hu : FarS uv g) (ht : FarS (.slice uo m uc) g) (ho : v14.ownBlock ≠ some g) :
  SimJ w0 base gS gT gF gO cS uv U v14 Z (wr.setCell ⟨g, i, none⟩ x) uo m uc sd ti := by
 obtain ⟨h1, h2, h3, h4, h5, h6, h7, h8, h9⟩ := h
 exact ⟨h1.other _ _ n4, h2.set_far ht, fun g' hg _ => h3 g' hg (own_lt h8 hg).1, h4.other _ _ n1, h5.other _ _ n2, h6.other _ _ n3, h7.set_far hu, own_set h8 ho, h9.setCell n5 _⟩

theorem SimJ.after {w0 : World} {base gS gT gF gO : Nat} {cS : List Value} {uv : Value} {U : List ByteArray} {v14 : Value} {Z : List Int} {wr wx : World} {uo : Option Addr} {m uc : Nat} {sd : ByteArray} {ti : Int}
  (h : SimJ w0 base gS gT gF gO cS uv U v14 Z wr uo m uc sd ti) (hb : Below wr.heap.size wr wx) : SimJ w0 base gS gT gF gO cS uv U v14 Z wx uo m uc sd ti := by
 obtain ⟨h1, h2, h3, h4, h5, h6, h7, h8, h9⟩ := h
 exact ⟨h1.after hb, h2.after hb, fun g hg _ => h3 g hg (own_lt h8 hg).1, h4.after hb, h5.after hb, h6.after hb, SsAt.after h7 hb, own_after h8 hb, bt h9 hb⟩

/-- a number is appended -/
theorem SimI.app {w0 : World} {base gS gT gF gO : Nat} {cS : List Value} {uv : Value} {U : List ByteArray} {v14 : Value} {Z : List Int} {wr wz : World} {z : Int} {ga ca k : Nat}
  (h : SimI w0 base gS gT gF gO cS uv U v14 Z wr) (hown : ZOwn wz base (.slice (some ⟨ga, 0, none⟩) k ca) (Z ++ [z])) (hg : wr.grownBy wz v14.ownBlock) (hat : v14.ownBlock = some ga ∨ ga = wr.heap.size)
  (nS : 53 ≠ 29) (hb0 : w0.heap.size ≤ base) (hu : ∀ g, base ≤ g → FarS uv g) :
  SimI w0 base gS gT gF gO cS uv U (.slice (some ⟨ga, 0, none⟩) k ca) (Z ++ [z]) wz := by
 obtain ⟨uo, m, uc, sd, ti, h1, h2, h3, h4, h5, h6, h7, h8, h9⟩ := h
 have hsz := h9.size
 refine ⟨uo, m, uc, sd, ti, h1.grown hg (own_ne h8 h1 (by decide)), ?_, ?_, h4.grown hg (own_ne h8 h4 nS), h5.grown hg (own_ne h8 h5 (by decide)), h6.grown hg (own_ne h8 h6 (by decide)), SsAt.grown h7 hg (fun g hg2 => hu g (own_lt h8 hg2).2), hown, h9.grown hg hsz (fun x hx => Nat.le_trans hb0 (own_lt h8 hx).2)⟩
 ·obtain ⟨u, V, sd2, ti2, e, hV, q⟩ := h2
  refine ⟨u, V, sd2, ti2, e, ?_, q⟩
  injection e with e
  have e := congrArg (fun a => a[0]?) e
  simp at e
  rw [← e] at hV ⊢
  exact SsAt.grown hV hg (fun g hg2 => h3 g hg2 (own_lt h8 hg2).1)
 ·intro g hgg _
  have e : g = ga := by simp [Value.ownBlock] at hgg; exact hgg.symm
  subst e
  rcases hat with hat | hat
  ·exact h3 g hat (own_lt h8 hat).1
  ·intro b o n c e hn hb
   obtain ⟨u, V, sd2, ti2, e2, hV, q⟩ := h2
   injection e2 with e2
   have e2 := congrArg (fun a => a[0]?) e2
   simp at e2
   rw [← e2, e] at hV
   have := hV.lt hn
   omega
end Go.Proofs.YtehoiholhkfcpaaGreat
end

section
set_option linter.unusedVariables false
set_option linter.unusedSimpArgs false
set_option maxRecDepth 100000
namespace Go.Proofs.YtehoiholhkfcpaaGreat
open Go.RowKit Go.Shelf

/-- what Simulate leaves -/
def SimPost (w : World) : Ending → World → Prop := fun e w' => ∃ (f rs t : Value) (F : List ByteArray) (R : List (Bool × ByteArray)) (ch : ByteArray) (k : Nat), e = .returned (.tuple #[.agg #[f, .string ch, rs], t, .int .i64 (k : Int)]) ∧ SsAt w' f F ∧ IsAt w' rs R ∧ F.length ≤ 12 ∧ (∀ x ∈ F, x.size ≤ 9) ∧ R.length ≤ 12 ∧ (∀ x ∈ R, x.2.size ≤ 40) ∧ ch.size ≤ 16 ∧ (∃ (u : Option Addr) (n c : Nat) (sd : ByteArray) (ti : Int), t = .agg #[.slice u n c, .string sd, .int .i64 ti]) ∧ (∀ g, g < w.heap.size → FarS f g ∧ FarS rs g) ∧ Below w.heap.size w w'

theorem farN (g : Nat) : FarS (.slice none 0 0) g := fun b o n c e _ => by cases e
theorem farNN (m : Nat) : ∀ g, g < m → FarS (.slice none 0 0) g ∧ FarS (.slice none 0 0) g := fun g _ => ⟨farN g, farN g⟩

theorem IsAt.set_far {w : World} {g i : Nat} {v x : Value} {V : List (Bool × ByteArray)} (h : IsAt w v V) (hf : FarS v g) : IsAt (w.setCell ⟨g, i, none⟩ x) v V := by
 obtain ⟨ao, c', rfl, h⟩ := h
 refine ⟨ao, c', rfl, ?_⟩
 by_cases h0 : V.length = 0
 ·exact .inl h0
 rcases h with h | ⟨b, o, rfl, h2, h3⟩
 ·exact .inl h
 ·refine .inr ⟨b, o, rfl, by simpa using h2, fun j hj => ?_⟩
  obtain ⟨cs, hq, hc⟩ := h3 j hj
  refine ⟨cs, hq, fun i2 hi => ?_⟩
  rw [← hc i2 hi]
  exact World.cell?_of_block (heap_setCell_other w ⟨g, i, none⟩ b x (fun e => hf _ _ _ _ rfl h0 e))

theorem msgs_9 {N : NSta} (hm : NOk N) (h0 : N.chk = 0) (x : Nat) (Z : List Int) : (N.msgs x Z).length ≤ 12 ∧ ∀ y ∈ N.msgs x Z, y < 256 ^ 9 := by
 refine ⟨by have := hm.ne; simp only [NSta.msgs, List.length_map]; omega, fun y hy => ?_⟩
 obtain ⟨q, hq, rfl⟩ := List.mem_map.1 hy
 obtain ⟨k, hk, rfl⟩ := List.getElem_of_mem hq
 have hg := (hm.e _ (List.getElem_mem hk)).1
 have h2 := has_lt (chk_elem h0 k hk hg).2.1
 have hp := (hm.g _ (List.getElem_mem hg)).1
 unfold msgQ
 rw [gp_at N _ hg]
 exact Nat.lt_trans (Nat.mod_lt _ (Nat.lt_of_le_of_lt (Nat.zero_le _) h2)) (Nat.lt_of_lt_of_le hp (Nat.pow_le_pow_right (by decide) (by decide)))

theorem is_nil (w : World) : IsAt w (.slice none 0 0) [] := ⟨none, 0, rfl, .inl rfl⟩

theorem blk5 (w : World) (A B C D F : Array Value) (TA TB TC TD TF : TypeId) :
  Blk (((((w.alloc (.cells A TA)).alloc (.cells B TB)).alloc (.cells C TC)).alloc (.cells D TD)).alloc (.cells F TF)) w.heap.size TA A.toList ∧
  Blk (((((w.alloc (.cells A TA)).alloc (.cells B TB)).alloc (.cells C TC)).alloc (.cells D TD)).alloc (.cells F TF)) (w.heap.size + 1) TB B.toList ∧
  Blk (((((w.alloc (.cells A TA)).alloc (.cells B TB)).alloc (.cells C TC)).alloc (.cells D TD)).alloc (.cells F TF)) (w.heap.size + 1 + 1) TC C.toList ∧
  Blk (((((w.alloc (.cells A TA)).alloc (.cells B TB)).alloc (.cells C TC)).alloc (.cells D TD)).alloc (.cells F TF)) (w.heap.size + 1 + 1 + 1) TD D.toList ∧
  Blk (((((w.alloc (.cells A TA)).alloc (.cells B TB)).alloc (.cells C TC)).alloc (.cells D TD)).alloc (.cells F TF)) (w.heap.size + 1 + 1 + 1 + 1) TF F.toList ∧
  Below w.heap.size w (((((w.alloc (.cells A TA)).alloc (.cells B TB)).alloc (.cells C TC)).alloc (.cells D TD)).alloc (.cells F TF)) := by
 refine ⟨((((Blk.new w A TA).alloc _).alloc _).alloc _).alloc _, (((blkN (by simp)).alloc _).alloc _).alloc _, ((blkN (by simp)).alloc _).alloc _, (blkN (by simp)).alloc _, blkN (by simp), ba (ba (b3 w _ _ _) _) _⟩

set_option maxHeartbeats 3200000 in
theorem simul_err (C K ch sd : ByteArray) (v1 v2 v3 : Value) (xt : Option Addr) (nt pt : Nat) (ti : Int) (k : Nat) (w : World) (hk : k ≠ 0)
  (hch : ∀ w', Below w.heap.size w w' → Calls Tryz.prog 26 #[.agg #[.string C, .string K], .agg #[v1, v2, v3]] w' fun e w'' => e = .returned (.tuple #[.slice none 0 0, .slice none 0 0, .int .i64 k]) ∧ Below w'.heap.size w' w'')
  (hf1 : ∃ a n c, v1 = .slice a n c) (hf2 : ∃ a n c, v2 = .slice a n c) (hf3 : ∃ a n c, v3 = .slice a n c) :
  Calls Tryz.prog 32 #[.agg #[.string C, .string K], .agg #[v1, v2, v3], .string ch, .agg #[.slice xt nt pt, .string sd, .int .i64 ti]] w (SimPost w) := by
 obtain ⟨a1, n1, c1, rfl⟩ := hf1
 obtain ⟨a2, n2, c2, rfl⟩ := hf2
 obtain ⟨a3, n3, c3, rfl⟩ := hf3
 have HCH := Lib.hid hch
 have hkb : ((k : Int) != 0) = true := by rw [bne_iff_ne]; omega
 obtain ⟨hR, hP, hT, hF, hO, hBW⟩ := blk5 w #[.string C, .string K] #[.slice a1 n1 c1, .slice a2 n2 c2, .slice a3 n3 c3] #[.slice xt nt pt, .string sd, .int .i64 ti] #[.slice none 0 0, .string ⟨#[]⟩, .slice none 0 0] #[.slice none 0 0, .string ⟨#[]⟩, .int .i64 0] 24 29 33 45 33
 clear hch hk
 obtain ⟨hRc0, hRf0, hRc1, hRf1⟩ := hR.x2
 obtain ⟨hPc0, hPf0, hPc1, hPf1, hPc2, hPf2⟩ := hP.x3
 go_enter Tryz.func32, Tryz.ntmps32
 go_wp2_with fail
 refine (HCH.out _ hBW).mono ?_
 rintro e w2 ⟨rfl, hb2⟩
 clear hRc0 hRf0 hRc1 hRf1
 clear hPc0 hPf0 hPc1 hPf1 hPc2 hPf2
 replace hF := hF.after hb2
 replace hO := hO.after hb2
 replace hBW := bt hBW hb2
 clear hb2 hR hP hT
 have hFl := hF.lt
 have hOl := hO.lt
 obtain ⟨hFc0, hFf0, hFc1, hFf1, hFc2, hFf2⟩ := hF.x3
 obtain ⟨hOc0, hOf0, hOc1, hOf1, hOc2, hOf2⟩ := hO.x3
 go_wp2
 refine bodyPost_ret (v := .tuple #[.agg #[.slice none 0 0, .string ⟨#[]⟩, .slice none 0 0], .agg #[.slice none 0 0, .string ⟨#[]⟩, .int .i64 0], .int .i64 k]) ?_ rfl ⟨_, _, _, [], [], _, k, rfl, ss_nil _, is_nil _, by simp, by simp, by simp, by simp, by show (0 : Nat) ≤ 16; omega, ⟨none, 0, 0, ⟨#[]⟩, 0, rfl⟩, farNN _, ?_⟩
 ·simp [results, Tryz.results32, go_sem, hFc0, hFc1, hFc2, hFl, hOc0, hOc1, hOc2, hOl]
 ·exact (((((hBW.setCell (by simp; omega) _).setCell (by simp; omega) _).setCell (by simp; omega) _).setCell (by simp; omega) _).setCell (by simp; omega) _).setCell (by simp; omega) _
end Go.Proofs.YtehoiholhkfcpaaGreat
end

section
set_option linter.unusedVariables false
set_option linter.unusedSimpArgs false
set_option maxRecDepth 100000
namespace Go.Proofs.YtehoiholhkfcpaaGreat
open Go.RowKit Go.Shelf

section
variable {w0 : World} {base gS gT gF gO gX : Nat} {cS : List Value} {uv : Value} {U : List ByteArray} {v14 a c x0 x1 : Value} {Z : List Int} {wf : World} {uo uo' : Option Addr} {m uc m' uc' : Nat} {sd sd' : ByteArray} {ti ti' : Int}

/-- a number and a tape are stored, in one order and in the other -/
theorem sim_xt (hJ : SimJ w0 base gS gT gF gO cS uv U v14 Z wf uo m uc sd ti) (hX : Blk wf gX 53 [x0, x1])
  (hT : TpAt wf (.agg #[.slice uo' m' uc', .string sd', .int .i64 ti'])) (hF : ∀ g, g ≤ gX → FarS (.slice uo' m' uc') g) (ho : ∀ g, v14.ownBlock = some g → g < gX)
  (h1 : gS < gX) (h2 : gF < gX) (h3 : gO < gX) (h4 : gT < gX) (n1 : gS ≠ gT) (n2 : gF ≠ gT) (n3 : gO ≠ gT) (n4 : w0.heap.size ≤ gT) (hu : FarS uv gT) (hux : FarS uv gX) (hot : FarS (.slice uo m uc) gX) :
  Blk (((((wf.setCell ⟨gX, 0, none⟩ a).setCell ⟨gX, 1, none⟩ c).setCell ⟨gT, 0, none⟩ (.slice uo' m' uc')).setCell ⟨gT, 1, none⟩ (.string sd')).setCell ⟨gT, 2, none⟩ (.int .i64 ti')) gX 53 [a, c] ∧
   SimI w0 base gS gT gF gO cS uv U v14 Z (((((wf.setCell ⟨gX, 0, none⟩ a).setCell ⟨gX, 1, none⟩ c).setCell ⟨gT, 0, none⟩ (.slice uo' m' uc')).setCell ⟨gT, 1, none⟩ (.string sd')).setCell ⟨gT, 2, none⟩ (.int .i64 ti')) := by
 have e : gX ≠ gT := by omega
 have hov : v14.ownBlock ≠ some gX := fun e => Nat.lt_irrefl _ (ho gX e)
 have hJ2 := ((hJ.x (g := gX) (i := 0) (x := a) (by omega) (by omega) (by omega) (by omega) (by omega) hux hot hov).x (g := gX) (i := 1) (x := c) (by omega) (by omega) (by omega) (by omega) (by omega) hux hot hov)
 have hI2 : SimI w0 base gS gT gF gO cS uv U v14 Z ((wf.setCell ⟨gX, 0, none⟩ a).setCell ⟨gX, 1, none⟩ c) := ⟨_, _, _, _, _, hJ2⟩
 refine ⟨((((hX.set 0 a).set 1 c).other _ _ e).other _ _ e).other _ _ e, ⟨_, _, _, _, _, hI2.tape ((hT.set_far (hF gX (Nat.le_refl _))).set_far (hF gX (Nat.le_refl _))) (hF gT (by omega)) (fun g hg => hF g (Nat.le_of_lt (ho g hg))) n1 n2 n3 n4 hu⟩⟩

theorem sim_tx (hJ : SimJ w0 base gS gT gF gO cS uv U v14 Z wf uo m uc sd ti) (hX : Blk wf gX 53 [x0, x1])
  (hT : TpAt wf (.agg #[.slice uo' m' uc', .string sd', .int .i64 ti'])) (hF : ∀ g, g ≤ gX → FarS (.slice uo' m' uc') g) (ho : ∀ g, v14.ownBlock = some g → g < gX)
  (h1 : gS < gX) (h2 : gF < gX) (h3 : gO < gX) (h4 : gT < gX) (n1 : gS ≠ gT) (n2 : gF ≠ gT) (n3 : gO ≠ gT) (n4 : w0.heap.size ≤ gT) (hu : FarS uv gT) (hux : FarS uv gX) :
  Blk (((((wf.setCell ⟨gT, 0, none⟩ (.slice uo' m' uc')).setCell ⟨gT, 1, none⟩ (.string sd')).setCell ⟨gT, 2, none⟩ (.int .i64 ti')).setCell ⟨gX, 0, none⟩ a).setCell ⟨gX, 1, none⟩ c) gX 53 [a, c] ∧
   SimI w0 base gS gT gF gO cS uv U v14 Z (((((wf.setCell ⟨gT, 0, none⟩ (.slice uo' m' uc')).setCell ⟨gT, 1, none⟩ (.string sd')).setCell ⟨gT, 2, none⟩ (.int .i64 ti')).setCell ⟨gX, 0, none⟩ a).setCell ⟨gX, 1, none⟩ c) := by
 have e : gX ≠ gT := by omega
 have hov : v14.ownBlock ≠ some gX := fun e => Nat.lt_irrefl _ (ho gX e)
 have hI : SimI w0 base gS gT gF gO cS uv U v14 Z wf := ⟨_, _, _, _, _, hJ⟩
 have hJ2 := hI.tape hT (hF gT (by omega)) (fun g hg => hF g (Nat.le_of_lt (ho g hg))) n1 n2 n3 n4 hu
 have hf := hF gX (Nat.le_refl _)
 exact ⟨((((hX.other _ _ e).other _ _ e).other _ _ e).set 0 a).set 1 c, ⟨_, _, _, _, _, (hJ2.x (g := gX) (i := 0) (x := a) (by omega) (by omega) (by omega) (by omega) (by omega) hux hf hov).x (g := gX) (i := 1) (x := c) (by omega) (by omega) (by omega) (by omega) (by omega) hux hf hov⟩⟩
end
end Go.Proofs.YtehoiholhkfcpaaGreat
end

section
set_option linter.unusedVariables false
set_option linter.unusedSimpArgs false
set_option maxRecDepth 100000
namespace Go.Proofs.YtehoiholhkfcpaaGreat
open Go.RowKit Go.Shelf

/-- what proof() leaves -/
def PrfPost (w : World) : Ending → World → Prop := fun e w' => ∃ (f rs : Value) (F : List ByteArray) (R : List (Bool × ByteArray)) (c : ByteArray), e = .returned (.agg #[f, .string c, rs]) ∧ SsAt w' f F ∧ IsAt w' rs R ∧ F.length ≤ 12 ∧ (∀ x ∈ F, x.size ≤ 9) ∧ R.length ≤ 12 ∧ (∀ x ∈ R, x.2.size ≤ 40) ∧ c.size ≤ 16 ∧ Below w.heap.size w w'

set_option maxHeartbeats 8000000 in
theorem proof_x (C K ch sd : ByteArray) (L : List (Bool × ByteArray)) (G : List Nat) (k : Nat) (s1 s2 s3 xw xl xt : Option Addr) (m1 m2 m3 d1 d2 d3 nw pw nl pl nt pt : Nat) (ti : Int) (w : World)
  (hn : ∀ x ∈ L, x.2.size ≤ 40) (hL : IsAt w (.slice xl nl pl) L) (hG : G.length ≤ 12) (hG9 : ∀ x ∈ G, x < 256 ^ 9)
  (H1 : ∀ w', Below w.heap.size w w' → Calls Tryz.prog 32 #[.agg #[.string C, .string K], .agg #[.slice s1 m1 d1, .slice s2 m2 d2, .slice s3 m3 d3], .string ch, .agg #[.slice xt nt pt, .string sd, .int .i64 ti]] w' (SimPost w'))
  (H2 : ∀ w', Below w.heap.size w w' → Calls Tryz.prog 9 #[.agg #[.string C, .string K], .agg #[.slice s1 m1 d1, .slice s2 m2 d2, .slice s3 m3 d3], .string ch, .slice xl nl pl] w' (FPost w' k G)) :
  Calls Tryz.prog 11 #[.agg #[.string C, .string K, .slice s1 m1 d1, .slice s2 m2 d2, .slice s3 m3 d3, .slice xw nw pw, .string ch, .slice xl nl pl, .slice xt nt pt, .string sd, .int .i64 ti]] w (PrfPost w) := by
 have HH1 := Lib.hid H1
 have HH2 := Lib.hid H2
 have HN := Lib.hid hn
 have HGL := Lib.hid hG
 have HG9 := Lib.hid hG9
 have hll : nl = L.length := by
  obtain ⟨a, c, e⟩ := RAt.form hL
  injection e
 have HLL := Lib.hid hll
 have HLA : Hid (∀ w', Below w.heap.size w w' → IsAt w' (.slice xl nl pl) L) := fun w' hb => IsAt.after hL hb
 clear H1 H2 hn hG hG9 hll hL
 have hC := (Blk.new w #[.string C, .string K, .slice s1 m1 d1, .slice s2 m2 d2, .slice s3 m3 d3, .slice xw nw pw, .string ch, .slice xl nl pl, .slice xt nt pt, .string sd, .int .i64 ti] 35).alloc (.cells #[.slice none 0 0, .string ⟨#[]⟩, .slice none 0 0] 45)
 have hO := blkN (w := w.alloc (.cells #[.string C, .string K, .slice s1 m1 d1, .slice s2 m2 d2, .slice s3 m3 d3, .slice xw nw pw, .string ch, .slice xl nl pl, .slice xt nt pt, .string sd, .int .i64 ti] 35)) (cs := #[.slice none 0 0, .string ⟨#[]⟩, .slice none 0 0]) (T := 45) (g := w.heap.size + 1) (by simp)
 have hBW := b2 w (.cells #[.string C, .string K, .slice s1 m1 d1, .slice s2 m2 d2, .slice s3 m3 d3, .slice xw nw pw, .string ch, .slice xl nl pl, .slice xt nt pt, .string sd, .int .i64 ti] 35) (.cells #[.slice none 0 0, .string ⟨#[]⟩, .slice none 0 0] 45)
 go_enter Tryz.func11, Tryz.ntmps11
 go_upto_region 1 with fail
 generalize ((w.alloc (.cells #[.string C, .string K, .slice s1 m1 d1, .slice s2 m2 d2, .slice s3 m3 d3, .slice xw nw pw, .string ch, .slice xl nl pl, .slice xt nt pt, .string sd, .int .i64 ti] 35)).alloc (.cells #[.slice none 0 0, .string ⟨#[]⟩, .slice none 0 0] 45)) = w1 at hC hO hBW ⊢
 obtain ⟨gC, hgC⟩ : ∃ g, w.heap.size = g := ⟨_, rfl⟩
 obtain ⟨gO, hgO⟩ : ∃ g, w.heap.size + 1 = g := ⟨_, rfl⟩
 rw [hgC] at hC
 rw [hgO] at hO
 rw [hgO, hgC]
 have HGO : Hid (w.heap.size ≤ gO) := by unfold Hid; omega
 have neCO : gC ≠ gO := by omega
 clear hgC hgO
 replace hC : Blk w1 gC 35 [.string C, .string K, .slice s1 m1 d1, .slice s2 m2 d2, .slice s3 m3 d3, .slice xw nw pw, .string ch, .slice xl nl pl, .slice xt nt pt, .string sd, .int .i64 ti] := hC
 replace hO : Blk w1 gO 45 [.slice none 0 0, .string ⟨#[]⟩, .slice none 0 0] := hO
 obtain ⟨hCc0, hCf0, hCc1, hCf1, hCc2, hCf2, hCc3, hCf3, hCc4, hCf4, hCc5, hCf5, hCc6, hCf6, hCc7, hCf7, hCc8, hCf8, hCc9, hCf9, hCc10, hCf10⟩ := hC.x11
 go_wp2_with fail
 refine (HH1.out _ hBW).mono ?_
 rintro e w2 ⟨f, rs, t, F, R, c, k2, rfl, hF, hR, hFn, hFs, hRn, hRs, hcs, hT, hFar, hb2⟩
 have hFO := hFar gO hO.lt
 clear hFar
 clear hCc0 hCf0 hCc1 hCf1 hCc2 hCf2 hCc3 hCf3 hCc4 hCf4 hCc5 hCf5 hCc6 hCf6 hCc7 hCf7 hCc8 hCf8 hCc9 hCf9 hCc10 hCf10
 replace hC := hC.after hb2
 replace hO := hO.after hb2
 replace hBW := bt hBW hb2
 have hO0 := hO.lt
 have hC0 := hC.lt
 clear hb2
 obtain ⟨af, cf, rfl⟩ := RAt.form hF
 obtain ⟨ar, cr, rfl⟩ := RAt.form hR
 obtain ⟨au, nv, cu, sd2, ti2, rfl⟩ := hT
 obtain ⟨nf, hnf⟩ : ∃ n, n = F.length := ⟨_, rfl⟩
 obtain ⟨nr, hnr⟩ : ∃ n, n = R.length := ⟨_, rfl⟩
 have HFN := Lib.hid hnf
 have HRN := Lib.hid hnr
 rw [← hnf] at hF ⊢
 rw [← hnr] at hR ⊢
 rw [← hnf, ← hnr] at hFO
 have HFO := Lib.hid hFO.1
 have HRO := Lib.hid hFO.2
 clear hFO
 have HFP : Hid (∀ g, g = w2.heap.size → FarS (.slice af nf cf) g) := fun g hg b o n c e hn hb => by
  rw [e] at hF
  have := hF.lt hn
  omega
 clear hnf hnr
 go_upto_region 2 with fail
 have hP := (Blk.new w2 #[.slice af nf cf, .string c, .slice ar nr cr] 45).alloc (.cells #[.slice au nv cu, .string sd2, .int .i64 ti2] 33)
 have hb3 := b2 w2 (.cells #[.slice af nf cf, .string c, .slice ar nr cr] 45) (.cells #[.slice au nv cu, .string sd2, .int .i64 ti2] 33)
 generalize ((w2.alloc (Obj.cells #[Value.slice af nf cf, Value.string c, Value.slice ar nr cr] 45)).alloc (Obj.cells #[Value.slice au nv cu, Value.string sd2, Value.int IntKind.i64 ti2] 33)) = w3 at hP hb3 ⊢
 have hbw2 := hBW
 replace hC := hC.after hb3
 replace hO := hO.after hb3
 replace hF := SsAt.after hF hb3
 replace hR := IsAt.after hR hb3
 replace hBW := bt hBW hb3
 clear hb3
 obtain ⟨gP, hgP⟩ : ∃ g, w2.heap.size = g := ⟨_, rfl⟩
 have neOP : gO ≠ gP := by have := hO0; omega
 have nePO : gP ≠ gO := fun e => neOP e.symm
 have HGP : Hid (w.heap.size ≤ gP) := by have := hbw2.size; unfold Hid; omega
 have neCP : gC ≠ gP := by have := hC0; omega
 have nePC : gP ≠ gC := fun e => neCP e.symm
 have HFQ := Lib.hid (HFP.out gP hgP.symm)
 clear HFP
 rw [hgP] at hP ⊢
 generalize w2.heap.size + 1 = gT
 clear hbw2 hgP hO0 hC0
 replace hP : Blk w3 gP 45 [.slice af nf cf, .string c, .slice ar nr cr] := hP
 by_cases hA : nl = nr
 ·subst hA
  by_cases hB : nl = 0
  ·have e1 : ((nl : Int) == (nl : Int)) = true := by simp
   have e2 : decide (0 < nl) = false := by rw [hB]; rfl
   have HB := Lib.hid hB
   clear hB
   obtain ⟨hCc0, hCf0, hCc1, hCf1, hCc2, hCf2, hCc3, hCf3, hCc4, hCf4, hCc5, hCf5, hCc6, hCf6, hCc7, hCf7, hCc8, hCf8, hCc9, hCf9, hCc10, hCf10⟩ := hC.x11
   obtain ⟨hPc0, hPf0, hPc1, hPf1, hPc2, hPf2⟩ := hP.x3
   go_upto_region 7 with fail
   clear hCc0 hCf0 hCc1 hCf1 hCc2 hCf2 hCc3 hCf3 hCc4 hCf4 hCc5 hCf5 hCc6 hCf6 hCc7 hCf7 hCc8 hCf8 hCc9 hCf9 hCc10 hCf10
   clear hPc0 hPf0 hPc1 hPf1 hPc2 hPf2
   have hPl := hP.lt
   have hOl := hO.lt
   obtain ⟨hPc0, hPf0, hPc1, hPf1, hPc2, hPf2⟩ := hP.x3
   obtain ⟨hOc0, hOf0, hOc1, hOf1, hOc2, hOf2⟩ := hO.x3
   go_wp2
   refine bodyPost_ret (v := .agg #[.slice af nf cf, .string c, .slice ar nl cr]) ?_ rfl ⟨_, _, F, R, c, rfl, ?_, ?_, hFn, hFs, hRn, hRs, hcs, ?_⟩
   ·simp [results, Tryz.results11, go_sem, hPc0, hPc1, hPc2, hPl, hOc0, hOc1, hOc2, hOl, nePO, neOP]
   ·exact ((hF.set_far HFO.out).set_far HFO.out).set_far HFO.out
   ·exact ((hR.set_far HRO.out).set_far HRO.out).set_far HRO.out
   ·exact ((hBW.setCell HGO.out _).setCell HGO.out _).setCell HGO.out _
  ·have e1 : ((nl : Int) == (nl : Int)) = true := by simp
   have e2 : decide (0 < nl) = true := by rw [decide_eq_true_iff]; omega
   clear hB
   have hCP := hC.lt
   have hPl := hP.lt
   obtain ⟨hCc0, hCf0, hCc1, hCf1, hCc2, hCf2, hCc3, hCf3, hCc4, hCf4, hCc5, hCf5, hCc6, hCf6, hCc7, hCf7, hCc8, hCf8, hCc9, hCf9, hCc10, hCf10⟩ := hC.x11
   obtain ⟨hPc0, hPf0, hPc1, hPf1, hPc2, hPf2⟩ := hP.x3
   go_wp2_with fail
   clear hCc0 hCf0 hCc1 hCf1 hCc2 hCf2 hCc3 hCf3 hCc4 hCf4 hCc5 hCf5 hCc6 hCf6 hCc7 hCf7 hCc8 hCf8 hCc9 hCf9 hCc10 hCf10
   clear hPc0 hPf0 hPc1 hPf1 hPc2 hPf2
   clear hCP hPl
   have hBS : Below w.heap.size w (w3.setCell ⟨gP, 2, none⟩ (.slice xl nl pl)) := hBW.setCell HGP.out _
   have hP4 : Blk (w3.setCell ⟨gP, 2, none⟩ (.slice xl nl pl)) gP 45 [.slice af nf cf, .string c, .slice xl nl pl] := hP.set 2 _
   have hO4 := hO.other ⟨gP, 2, none⟩ (.slice xl nl pl) neOP
   have hF4 := SsAt.set_far (i := 2) (x := .slice xl nl pl) hF HFQ.out
   refine (HH2.out _ hBS).mono ?_
   rintro e w5 ⟨v, rfl, hV, hb5⟩
   have HSP := Lib.hid hP4.lt
   have HSO := Lib.hid hO4.lt
   have HVF : Hid (FarS v gP ∧ FarS v gO) := ⟨fun b o n c e hn hb => by
    have h1 := (own_lt hV (g := b) (by rw [e]; rfl)).2
    have h2 := HSP.out
    omega, fun b o n c e hn hb => by
    have h1 := (own_lt hV (g := b) (by rw [e]; rfl)).2
    have h2 := HSO.out
    omega⟩
   replace hP := hP4.after hb5
   replace hO := hO4.after hb5
   replace hF := SsAt.after hF4 hb5
   replace hBW := bt hBS hb5
   clear hb5 hBS hP4 hO4 hF4 HSP HSO hC hR
   have hVs := NOwn.ss hV
   clear hV
   obtain ⟨av, cv, rfl⟩ := RAt.form hVs
   rw [List.length_map] at hVs HVF ⊢
   have HGM : Hid ((G.map E).length ≤ 12 ∧ ∀ x ∈ G.map E, x.size ≤ 9) := ⟨by rw [List.length_map]; exact HGL.out, fun x hx => by
    obtain ⟨y, hy, rfl⟩ := List.mem_map.1 hx
    exact (E_size_le y 9).2 (HG9.out y hy)⟩
   have HLN : Hid (L.length ≤ 12) := by unfold Hid; rw [← HLL.out, HRN.out]; exact hRn
   generalize G.length = gl at hVs HVF ⊢
   by_cases hk0 : k = 0
   ·subst hk0
    have hPl := hP.lt
    obtain ⟨hPc0, hPf0, hPc1, hPf1, hPc2, hPf2⟩ := hP.x3
    go_upto_region 7 with fail
    clear hPc0 hPf0 hPc1 hPf1 hPc2 hPf2
    clear hPl
    replace hBW : Below w.heap.size w (w5.setCell ⟨gP, 0, none⟩ (.slice av gl cv)) := hBW.setCell HGP.out _
    replace hP := hP.set 0 (.slice av gl cv)
    replace hP : Blk (w5.setCell ⟨gP, 0, none⟩ (.slice av gl cv)) gP 45 [.slice av gl cv, .string c, .slice xl nl pl] := hP
    replace hO := hO.other ⟨gP, 0, none⟩ (.slice av gl cv) neOP
    replace hVs := SsAt.set_far (i := 0) (x := .slice av gl cv) hVs HVF.out.1
    generalize w5.setCell ⟨gP, 0, none⟩ (.slice av gl cv) = w6 at hP hO hVs hBW ⊢
    have hPl := hP.lt
    have hOl := hO.lt
    obtain ⟨hPc0, hPf0, hPc1, hPf1, hPc2, hPf2⟩ := hP.x3
    obtain ⟨hOc0, hOf0, hOc1, hOf1, hOc2, hOf2⟩ := hO.x3
    go_wp2
    refine bodyPost_ret (v := .agg #[.slice av gl cv, .string c, .slice xl nl pl]) ?_ rfl ⟨_, _, (G.map E), L, c, rfl, ?_, ?_, HGM.out.1, HGM.out.2, HLN.out, HN.out, hcs, ?_⟩
    ·simp [results, Tryz.results11, go_sem, hPc0, hPc1, hPc2, hPl, hOc0, hOc1, hOc2, hOl, nePO, neOP]
    ·exact ((hVs.set_far HVF.out.2).set_far HVF.out.2).set_far HVF.out.2
    ·exact HLA.out _ (((hBW.setCell HGO.out _).setCell HGO.out _).setCell HGO.out _)
    ·exact ((hBW.setCell HGO.out _).setCell HGO.out _).setCell HGO.out _
   ·have e3 : ((k : Int) == 0) = false := by rw [beq_eq_false_iff_ne]; omega
    clear hk0
    obtain ⟨hPc0, hPf0, hPc1, hPf1, hPc2, hPf2⟩ := hP.x3
    go_upto_region 7 with fail
    clear hPc0 hPf0 hPc1 hPf1 hPc2 hPf2
    have hPl := hP.lt
    have hOl := hO.lt
    obtain ⟨hPc0, hPf0, hPc1, hPf1, hPc2, hPf2⟩ := hP.x3
    obtain ⟨hOc0, hOf0, hOc1, hOf1, hOc2, hOf2⟩ := hO.x3
    go_wp2
    refine bodyPost_ret (v := .agg #[.slice af nf cf, .string c, .slice xl nl pl]) ?_ rfl ⟨_, _, F, L, c, rfl, ?_, ?_, hFn, hFs, HLN.out, HN.out, hcs, ?_⟩
    ·simp [results, Tryz.results11, go_sem, hPc0, hPc1, hPc2, hPl, hOc0, hOc1, hOc2, hOl, nePO, neOP]
    ·exact ((hF.set_far HFO.out).set_far HFO.out).set_far HFO.out
    ·exact HLA.out _ (((hBW.setCell HGO.out _).setCell HGO.out _).setCell HGO.out _)
    ·exact ((hBW.setCell HGO.out _).setCell HGO.out _).setCell HGO.out _
 ·have e1 : ((nl : Int) == (nr : Int)) = false := by rw [beq_eq_false_iff_ne]; omega
  clear hA
  obtain ⟨hCc0, hCf0, hCc1, hCf1, hCc2, hCf2, hCc3, hCf3, hCc4, hCf4, hCc5, hCf5, hCc6, hCf6, hCc7, hCf7, hCc8, hCf8, hCc9, hCf9, hCc10, hCf10⟩ := hC.x11
  obtain ⟨hPc0, hPf0, hPc1, hPf1, hPc2, hPf2⟩ := hP.x3
  go_upto_region 7 with fail
  clear hCc0 hCf0 hCc1 hCf1 hCc2 hCf2 hCc3 hCf3 hCc4 hCf4 hCc5 hCf5 hCc6 hCf6 hCc7 hCf7 hCc8 hCf8 hCc9 hCf9 hCc10 hCf10
  clear hPc0 hPf0 hPc1 hPf1 hPc2 hPf2
  have hPl := hP.lt
  have hOl := hO.lt
  obtain ⟨hPc0, hPf0, hPc1, hPf1, hPc2, hPf2⟩ := hP.x3
  obtain ⟨hOc0, hOf0, hOc1, hOf1, hOc2, hOf2⟩ := hO.x3
  go_wp2
  refine bodyPost_ret (v := .agg #[.slice af nf cf, .string c, .slice ar nr cr]) ?_ rfl ⟨_, _, F, R, c, rfl, ?_, ?_, hFn, hFs, hRn, hRs, hcs, ?_⟩
  ·simp [results, Tryz.results11, go_sem, hPc0, hPc1, hPc2, hPl, hOc0, hOc1, hOc2, hOl, nePO, neOP]
  ·exact ((hF.set_far HFO.out).set_far HFO.out).set_far HFO.out
  ·exact ((hR.set_far HRO.out).set_far HRO.out).set_far HRO.out
  ·exact ((hBW.setCell HGO.out _).setCell HGO.out _).setCell HGO.out _
end Go.Proofs.YtehoiholhkfcpaaGreat
end

section
set_option linter.unusedVariables false
set_option linter.unusedSimpArgs false
set_option maxRecDepth 100000
namespace Go.Proofs.YtehoiholhkfcpaaGreat
open Go.RowKit Go.Shelf

/-- ref17.First, for any case of the law -/
theorem first_ref (S : Sta) (C K ch : ByteArray) (L : List (Bool × ByteArray)) (v1 v2 v3 v4 : Value) (w : World) (hC : C.size ≤ 8) (hK : K.size ≤ 8) (hch : ch.size ≤ 8) (hf : fewB S = true) (hS : StAt w v1 v2 v3 S) (hn : L.length ≤ 20) (hs : ∀ x ∈ L, x.2.size ≤ 24) (hL : IsAt w v4 L) :
  ∃ (k : Nat) (G : List Nat), G.length ≤ 12 ∧ (∀ x ∈ G, x < 256 ^ 9) ∧
   (∀ w', Below w.heap.size w w' → Calls Tryz.prog 9 #[.agg #[.string C, .string K], .agg #[v1, v2, v3], .string ch, v4] w' (FPost w' k G)) := by
 have hs2 : ∀ x ∈ L, x.2.size ≤ 1000 := fun x hx => by have := hs x hx; omega
 obtain ⟨k, hk, h1, h2⟩ | ⟨N, c, k, rfl, rfl, hc, hk, hm, hN, h0, c2, k2, hv, h1, h2⟩ := bnd7 S C K v1 v2 v3 w hC hK hf hS
 ·exact ⟨k, [], by simp, by simp, fun w' hb => rfirst_err C K ch v1 v2 v3 v4 k w' hk (fun w2 hb2 => h2 w2 (bt hb hb2))⟩
 ·cases hi : (vldB ch && ivsB L)
  ·exact ⟨3, [], by simp, by simp, fun w' hb => rfirst_form (E c) (E k) ch L _ v1 v2 v3 v4 w' (by omega) hs2 (by omega) (IsAt.after hL hb) hi (fun w2 hb2 => h2 w2 (bt hb hb2))⟩
  ·rw [Bool.and_eq_true] at hi
   obtain ⟨x, hx, rfl⟩ := numk hch hi.1
   obtain ⟨Z, rfl, hZ⟩ := ints_lift L 24 (by simpa [ivsB] using hi.2) hs
   have hz : ZsAt w v4 Z := hL
   have hzl : Z.length ≤ 1000 := by simp at hn; omega
   have hms := msgs_9 hm h0 x Z
   refine ⟨N.fir c k x Z, N.firL c k x Z, ?_, ?_, fun w' hb => rfirst_num N c k x Z v1 v2 v3 v4 w' hc hk (lt128 hx) hm (hN.after hb) h0 (ZsAt.after hz hb) (fun z h => up24 (hZ z h)) hzl (fun w2 hb2 => h2 w2 (bt hb hb2))⟩
   ·unfold NSta.firL
    split
    ·exact hms.1
    ·simp
   ·unfold NSta.firL
    split
    ·exact hms.2
    ·simp
end Go.Proofs.YtehoiholhkfcpaaGreat
end
