import Derived.Test.YtecobjddpinonaaGreatRPed1
set_option linter.unusedVariables false
set_option linter.unusedSimpArgs false
set_option maxRecDepth 100000
namespace Go.Proofs.YtecobjddpinonaaGreat
open Go.RowKit

theorem StrsAt.nat_lt {w : World} {ao : Option Addr} {L : List Nat} (h : StrsAt w ao (L.map E)) {k : Nat} (hk : k < L.length) : ∃ b, ao = some ⟨b, 0, none⟩ ∧ b < w.heap.size ∧ w.cell? ⟨b, k, none⟩ = some (.string (E L[k])) := by
  rcases h with h | ⟨b, h1, h2, h3⟩
  · simp at h; subst h; simp at hk
  · exact ⟨b, h1, h2, by rw [h3 k (by simpa using hk), List.getElem_map]⟩

set_option maxHeartbeats 1600000 in
theorem rready_bad1 (ka kb kc kd : ByteArray) (C : List ByteArray) (ao : Option Addr) (n : Nat) (w : World) (hn : C.length = n) (hn1 : n ≤ 1000) (hs : ∀ s ∈ C, s.size ≤ 1000) (hC : StrsAt w ao C) (hv : C.all vldB = false) :
    Calls Tryz.prog 36 #[.agg #[.string ka, .string kb, .string kc, .string kd], .slice ao n n] w fun e w' => e = .returned (.int .i64 3) ∧ Below w.heap.size w w' := by
  have HV := Lib.hid hv
  have HS := Lib.hid hs
  have HN := Lib.hid hn
  have hC1 : StrsAt (w.alloc (.cells #[Value.string ka, Value.string kb, Value.string kc, Value.string kd] 26)) ao C := hC.after (b1 _ _)
  clear hn hs hv hC
  go_enter Tryz.func36, Tryz.ntmps36
  go_wp2
  go_loop [5] (fun i => ∃ k : Nat, k ≤ n ∧ i = .int .i64 k ∧ Hid (∀ j (h : j < C.length), j < k → vldB C[j] = true)) (fun i => n - (intOf i).toNat)
  case atStart => exact ⟨0, by omega, rfl, fun j _ h => absurd h (Nat.not_lt_zero _)⟩
  case round =>
    obtain ⟨k, hk, rfl, HK⟩ := hrel
    by_cases hlt : k < n
    · have hkl : k < C.length := by rw [HN.out]; exact hlt
      obtain ⟨b, rfl, hc⟩ := hC1.at_ hkl
      have HSZ : Hid ((C[k]'hkl).size ≤ 4611686018427387904) := by have := HS.out _ (List.getElem_mem hkl); unfold Hid; omega
      cases hv : vldB (C[k]'hkl)
      · have HVV := Lib.hid hv
        clear hv
        generalize C[k]'hkl = s at hc HSZ HVV
        go_wp2_with fail
        refine (rvalidV_c s false _ HSZ.out HVV.out).mono ?_
        rintro e w' ⟨rfl, rfl⟩
        go_wp2
        go_ret
        exact ⟨rfl, b1 _ _⟩
      · have HVV := Lib.hid hv
        have HNX : Hid (∀ j (h : j < C.length), j < k + 1 → vldB C[j] = true) := fun j h hj => by
          by_cases e : j = k
          · subst e; exact hv
          · exact HK.out j h (by omega)
        clear hv
        generalize C[k]'hkl = s at hc HSZ HVV
        go_wp2_with fail
        refine (rvalidV_c s true _ HSZ.out HVV.out).mono ?_
        rintro e w' ⟨rfl, rfl⟩
        go_wp2
        go_round
        case rel => exact ⟨k + 1, by omega, by go_num, HNX⟩
        case measure => simp [intOf]; omega
    · exact (all_not HV.out fun j hj => HK.out j hj (by have := HN.out; omega)).elim

set_option maxHeartbeats 1600000 in
theorem rready_bad2 (ka kb kc kd : ByteArray) (C : List ByteArray) (ao : Option Addr) (n : Nat) (w : World) (hn : C.length = n) (hn1 : n ≤ 1000) (hs : ∀ s ∈ C, s.size ≤ 1000) (hC : StrsAt w ao C) (hv : C.all vldB = true)
    (ha : ka.size ≤ 1000) (hb : kb.size ≤ 1000) (hc : kc.size ≤ 1000) (hd : kd.size ≤ 1000) (hr : vl4 ka kb kc kd = false) :
    Calls Tryz.prog 36 #[.agg #[.string ka, .string kb, .string kc, .string kd], .slice ao n n] w fun e w' => e = .returned (.int .i64 3) ∧ Below w.heap.size w w' := by
  have HV := Lib.hid hv
  have HS := Lib.hid hs
  have HN := Lib.hid hn
  have HP := Lib.hid (fun w => rpedcheck_bad ka kb kc kd w ha hb hc hd hr)
  have hC1 : StrsAt (w.alloc (.cells #[Value.string ka, Value.string kb, Value.string kc, Value.string kd] 26)) ao C := hC.after (b1 _ _)
  clear hn hs hv hC ha hb hc hd hr
  go_enter Tryz.func36, Tryz.ntmps36
  go_wp2
  go_loop [5] (fun i => ∃ k : Nat, k ≤ n ∧ i = .int .i64 k) (fun i => n - (intOf i).toNat)
  case atStart => exact ⟨0, by omega, rfl⟩
  case round =>
    obtain ⟨k, hk, rfl⟩ := hrel
    by_cases hlt : k < n
    · have hkl : k < C.length := by rw [HN.out]; exact hlt
      obtain ⟨b, rfl, hc⟩ := hC1.at_ hkl
      have HSZ : Hid ((C[k]'hkl).size ≤ 4611686018427387904) := by have := HS.out _ (List.getElem_mem hkl); unfold Hid; omega
      have HVV := Lib.hid (all_get HV.out hkl)
      generalize C[k]'hkl = s at hc HSZ HVV
      go_wp2_with fail
      refine (rvalidV_c s true _ HSZ.out HVV.out).mono ?_
      rintro e w' ⟨rfl, rfl⟩
      go_wp2
      go_round
      case rel => exact ⟨k + 1, by omega, by go_num⟩
      case measure => simp [intOf]; omega
    · obtain rfl : k = n := by omega
      go_wp2_with fail
      refine (HP.out _).mono ?_
      rintro e w2 ⟨rfl, hb2⟩
      go_wp2
      go_ret
      exact ⟨rfl, bt (b1 _ _) hb2⟩

set_option maxHeartbeats 3200000 in
theorem rready_num (p q g h : Nat) (L : List Nat) (ao : Option Addr) (n : Nat) (w : World) (hn : L.length = n) (hn1 : n ≤ 1000) (hL : ∀ x ∈ L, x < 256 ^ 128) (hC : StrsAt w ao (L.map E))
    (hp : p < 256 ^ 8) (hq : q < 256 ^ 128) (hgb : g < 256 ^ 128) (hhb : h < 256 ^ 128) :
    Calls Tryz.prog 36 #[.agg #[.string (E p), .string (E q), .string (E g), .string (E h)], .slice ao n n] w fun e w' => e = .returned (.int .i64 (readyN p q g h L)) ∧ Below w.heap.size w w' := by
  have HL := Lib.hid hL
  have HN := Lib.hid hn
  have HP := Lib.hid hp
  have HQ := Lib.hid hq
  have HPC := Lib.hid (fun k w => rpedcheckV_c p q g h k w hp hq hgb hhb)
  have hB := Blk.new w #[Value.string (E p), Value.string (E q), Value.string (E g), Value.string (E h)] 26
  have hC1 : StrsAt (w.alloc (.cells #[Value.string (E p), Value.string (E q), Value.string (E g), Value.string (E h)] 26)) ao (L.map E) := hC.after (b1 _ _)
  have HR : Hid (readyN p q g h L = if pedE p q g h = 0 then (if q = 0 then 1 else if L.all (hasB p q) then 0 else 13) else 13) := rfl
  clear hn hL hC hp hq hgb hhb
  go_enter Tryz.func36, Tryz.ntmps36
  go_wp2
  go_loop [5] (fun i => ∃ k : Nat, k ≤ n ∧ i = .int .i64 k) (fun i => n - (intOf i).toNat)
  case atStart => exact ⟨0, by omega, rfl⟩
  case round =>
    obtain ⟨k, hk, rfl⟩ := hrel
    by_cases hlt : k < n
    · have hkl : k < L.length := by rw [HN.out]; exact hlt
      obtain ⟨b, rfl, hc⟩ := hC1.nat_at hkl
      have HVV := Lib.hid (HL.out _ (List.getElem_mem hkl))
      generalize L[k] = x at hc HVV
      go_wp2_with fail
      refine (rvalidE_c x _ HVV.out).mono ?_
      rintro e w' ⟨rfl, rfl⟩
      go_wp2
      go_round
      case rel => exact ⟨k + 1, by omega, by go_num⟩
      case measure => simp [intOf]; omega
    · obtain rfl : k = n := by omega
      clear hk hlt
      have hBW := b1 w (.cells #[Value.string (E p), Value.string (E q), Value.string (E g), Value.string (E h)] 26)
      rcases pedE_cases p q g h with he | he
      · have HE := Lib.hid he
        go_wp2_with fail
        refine (HPC.out 0 _ HE.out).mono ?_
        rintro e w2 ⟨rfl, hb2⟩
        replace hB := hB.after hb2
        replace hC1 := hC1.after hb2
        replace hBW := bt hBW hb2
        have hBc0 := hB.cell 0
        have hBf0 := hB.free 0
        have hBc1 := hB.cell 1
        have hBf1 := hB.free 1
        have hBc2 := hB.cell 2
        have hBf2 := hB.free 2
        have hBc3 := hB.cell 3
        have hBf3 := hB.free 3
        by_cases hq0 : q = 0
        · have hz := zE hq0
          have HR' : Hid (readyN p q g h L = 1) := by rw [Hid, HR.out, if_pos he, if_pos hq0]
          clear he hq0
          go_wp2
          go_ret
          exact ⟨ri (by rw [HR'.out]; rfl), hBW⟩
        · have hz := nzE (Nat.pos_of_ne_zero hq0)
          have HG := Lib.hid (pedE_grp he)
          have HR' : Hid (readyN p q g h L = if L.all (hasB p q) then 0 else 13) := by rw [Hid, HR.out, if_pos he, if_neg hq0]
          clear he hq0
          go_wp2
          clear hBc0 hBf0 hBc1 hBf1 hBc2 hBf2 hBc3 hBf3
          go_loopw [7] (fun i wr => ∃ k' : Nat, k' ≤ k ∧ i = .int .i64 k' ∧ Hid (∀ j (h : j < L.length), j < k' → hasB p q L[j] = true) ∧ Below w2.heap.size w2 wr) (fun i _ => k - (intOf i).toNat)
          case atStart => exact ⟨0, by omega, rfl, fun j _ h => absurd h (Nat.not_lt_zero _), Below.refl _ _⟩
          case round =>
            obtain ⟨k', hk, rfl, HK, hbr⟩ := hrel
            obtain ⟨wp, hwp⟩ : ∃ wp, wp = wr := ⟨_, rfl⟩
            subst hwp
            replace hB := hB.after hbr
            have hBc0 := hB.cell 0
            have hBf0 := hB.free 0
            have hBc1 := hB.cell 1
            have hBf1 := hB.free 1
            have hBc2 := hB.cell 2
            have hBf2 := hB.free 2
            have hBc3 := hB.cell 3
            have hBf3 := hB.free 3
            by_cases hlt : k' < k
            · have hkl : k' < L.length := by rw [HN.out]; exact hlt
              obtain ⟨b, rfl, hcb, hc⟩ := (hC1.after hbr).nat_lt hkl
              have HVV := Lib.hid (HL.out _ (List.getElem_mem hkl))
              cases hh : hasB p q (L[k']'hkl)
              · have HH := Lib.hid hh
                have HF : Hid (readyN p q g h L = 13) := by
                  rw [Hid, HR'.out, if_neg]
                  intro ha
                  have := List.all_eq_true.1 ha _ (List.getElem_mem hkl)
                  rw [hh] at this
                  exact Bool.noConfusion this
                clear hh
                generalize L[k']'hkl = x at hc HVV HH
                have hgc := hc
                have HHH := Lib.hid (fun w => rHasV_c p q x false w HP.out HQ.out HG.out HVV.out HH.out)
                have hxg : ∀ x : GW wp, (Proofs.YtecobjddpinonaaGreat.gw x).cell? ⟨b, k', none⟩ = wp.cell? ⟨b, k', none⟩ := fun x => (gw_below x).cell (p := ⟨b, k', none⟩) hcb
                rw [hc] at hxg
                have h0k : (0 : Int) ≤ (k' : Int) := by omega
                have h1k : (k' : Int) < (k : Int) := by omega
                have hBg0 := hB.gcell 0
                have hBg1 := hB.gcell 1
                have hBg2 := hB.gcell 2
                have hBg3 := hB.gcell 3
                clear hBc0 hBf0 hBc1 hBf1 hBc2 hBf2 hBc3 hBf3
                go_wp2_with fail
                refine wp_region_gw (by kernel_rfl) (by kernel_rfl) ?_
                repeat (go_big_quiet_step (first | (go_at_call 67; exact gw_of (HHH.out _))))
                refine wpQuiet_nil ?_
                rintro w4 ⟨xw4, rfl⟩
                have hb4 := gw_below xw4
                generalize gw xw4 = w4 at hb4
                go_wp2
                go_ret
                exact ⟨ri (by rw [HF.out]; rfl), bt (bt hBW hbr) hb4⟩
              · have HH := Lib.hid hh
                have HNX : Hid (∀ j (h : j < L.length), j < k' + 1 → hasB p q L[j] = true) := fun j h hj => by
                  by_cases e : j = k'
                  · subst e; exact hh
                  · exact HK.out j h (by omega)
                clear hh
                generalize L[k']'hkl = x at hc HVV HH
                have hgc := hc
                have HHH := Lib.hid (fun w => rHasV_c p q x true w HP.out HQ.out HG.out HVV.out HH.out)
                have hxg : ∀ x : GW wp, (Proofs.YtecobjddpinonaaGreat.gw x).cell? ⟨b, k', none⟩ = wp.cell? ⟨b, k', none⟩ := fun x => (gw_below x).cell (p := ⟨b, k', none⟩) hcb
                rw [hc] at hxg
                have h0k : (0 : Int) ≤ (k' : Int) := by omega
                have h1k : (k' : Int) < (k : Int) := by omega
                have hBg0 := hB.gcell 0
                have hBg1 := hB.gcell 1
                have hBg2 := hB.gcell 2
                have hBg3 := hB.gcell 3
                clear hBc0 hBf0 hBc1 hBf1 hBc2 hBf2 hBc3 hBf3
                go_wp2_with fail
                refine wp_region_gw (by kernel_rfl) (by kernel_rfl) ?_
                repeat (go_big_quiet_step (first | (go_at_call 67; exact gw_of (HHH.out _))))
                refine wpQuiet_nil ?_
                rintro w4 ⟨xw4, rfl⟩
                have hb4 := gw_below xw4
                generalize gw xw4 = w4 at hb4
                go_wp2
                go_roundw
                case rel => exact ⟨k' + 1, by omega, by go_num, HNX, bt hbr hb4⟩
                case measure => simp [intOf]; omega
            · obtain rfl : k' = k := by omega
              have HF : Hid (readyN p q g h L = 0) := by
                rw [Hid, HR'.out, if_pos]
                rw [List.all_eq_true]
                intro x hx
                obtain ⟨j, hj, rfl⟩ := List.mem_iff_getElem.1 hx
                exact HK.out j hj (by have := HN.out; omega)
              go_wp2
              go_ret
              exact ⟨ri (by rw [HF.out]; rfl), bt hBW hbr⟩
      · have HE := Lib.hid he
        have HR' : Hid (readyN p q g h L = 13) := by rw [Hid, HR.out, if_neg (by omega)]
        clear he
        go_wp2_with fail
        refine (HPC.out 13 _ HE.out).mono ?_
        rintro e w2 ⟨rfl, hb2⟩
        go_wp2
        go_ret
        exact ⟨ri (by rw [HR'.out]; rfl), bt hBW hb2⟩

end Go.Proofs.YtecobjddpinonaaGreat
