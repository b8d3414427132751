/- law 27: the key and the example. -/
import Derived.Test.YtfgandecbkbleaaGreatDoorPp27
import Derived.Test.YtfgandecbkbleaaGreatDoorRinv
import Derived.Test.YtfgandecbkbleaaGreatDoorStep
import Derived.Test.YtfgandecbkbleaaGreatDoorDf1
import Derived.Test.YtfgandecbkbleaaGreatDoorLc27
section
/- coins.Values; the key of law 27. -/
set_option linter.unusedVariables false
set_option linter.unusedSimpArgs false
set_option maxRecDepth 100000
namespace Go.Proofs.YtfgandecbkbleaaGreatDoor
open Go.RowKit Go.Shelf

/-- at the list of a plain region -/
theorem wpList_append_all {P : Program} {w : World} {ops : Array Oper} {rest : List Oper} {o : Oper} {a : Act} {Q : Exit → Act → World → Prop} (hgd : o.guard = none) (s x : Operand) (t : TypeId)
  (ho : o.op = .call { callee := .builtin .append, args := #[s, x], argTypes := #[t, t] }) {v : Value} {ao : Option Addr} {m c : Nat} (hs : a.eval s = v) (hx : a.eval x = .slice ao m c)
  (base : Nat) (e : TypeId) (i : TypeInfo) (z : Value) (bytes : Nat) (ht : P.underlying t = some (.slice e)) (hi : P.info? e = some i) (hz : i.zero = some z)
  (hsize : i.size = 1) (hby : i.bytes = bytes) (hzs : z.cells.size = 1) (n : Nat) (xs : List Value) (hown : w.ownsRow base e 1 v n xs) (M : List ByteArray) (hM : SsAt w (.slice ao m c) M)
  (h63 : n + m ≤ maxLen) (hbytes : (n + m) * bytes ≤ 140737488355328) (hbase : base ≤ w.heap.size)
  (h : ∀ v' w', w'.ownsRow base e 1 v' (n + m) (xs ++ M.map .string) → w.grownBy w' v.ownBlock → (∀ g, v.ownBlock = some g → base ≤ g ∧ g < w.heap.size) → wpList P ops Q rest (a.put o.dst v') w') : wpList P ops Q (o :: rest) a w := by
 obtain ⟨v', w', h1, h2, h3⟩ := run_append_all (P := P) w t o.type base e i z bytes ht hi hz hsize hby hzs v n xs hown ao m c M hM h63 hbytes hbase
 refine wpList_plain hgd fun _ hK => ?_
 unfold Oper.wp execOp
 simp only [ho, resolve, invoke, builtin, Sem.run_bind, Sem.run_pure, Result.andThen_ok, List.map_toArray, List.map_cons, List.map_nil, hs, hx, h1]
 exact hK _ _ (h v' w' h2 h3 (fun g hg => ⟨(own_lt hown hg).2, (own_lt hown hg).1⟩))

theorem clone_c (M : List ByteArray) (ad : Addr) (m c : Nat) (w : World) (hm : m ≤ 1000) (hM : SsAt w (.slice (some ad) m c) M) :
  Calls Tryz.prog 86 #[.slice (some ad) m c] w fun e w' => ∃ u, e = .returned u ∧ SsAt w' u M ∧ w'.ownsRow w.heap.size 22 1 u m (M.map .string) ∧ Below w.heap.size w w' := by
 obtain ⟨i0, hi0, hz00, hz01, hz02⟩ := info_parts info_nat
 have HI0 := Lib.hid hi0
 have HA0 := Lib.hid hz00
 have HB0 := Lib.hid hz01
 have HC0 := Lib.hid hz02
 clear hi0 hz00 hz01 hz02
 have HLN : Hid (m = M.length) := by
  obtain ⟨ao, c', e, _⟩ := hM
  injection e
 have hN := Blk.new w #[] 22
 have hbN := b1 w (.cells #[] 22)
 have hON : (w.alloc (.cells #[] 22)).ownsRow w.heap.size 22 1 (.slice (some ⟨w.heap.size, 0, none⟩) 0 0) 0 [] := own_blkB hN rfl (by decide) (Nat.le_refl _)
 have he : ∀ w : World, (binOp .eql 45 (.slice (some ad) m c) (.slice none 0 0)).run Tryz.prog w = .ok (.bool false) w := fun _ => by kernel_rfl
 go_enter Tryz.func86, Tryz.ntmps86
 go_wp2_with (at_builtin; go_loud (refine wpList_append_all rfl (.tmp 5) (.tmp 6) _ rfl rfl rfl w.heap.size 22 i0 _ 16 Tryz.underlying45 HI0.out HA0.out HB0.out HC0.out rfl 0 [] hON M (ss_alloc hM _) (by simp only [maxLen]; omega) (by omega) (by simp) ?_); intro ua wa hown hgr hbs)
 go_wp2
 go_ret
 rw [List.nil_append, Nat.zero_add] at hown
 exact ⟨_, rfl, ss_own M HLN.out hown, hown, hbN.grown hgr (by simp) (fun g hg => (hbs g hg).1)⟩
theorem cvalues_c (M : List ByteArray) (ad : Addr) (m c : Nat) (w : World) (hm : m ≤ 1000) (hM : SsAt w (.slice (some ad) m c) M) :
  Calls Tryz.prog 39 #[.slice (some ad) m c] w fun e w' => ∃ u, e = .returned (.agg #[u, .string ⟨#[]⟩, .int .i64 0]) ∧ SsAt w' u M ∧ Below w.heap.size w w' := by
 have hR := Blk.new w #[.slice none 0 0, .string ⟨#[]⟩, .int .i64 0] 47
 have hbR := b1 w (.cells #[.slice none 0 0, .string ⟨#[]⟩, .int .i64 0] 47)
 have HCL := Lib.hid (clone_c M ad m c _ hm (ss_alloc hM (.cells #[.slice none 0 0, .string ⟨#[]⟩, .int .i64 0] 47)))
 go_enter Tryz.func39, Tryz.ntmps39
 go_wp2_with fail
 refine HCL.out.mono ?_
 rintro e w2 ⟨u, rfl, hu, hown, hb2⟩
 have hR2 := hR.after hb2
 have hb := bt hbR hb2
 obtain ⟨uo, uc, rfl⟩ := RAt.form hu
 obtain ⟨ul, hul⟩ : ∃ l, l = M.length := ⟨_, rfl⟩
 have HUL := Lib.hid hul
 rw [← hul] at hu hown ⊢
 clear hul HCL hR hbR
 have hne := own_ne hown hR2 (by decide)
 have hF : FarS (.slice uo ul uc) w.heap.size := fun b o n c' e hn => by
  injection e with e1 e2 e3
  subst e1
  intro hb
  subst hb
  exact hne rfl
 have hRl := hR2.lt
 obtain ⟨hR2c0, hR2f0, hR2c1, hR2f1, hR2c2, hR2f2⟩ := hR2.x3
 go_wp2
 refine bodyPost_ret (v := .agg #[.slice uo ul uc, .string ⟨#[]⟩, .int .i64 0]) ?_ rfl ?_
 ·simp [results, Tryz.results39, go_sem, hR2c0, hR2c1, hR2c2, hRl]
 ·exact ⟨_, rfl, ((hu.set_far hF).set_far hF).set_far hF, ((hb.setCell (Nat.le_refl _) _).setCell (Nat.le_refl _) _).setCell (Nat.le_refl _) _⟩
end Go.Proofs.YtfgandecbkbleaaGreatDoor
end

section
set_option linter.unusedVariables false
set_option linter.unusedSimpArgs false
set_option maxRecDepth 100000
namespace Go.Proofs.YtfgandecbkbleaaGreatDoor
open Go.RowKit Go.Shelf

theorem l27key_c (w : World) : Calls Tryz.prog 38 #[] w fun e w' => e = .returned (.agg #[.string (E 77), .string ⟨#[]⟩, .string (E 4), .string (E 9)]) ∧ Below w.heap.size w w' := by
 have H1 : Hid (∀ w, Calls Tryz.prog 28 #[.int .u64 77] w fun e w' => e = .returned (.string (E 77)) ∧ Below w.heap.size w w') := fun w => l27num_c 77 w (by decide)
 have H2 : Hid (∀ w, Calls Tryz.prog 28 #[.int .u64 4] w fun e w' => e = .returned (.string (E 4)) ∧ Below w.heap.size w w') := fun w => l27num_c 4 w (by decide)
 have H3 : Hid (∀ w, Calls Tryz.prog 28 #[.int .u64 9] w fun e w' => e = .returned (.string (E 9)) ∧ Below w.heap.size w w') := fun w => l27num_c 9 w (by decide)
 generalize E 77 = s1 at H1 ⊢
 generalize E 4 = s2 at H2 ⊢
 generalize E 9 = s3 at H3 ⊢
 have hR := Blk.new w #[.string ⟨#[]⟩, .string ⟨#[]⟩, .string ⟨#[]⟩, .string ⟨#[]⟩] 26
 have hbR := b1 w (.cells #[.string ⟨#[]⟩, .string ⟨#[]⟩, .string ⟨#[]⟩, .string ⟨#[]⟩] 26)
 go_enter Tryz.func38, Tryz.ntmps38
 go_wp2_with fail
 refine (H1.out _).mono ?_
 rintro e w1 ⟨rfl, hb1⟩
 go_wp2_with fail
 refine (H2.out _).mono ?_
 rintro e w2 ⟨rfl, hb2⟩
 go_wp2_with fail
 refine (H3.out _).mono ?_
 rintro e w3 ⟨rfl, hb3⟩
 have hR3 := ((hR.after hb1).after hb2).after hb3
 have hb := bt (bt (bt hbR hb1) hb2) hb3
 have hl := hR3.lt
 clear hR hbR hb1 hb2 hb3
 obtain ⟨hR3c0, hR3f0, hR3c1, hR3f1, hR3c2, hR3f2, hR3c3, hR3f3⟩ := hR3.x4
 go_wp2
 refine bodyPost_ret (v := .agg #[.string s1, .string ⟨#[]⟩, .string s2, .string s3]) ?_ rfl ⟨rfl, (((hb.setCell (Nat.le_refl _) _).setCell (Nat.le_refl _) _).setCell (Nat.le_refl _) _).setCell (Nat.le_refl _) _⟩
 simp [results, Tryz.results38, go_sem, hR3c0, hR3c1, hR3c2, hR3c3, hl]

/-- the example's tape, its parts and openings -/
def exT : Tp := ⟨[E 1, E 0, E 0, E 2], ⟨#[]⟩, 0⟩
def exP : List Nat := [67, 4, 4, 16]
def exO : List (Nat × Nat) := [(2, 1), (1, 0), (1, 0), (1, 2)]
def exW : List Int := [2, 1, 1, 0, 1, 0, 1, 2, -2]
theorem exT_ok : exT.Ok := ⟨by decide, by
 intro x hx
 have hx : x ∈ [E 1, E 0, E 0, E 2] := hx
 simp only [List.mem_cons, List.not_mem_nil, or_false] at hx
 rcases hx with rfl | rfl | rfl | rfl <;> exact Nat.le_trans ((E_size_le _ 1).2 (by decide)) (by decide), by decide⟩
theorem ex_ky : kyV (E 77) (E 0) (E 4) (E 9) = 0 := by
 unfold kyV
 rw [pedV_E (by decide) (by decide) (by decide) (by decide), show pedE 77 0 4 9 = 0 by decide]
 rfl
theorem ex_good : exT.good = true := by
 unfold Tp.good exT
 simp only [List.all_cons, List.all_nil, vldB_E 0 (by decide), vldB_E 1 (by decide), vldB_E 2 (by decide)]
 decide
theorem ex_coin (att : Att) (j : Nat) (x : Nat) (hj : j < 4) (hx : exT.vals[j]'hj = E x) (h5 : x < 5) : prC att 5 exT j = (0, x) := by
 unfold prC coin
 have hg : (exT.on j).good = true := by
  have h := ex_good
  unfold Tp.good at h ⊢
  rw [Bool.and_eq_true] at h
  rw [Bool.and_eq_true]
  refine ⟨h.1, ?_⟩
  show (decide (0 ≤ (0 : Int) + (j : Int)) && decide ((0 : Int) + (j : Int) ≤ 2147483647)) = true
  rw [decide_eq_true (by omega), decide_eq_true (by omega)]; rfl
 rw [hg, if_neg (by decide), if_neg (by decide)]
 have e : (exT.on j).pos.toNat = j := by show ((0 : Int) + (j : Int)).toNat = j; omega
 refine coinD_val (T := exT.on j) (x := x) (by rw [e]; exact hj) ?_ h5
 have : (exT.on j).vals = exT.vals := rfl
 simp only [e, this]
 exact hx
theorem ex_pr (att : Att) : prR att (E 77) (E 0) (E 4) (E 9) 3 false (E 10) false (E 2) (E 5) exT = ⟨0, exP, exO, exT.on 4⟩ := by
 unfold prR
 have hv : ∀ n : Nat, n < 256 → ivB false (E n) = true := fun n h => by
  have := ivB_I (n : Int) (by rw [Int.natAbs_natCast]; exact Nat.lt_of_lt_of_le h (by decide))
  rwa [sg_nat, Int.natAbs_natCast] at this
 rw [hv 10 (by decide), hv 2 (by decide), vldB_E 5 (by decide), ex_good, if_neg (by decide), ex_ky, if_neg (by decide), if_neg (by rw [empty_E]; decide)]
 have e1 : intb false (E 10) = 10 := by unfold intb; rw [numb_E]; rfl
 rw [e1, numb_E, numb_E, numb_E, numb_E, if_neg (by decide)]
 have c0 := ex_coin att 0 1 (by decide) rfl (by decide)
 have c1 := ex_coin att 1 0 (by decide) rfl (by decide)
 have c2 := ex_coin att 2 0 (by decide) rfl (by decide)
 have c3 := ex_coin att 3 2 (by decide) rfl (by decide)
 have hr : roots (10 - 3) = [2, 1, 1, 1] := by decide
 rw [hr, prN_ok (fun j hj => by
  match j, hj with
  | 0, _ => rw [c0]
  | 1, _ => rw [c1]
  | 2, _ => rw [c2]
  | 3, _ => rw [c3])]
 have hp : prP att 77 4 9 5 [2, 1, 1, 1] exT 4 = exP := by
  show [cmtN 77 4 9 (2 : Nat) ((prC att 5 exT 0).2 : Nat), cmtN 77 4 9 (1 : Nat) ((prC att 5 exT 1).2 : Nat), cmtN 77 4 9 (1 : Nat) ((prC att 5 exT 2).2 : Nat), cmtN 77 4 9 (1 : Nat) ((prC att 5 exT 3).2 : Nat)] = exP
  rw [c0, c1, c2, c3]
  decide
 have ho : prO att 5 [2, 1, 1, 1] exT 4 = exO := by
  show [(2, (prC att 5 exT 0).2), (1, (prC att 5 exT 1).2), (1, (prC att 5 exT 2).2), (1, (prC att 5 exT 3).2)] = exO
  rw [c0, c1, c2, c3]
  decide
 rw [hp, ho]
theorem ex_wit : witR (E 77) (E 0) (E 4) (E 9) false (E 10) false (E 2) (exO.map nop) = (0, exW) := by
 have hv : ∀ n : Nat, n < 256 → ivB false (E n) = true := fun n h => by
  have := ivB_I (n : Int) (by rw [Int.natAbs_natCast]; exact Nat.lt_of_lt_of_le h (by decide))
  rwa [sg_nat, Int.natAbs_natCast] at this
 have hc : chkV ((false, E 10) :: (false, E 2) :: oL (exO.map nop)) [] (E 77) (E 0) (E 4) (E 9) = 0 := by
  unfold chkV
  rw [if_pos, ex_ky]
  refine ⟨?_, rfl⟩
  show (([(false, E 10), (false, E 2), (false, E 2), (false, E 1), (false, E 1), (false, E 0), (false, E 1), (false, E 0), (false, E 1), (false, E 2)] : List (Bool × ByteArray)).all iv2) = true
  simp only [List.all_cons, List.all_nil, iv2, hv 10 (by decide), hv 2 (by decide), hv 1 (by decide), hv 0 (by decide), Bool.and_self]
 unfold witR
 rw [hc, if_neg (by decide), if_neg (by decide)]
 have hi : ∀ n : Nat, intb false (E n) = (n : Int) := fun n => by unfold intb; rw [numb_E]; rfl
 have h1 : oZ (exO.map nop) = [2, 1, 1, 0, 1, 0, 1, 2] := by
  show [intb false (E 2), intb false (E 1), intb false (E 1), intb false (E 0), intb false (E 1), intb false (E 0), intb false (E 1), intb false (E 2)] = _
  simp only [hi]; rfl
 have h2 : restL (intb false (E 2)) (exO.map nop) = -2 := by
  show intb false (E 2) - intb false (E 2) * intb false (E 1) - intb false (E 1) * intb false (E 0) - intb false (E 1) * intb false (E 0) - intb false (E 1) * intb false (E 2) = -2
  simp only [hi]; rfl
 rw [h1, h2]; rfl
end Go.Proofs.YtfgandecbkbleaaGreatDoor
end
