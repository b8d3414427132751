/- dominolaw16.SigmaOnce: the row and its tied card. -/
import Derived.Test.YtcfjcenmcpankaaGreatDoorIdx
import Derived.Test.YtcfjcenmcpankaaGreatDoorRsp3
import Derived.Test.YtcfjcenmcpankaaGreatDoorAw16
import Derived.Test.YtcfjcenmcpankaaGreatDoorLck6
import Derived.Test.YtcfjcenmcpankaaGreatDoorRInt1
import Derived.Test.YtcfjcenmcpankaaGreatDoorLs16
import Derived.OpenShut
import Derived.Test.YtcfjcenmcpankaaGreatDoorLd16
import Derived.Test.YtcfjcenmcpankaaGreatDoorCards
import Derived.Test.YtcfjcenmcpankaaGreatDoorTie
import Derived.SevenTiedAt
section
set_option linter.unusedVariables false
set_option linter.unusedSimpArgs false
namespace Go.Proofs.YtcfjcenmcpankaaGreatDoor

/-- how often a mask below cur gives the response at an index -/
def cntI (lim : Nat) (s cur : Int) (i : Nat) : Nat := if (i : Int) - ((lim : Int) - 1) - s < cur then 1 else 0
def cntL (lim : Nat) (s cur : Int) : List Nat := (List.range (2 * lim - 1)).map (cntI lim s cur)
theorem cntL_len (lim : Nat) (s cur : Int) : (cntL lim s cur).length = 2 * lim - 1 := by simp [cntL]
theorem cntL_at (lim : Nat) (s cur : Int) (i : Nat) (h : i < 2 * lim - 1) (h2 : i < (cntL lim s cur).length) : (cntL lim s cur)[i] = cntI lim s cur i := by simp [cntL]
theorem cnt_start (lim m : Nat) (s : Int) (h : lim + s.natAbs ≤ m) : cntL lim s (1 - (m : Int)) = List.replicate (2 * lim - 1) 0 := by
 refine List.ext_getElem (by simp [cntL]) fun i h1 h2 => ?_
 rw [cntL_at _ _ _ _ (by simpa [cntL] using h1), List.getElem_replicate, cntI, if_neg]
 have : i < 2 * lim - 1 := by simpa [cntL] using h1
 omega
theorem cnt_end (lim m : Nat) (s : Int) (h : lim + s.natAbs ≤ m) (i : Nat) (h1 : i < 2 * lim - 1) : cntI lim s (m : Int) i = 1 := by
 rw [cntI, if_pos]
 omega
theorem cnt_hit (lim : Nat) (s cur : Int) (i : Nat) (h1 : (i : Int) = cur + s + ((lim : Int) - 1)) (h : i < 2 * lim - 1) : (cntL lim s cur).set i ((cntL lim s cur).getD i 0 + 1) = cntL lim s (cur + 1) := by
 refine List.ext_getElem (by simp [cntL]) fun j h2 h3 => ?_
 have hj : j < 2 * lim - 1 := by simpa [cntL] using h3
 rw [List.getElem_set, cntL_at _ _ _ _ hj]
 split
 ·rename_i e
  subst e
  rw [List.getD_eq_getElem?_getD, List.getElem?_eq_getElem (by simpa [cntL] using hj), Option.getD_some, cntL_at _ _ _ _ hj, cntL_at _ _ _ _ hj]
  unfold cntI
  rw [if_neg (by omega), if_pos (by omega)]
 ·rename_i e
  rw [cntL_at _ _ _ _ hj, cntI, cntI]
  split
  ·rw [if_pos (by omega)]
  ·rw [if_neg (by omega)]
theorem cnt_miss (lim : Nat) (s cur : Int) (h : lim ≤ (cur + s).natAbs) : cntL lim s cur = cntL lim s (cur + 1) := by
 refine List.ext_getElem (by simp [cntL]) fun j h2 h3 => ?_
 have hj : j < 2 * lim - 1 := by simpa [cntL] using h3
 rw [cntL_at _ _ _ _ hj, cntL_at _ _ _ _ hj, cntI, cntI]
 split
 ·rw [if_pos (by omega)]
 ·rw [if_neg (by omega)]
end Go.Proofs.YtcfjcenmcpankaaGreatDoor
end

section
set_option linter.unusedVariables false
set_option linter.unusedSimpArgs false
set_option maxRecDepth 100000
namespace Go.Proofs.YtcfjcenmcpankaaGreatDoor
open Go.RowKit Go.Shelf

theorem ra1 (p : Nat → Bool) : ra 1 p = p 0 := by simp [ra, List.range_succ]
/-- Respond on the statement of the examples with a bound: the error and what it returns -/
theorem once_resp (b c k x : Nat) (w m : Int) (hb : 1 ≤ b) (hx : x < c) (hw : w.natAbs < b) (hm : m.natAbs < k * c * b) :
  ((m + (x : Int) * w).natAbs < k * c * b - (c - 1) * (b - 1) → (exS b).rspE c k x [w] [m] = 0 ∧ (exS b).rspR c k x [w] [m] = [m + (x : Int) * w]) ∧
  (k * c * b - (c - 1) * (b - 1) ≤ (m + (x : Int) * w).natAbs → (exS b).rspE c k x [w] [m] = 15 ∧ (exS b).rspR c k x [w] [m] = []) := by
 have hb0 : ¬ b = 0 := by omega
 have e1 : ra (exS b).vars.length (inJ (exS b) [w]) = true := by
  show ra 1 _ = true
  rw [ra1, inJ_at _ _ 0 (by simp [exS]) (by simp)]
  show blw b w (if b = 0 then _ else b) = true
  rw [if_neg hb0]
  exact blw_pos hw (by omega)
 have e2 : ra (exS b).vars.length (mkJ (exS b) c k [m]) = true := by
  show ra 1 _ = true
  rw [ra1, mkJ_at _ _ _ _ 0 (by simp [exS]) (by simp)]
  show blw b m (lim _ c k b).1 = true
  unfold lim
  rw [if_neg hb0]
  exact blw_pos hm (by omega)
 obtain ⟨e3, e4⟩ := rspE_r (N := exS b) (C := c) (K := k) (c := x) (W := [w]) (M := [m]) rfl rfl hx e1 e2
 have e5 : ra (exS b).vars.length (rsJ (exS b) c k x [w] [m]) = blw b (m + (x : Int) * w) (k * c * b - (c - 1) * (b - 1)) := by
  show ra 1 _ = _
  rw [ra1, rsJ_at _ _ _ _ _ _ 0 (by simp [exS]) (by simp) (by simp)]
  show blw b (rspI _ b x m w) (lim _ c k b).2 = _
  unfold lim rspI
  rw [if_neg hb0, if_neg hb0]
 have e6 : (exS b).rspL x [w] [m] = [m + (x : Int) * w] := by
  show [rspI _ b x m w] = _
  unfold rspI
  rw [if_neg hb0]
 rw [e3, e4]
 refine ⟨fun h => ?_, fun h => ?_⟩
 ·obtain ⟨h1, h2⟩ := rsp2_0 (N := exS b) (C := c) (K := k) (c := x) (W := [w]) (M := [m]) (by rw [e5]; exact blw_pos h (by omega))
  exact ⟨h1, h2.trans e6⟩
 ·exact rsp2_15 (by rw [e5]; exact blw_ge h)
/-- the limit of the responses and the masks -/
theorem once_lim (b c k x : Nat) (w : Int) (hb : 1 ≤ b) (hc : 2 ≤ c) (hk : 2 ≤ k) (hx : x < c) (hw : w.natAbs < b) :
  k * c * b - (c - 1) * (b - 1) + ((x : Int) * w).natAbs ≤ k * c * b ∧ 1 ≤ k * c * b - (c - 1) * (b - 1) := by
 have h1 : ((x : Int) * w).natAbs ≤ (c - 1) * (b - 1) := by
  rw [Int.natAbs_mul, Int.natAbs_natCast]
  exact Nat.mul_le_mul (by omega) (by omega)
 have h2 : (c - 1) * (b - 1) + 1 ≤ k * c * b := by
  have a1 : (c - 1) * (b - 1) ≤ c * b := Nat.mul_le_mul (by omega) (by omega)
  have a2 : 2 * (c * b) ≤ k * (c * b) := Nat.mul_le_mul_right _ hk
  have a3 : 1 ≤ c * b := Nat.mul_pos (by omega) (by omega)
  rw [Nat.mul_assoc]
  omega
 omega
theorem exS_chk (b : Nat) (h1 : 1 ≤ b) (h6 : b ≤ 6) : (exS b).chk = 0 := by
 rcases (by omega : b = 1 ∨ b = 2 ∨ b = 3 ∨ b = 4 ∨ b = 5 ∨ b = 6) with rfl | rfl | rfl | rfl | rfl | rfl <;> decide +kernel
theorem exS_bndO (b c k : Nat) (h1 : 1 ≤ b) (h6 : b ≤ 6) (hc2 : 2 ≤ c) (hc : c < 256) (hk2 : 2 ≤ k) (hk : k < 256) (h0 : (exS b).chk = 0) (v1 v2 v3 : Value) (w : World) (hS : NAt w v1 v2 v3 (exS b)) :
  ∀ w', Below w.heap.size w w' → Calls Tryz.prog 42 #[.agg #[.string (E c), .string (E k)], .agg #[v1, v2, v3]] w' (BPost w' ((exS b).lims c k)) :=
 have hp : (256 : Nat) ≤ 256 ^ 16 := by decide
 fun w' hb1 => bounds_ok (exS b) c k v1 v2 v3 w' (by omega) (by omega) (by omega) (by omega) (fun h => by
  exfalso
  have : (b == 0) = true := by simpa [exS, vz] using h
  simp at this
  omega) (exS_ok b (by omega)) (hS.after hb1) h0
end Go.Proofs.YtcfjcenmcpankaaGreatDoor
end

section
/- dominoref02.Small at small numbers. -/
set_option linter.unusedVariables false
set_option linter.unusedSimpArgs false
set_option maxRecDepth 100000
namespace Go.Proofs.YtcfjcenmcpankaaGreatDoor
open Go.RowKit Go.Shelf

set_option maxHeartbeats 400000 in
theorem rsml1_c (n : Nat) (w : World) (h : n < 256 ^ 8) :
  Calls Tryz.prog 78 #[.string (E n)] w fun e w' => e = .returned (.tuple #[.int .u64 n, .bool true]) ∧ w = w' := by
 have hs := (E_size_le n 8).2 h
 have e1 : decide ((8 : Int) < ((E n).size : Int)) = false := decide_eq_false (by omega)
 have HV : Hid (∀ w, Calls Tryz.prog 43 #[.string (E n)] w fun e w' => e = .returned (.bool true) ∧ w = w') := fun w => rvalidE_c n w (Nat.lt_of_lt_of_le h (Nat.pow_le_pow_right (by decide) (by decide)))
 have HU : Hid (∀ w, Calls Tryz.prog 99 #[.string (E n)] w fun e w' => e = .returned (.int .u64 n) ∧ w = w') := fun w => ru64_c n w h
 generalize E n = s at e1 HV HU hs ⊢
 clear h
 go_enter Tryz.func78, Tryz.ntmps78
 go_wp2_with fail
 refine (HV.out _).mono ?_
 rintro e w1 ⟨rfl, rfl⟩
 go_wp2_with fail
 refine (HU.out _).mono ?_
 rintro e w2 ⟨rfl, rfl⟩
 go_wp2
 go_ret2
 exact ⟨rfl, rfl⟩

set_option maxHeartbeats 800000 in
theorem rsml_c (z : Int) (w : World) (h1 : -1000000 ≤ z) (h2 : z ≤ 1000000) :
  Calls Tryz.prog 32 #[.agg #[.bool (sg (z)), .string (E (z).natAbs)]] w fun e w' => e = .returned (.tuple #[.int .i64 z, .bool true]) ∧ Below w.heap.size w w' := by
 have hn : z.natAbs < 256 ^ 8 := by rw [← u64_as_pow]; omega
 have HV : Hid (∀ w, Calls Tryz.prog 77 #[.agg #[.bool (sg (z)), .string (E (z).natAbs)]] w fun e w' => e = .returned (.bool true) ∧ Below w.heap.size w w') := fun w => rivalB_c (sg z) (E z.natAbs) true w (by have := (E_size_le z.natAbs 8).2 hn; omega) (ivB_I z (Nat.lt_of_lt_of_le hn (Nat.pow_le_pow_right (by decide) (by decide))))
 have HS : Hid (∀ w, Calls Tryz.prog 78 #[.string (E z.natAbs)] w fun e w' => e = .returned (.tuple #[.int .u64 z.natAbs, .bool true]) ∧ w = w') := fun w => rsml1_c z.natAbs w hn
 have hP := Blk.new w #[.bool (sg z), .string (E z.natAbs)] 72
 have hBW := b1 w (.cells #[.bool (sg z), .string (E z.natAbs)] 72)
 obtain ⟨n, hzn⟩ : ∃ n, n = z.natAbs := ⟨_, rfl⟩
 rw [← hzn] at HV HS hP hBW ⊢
 by_cases hz : z < 0
 ·have hb : sg z = true := by unfold sg; exact decide_eq_true hz
  rw [hb] at HV hP hBW ⊢
  have HZ : Hid (z = -((n : Int) - 1) - 1) := by rw [Hid]; omega
  have e0 : decide ((n : Int) ≤ 9223372036854775808) = true := decide_eq_true (by omega)
  have a1 : (0 : Int) ≤ (n : Int) - 1 := by omega
  have a2 : (n : Int) - 1 ≤ 1000000 := by omega
  clear hn
  generalize E n = s at HV HS hP hBW ⊢
  clear h1 h2 hz hzn hb
  obtain ⟨hPc0, hPf0, hPc1, hPf1⟩ := hP.x2
  go_enter Tryz.func32, Tryz.ntmps32
  go_wp2_with fail
  refine (HV.out _).mono ?_
  rintro e w1 ⟨rfl, hb1⟩
  clear hPc0 hPf0 hPc1 hPf1
  replace hP := hP.after hb1
  replace hBW := bt hBW hb1
  clear hb1
  obtain ⟨hPc0, hPf0, hPc1, hPf1⟩ := hP.x2
  go_wp2_with fail
  refine (HS.out _).mono ?_
  rintro e w2 ⟨rfl, rfl⟩
  go_wp2
  go_ret2
  exact ⟨by rw [HZ.out]; go_num, hBW⟩
 ·have hb : sg z = false := by unfold sg; exact decide_eq_false hz
  rw [hb] at HV hP hBW ⊢
  have HZ : Hid (z = (n : Int)) := by rw [Hid]; omega
  have e0 : decide ((n : Int) < 9223372036854775808) = true := decide_eq_true (by omega)
  have a2 : (n : Int) ≤ 1000000 := by omega
  clear hn
  generalize E n = s at HV HS hP hBW ⊢
  clear h1 h2 hz hzn hb
  obtain ⟨hPc0, hPf0, hPc1, hPf1⟩ := hP.x2
  go_enter Tryz.func32, Tryz.ntmps32
  go_wp2_with fail
  refine (HV.out _).mono ?_
  rintro e w1 ⟨rfl, hb1⟩
  clear hPc0 hPf0 hPc1 hPf1
  replace hP := hP.after hb1
  replace hBW := bt hBW hb1
  clear hb1
  obtain ⟨hPc0, hPf0, hPc1, hPf1⟩ := hP.x2
  go_wp2_with fail
  refine (HS.out _).mono ?_
  rintro e w2 ⟨rfl, rfl⟩
  go_wp2
  go_ret2
  exact ⟨by rw [HZ.out]; go_num, hBW⟩
end Go.Proofs.YtcfjcenmcpankaaGreatDoor
end

section
/- dominolaw16.SigmaOnce: the walk. -/
set_option linter.unusedVariables false
set_option linter.unusedSimpArgs false
set_option maxRecDepth 100000
namespace Go.Proofs.YtcfjcenmcpankaaGreatDoor
open Go.RowKit Go.Shelf

theorem info_i64 : (Tryz.prog.info? 3).map (fun i => (i.zero, i.size, i.bytes)) = some (some (.int .i64 0), 1, 8) := by kernel_rfl
theorem Blk.asC {w : World} {g : Nat} {T : TypeId} {cs cs' : List Value} (h : Blk w g T cs) (e : cs = cs') : Blk w g T cs' := e ▸ h
/-- counts as cells -/
def nI (l : List Nat) : List Value := l.map fun (n : Nat) => Value.int .i64 (n : Int)
theorem nI_zero (n : Nat) : (List.replicate n (Value.int .i64 0)).toArray.toList = nI (List.replicate n 0) := by simp [nI]
theorem nI_at (l : List Nat) (j : Nat) (h : j < l.length) : (nI l)[j]? = some (.int .i64 (l.getD j 0 : Nat)) := by simp [nI, h, List.getD_eq_getElem?_getD]
theorem nI_set (l : List Nat) (j n : Nat) : (nI l).set j (.int .i64 (n : Int)) = nI (l.set j n) := by simp [nI, List.map_set]

set_option maxHeartbeats 3200000 in
theorem once_c (xB xW xC xH xS : Nat) (w : World) (h1 : xB < 256) (h2 : xW < 256) (h3 : xC < 256) (h4 : xH < 256) (h5 : xS < 256)
  (HAW : Hid (∀ w, Calls Tryz.prog 12 #[] w fun e w' => e = .returned (.bool true) ∧ Below w.heap.size w w')) :
  Calls Tryz.prog 8 #[.agg #[.int .u8 (xB : Int), .int .u8 (xW : Int), .int .u8 (xC : Int), .int .u8 (xH : Int), .int .u8 (xS : Int)]] w fun e w' => e = .returned (.bool true) ∧ Below w.heap.size w w' := by
 have hX := Blk.new w #[.int .u8 (xB : Int), .int .u8 (xW : Int), .int .u8 (xC : Int), .int .u8 (xH : Int), .int .u8 (xS : Int)] 66
 have hBW := b1 w (.cells #[.int .u8 (xB : Int), .int .u8 (xW : Int), .int .u8 (xC : Int), .int .u8 (xH : Int), .int .u8 (xS : Int)] 66)
 obtain ⟨b, hb⟩ : ∃ b, b = xB % 6 + 1 := ⟨_, rfl⟩
 obtain ⟨c, hc⟩ : ∃ c, c = xH % 4 + 2 := ⟨_, rfl⟩
 obtain ⟨k, hk⟩ : ∃ k, k = xS % 3 + 2 := ⟨_, rfl⟩
 have e1 : IntKind.i64.wrap ((xB : Int) % 6 + 1) = (b : Int) := by rw [IntWalk.i64_in _ (by omega)]; omega
 have e2 : IntKind.i64.wrap ((xH : Int) % 4 + 2) = (c : Int) := by rw [IntWalk.i64_in _ (by omega)]; omega
 have e3 : IntKind.i64.wrap ((xS : Int) % 3 + 2) = (k : Int) := by rw [IntWalk.i64_in _ (by omega)]; omega
 have e4 : IntKind.i64.wrap ((xB : Int) % 6) = (xB : Int) % 6 := by rw [IntWalk.i64_in _ (by omega)]
 have e5 : IntKind.i64.wrap ((xH : Int) % 4) = (xH : Int) % 4 := by rw [IntWalk.i64_in _ (by omega)]
 have e6 : IntKind.i64.wrap ((xS : Int) % 3) = (xS : Int) % 3 := by rw [IntWalk.i64_in _ (by omega)]
 have t1 : (xB : Int).tmod 6 = (xB : Int) % 6 := Int.tmod_eq_emod_of_nonneg (by omega)
 have t2 : (xH : Int).tmod 4 = (xH : Int) % 4 := Int.tmod_eq_emod_of_nonneg (by omega)
 have t3 : (xS : Int).tmod 3 = (xS : Int) % 3 := Int.tmod_eq_emod_of_nonneg (by omega)
 have u1 : IntKind.u8.wrap ((xB : Int) % 6) = (xB : Int) % 6 := by rw [IntKind.wrap_u8']; omega
 have u2 : IntKind.u8.wrap ((xH : Int) % 4) = (xH : Int) % 4 := by rw [IntKind.wrap_u8']; omega
 have u3 : IntKind.u8.wrap ((xS : Int) % 3) = (xS : Int) % 3 := by rw [IntKind.wrap_u8']; omega
 generalize hw1 : w.alloc (.cells #[.int .u8 (xB : Int), .int .u8 (xW : Int), .int .u8 (xC : Int), .int .u8 (xH : Int), .int .u8 (xS : Int)] 66) = w1 at hX hBW
 have q0 : w1.cell? ⟨w.heap.size, 0, none⟩ = some (.int .u8 (xB : Int)) := hX.cell 0
 have q1 : w1.cell? ⟨w.heap.size, 1, none⟩ = some (.int .u8 (xW : Int)) := hX.cell 1
 have q2 : w1.cell? ⟨w.heap.size, 2, none⟩ = some (.int .u8 (xC : Int)) := hX.cell 2
 have q3 : w1.cell? ⟨w.heap.size, 3, none⟩ = some (.int .u8 (xH : Int)) := hX.cell 3
 have q4 : w1.cell? ⟨w.heap.size, 4, none⟩ = some (.int .u8 (xS : Int)) := hX.cell 4
 have hXl := hX.lt
 go_enter Tryz.func8, Tryz.ntmps8
 go_upto_region 1 with fail
 have HXd : Hid (xW < 256 ∧ xC < 256) := ⟨h2, h3⟩
 go_cut [3, 4, 5] (fun s3 s4 s5 wc => s3 = .int .i64 (b : Int) ∧ s4 = .int .i64 (c : Int) ∧ s5 = .int .i64 (k : Int) ∧ wc = w1.drew)
 case first =>
  have HB := Lib.hid hb
  have HC := Lib.hid hc
  have HK := Lib.hid hk
  clear hb hc hk
  go_region
  go_wp2_with fail
  go_meet
  refine ⟨?_, ?_, ?_, rfl⟩
  ·rw [HB.out]; first | done | exact vi (by omega)
  ·rw [HC.out]; first | done | exact vi (by omega)
  ·rw [HK.out]; first | done | exact vi (by omega)
 case rest =>
 obtain ⟨rfl, rfl, rfl, rfl⟩ := hcut
 clear e1 e2 e3 e4 e5 e6 t1 t2 t3 u1 u2 u3
 obtain ⟨d, hd⟩ : ∃ d, d = xW % (2 * b - 1) := ⟨_, rfl⟩
 obtain ⟨x, hx⟩ : ∃ x, x = xC % c := ⟨_, rfl⟩
 obtain ⟨z, hz⟩ : ∃ z : Int, z = (d : Int) - ((b : Int) - 1) := ⟨_, rfl⟩
 have b6 : 1 ≤ b ∧ b ≤ 6 := by omega
 have c5 : 2 ≤ c ∧ c ≤ 5 := by omega
 have k4 : 2 ≤ k ∧ k ≤ 4 := by omega
 have hd2 : d < 2 * b - 1 := by rw [hd]; exact Nat.mod_lt _ (by omega)
 have hx2 : x < c := by rw [hx]; exact Nat.mod_lt _ (by omega)
 clear hb hc hk
 have e1 : IntKind.i64.wrap (2 * (b : Int)) = 2 * (b : Int) := by rw [IntWalk.i64_in _ (by omega)]
 have e2 : IntKind.i64.wrap (2 * (b : Int) - 1) = 2 * (b : Int) - 1 := by rw [IntWalk.i64_in _ (by omega)]
 have e3 : (xW : Int).tmod (2 * (b : Int) - 1) = (d : Int) := by
  rw [Int.tmod_eq_emod_of_nonneg (by omega), show 2 * (b : Int) - 1 = ((2 * b - 1 : Nat) : Int) by omega, ← Int.natCast_emod, hd]
 have e3' : (xW : Int) % (2 * (b : Int) - 1) = (d : Int) := by
  rw [show 2 * (b : Int) - 1 = ((2 * b - 1 : Nat) : Int) by omega, ← Int.natCast_emod, hd]
 have e4 : IntKind.i64.wrap (d : Int) = (d : Int) := by rw [IntWalk.i64_in _ (by omega)]
 have e5 : IntKind.i64.wrap ((b : Int) - 1) = (b : Int) - 1 := by rw [IntWalk.i64_in _ (by omega)]
 have e6 : IntKind.i64.wrap ((d : Int) - ((b : Int) - 1)) = z := by rw [IntWalk.i64_in _ (by omega), hz]
 have e7 : (xC : Int).tmod (c : Int) = (x : Int) := by rw [Int.tmod_eq_emod_of_nonneg (by omega), ← Int.natCast_emod, hx]
 have e7' : (xC : Int) % (c : Int) = (x : Int) := by rw [← Int.natCast_emod, hx]
 have e8 : IntKind.i64.wrap (x : Int) = (x : Int) := by rw [IntWalk.i64_in _ (by omega)]
 have e9 : ((2 * (b : Int) - 1) == 0) = false := by rw [beq_eq_false_iff_ne]; omega
 have e10 : ((c : Int) == 0) = false := by rw [beq_eq_false_iff_ne]; omega
 have e11 : ¬ (2 * (b : Int) - 1) = 0 := by omega
 have e12 : ¬ (c : Int) = 0 := by omega
 replace q1 : w1.drew.cell? ⟨w.heap.size, 1, none⟩ = some (.int .u8 (xW : Int)) := q1
 replace q2 : w1.drew.cell? ⟨w.heap.size, 2, none⟩ = some (.int .u8 (xC : Int)) := q2
 replace hBW := hBW.drew
 replace hXl : w.heap.size < w1.drew.heap.size := hXl
 clear q0 q3 q4
 generalize w1.drew = w2 at q1 q2 hBW hXl ⊢
 go_upto_region 2 with fail
 go_cut [6, 7] (fun s6 s7 wc => s6 = .int .i64 z ∧ s7 = .int .i64 (x : Int) ∧ wc = w2.drew)
 case first =>
  clear hz hd hx
  go_region
  go_wp2_with fail
  go_meet
  exact ⟨rfl, rfl, rfl⟩
 case rest =>
 obtain ⟨rfl, rfl, rfl⟩ := hcut
 have hzz : z.natAbs < b := by omega
 clear e3 e3' e7 e7' e9 e10 e11 e12 e1 e2 e4 e6 hd hx hz hd2 hw1 q1 q2 hXl hX h1 h2 h3 h4 h5 HXd
 replace hBW := hBW.drew
 generalize w2.drew = w3 at hBW ⊢
 have hbn : b < 256 ^ 8 := Nat.lt_of_lt_of_le (show b < 256 by omega) (by decide)
 have hcn : c < 256 ^ 8 := Nat.lt_of_lt_of_le (show c < 256 by omega) (by decide)
 have hkn : k < 256 ^ 8 := Nat.lt_of_lt_of_le (show k < 256 by omega) (by decide)
 have hxn : x < 256 ^ 8 := Nat.lt_of_lt_of_le (show x < 256 by omega) (by decide)
 have HBN := Lib.hid hbn
 have HCN := Lib.hid hcn
 have HKN := Lib.hid hkn
 have HXN := Lib.hid hxn
 clear hbn hcn hkn hxn
 have v1 : IntKind.u64.wrap (b : Int) = (b : Int) := by rw [IntKind.wrap_u64]; omega
 have v2 : IntKind.u64.wrap (c : Int) = (c : Int) := by rw [IntKind.wrap_u64]; omega
 have v3 : IntKind.u64.wrap (k : Int) = (k : Int) := by rw [IntKind.wrap_u64]; omega
 have v4 : IntKind.u64.wrap (x : Int) = (x : Int) := by rw [IntKind.wrap_u64]; omega
 go_wp2_with fail
 refine (rof_c b _ HBN.out).mono ?_
 rintro e w4 ⟨rfl, hb4⟩
 replace hBW := bt hBW hb4
 go_wp2_with fail
 refine (statement_c b _).mono ?_
 rintro e w5 ⟨y1, y2, y3, rfl, hS, hb5⟩
 obtain ⟨a1, j1, a2, j2, a3, j3, rfl, rfl, rfl⟩ := hS.forms
 replace hBW := bt hBW hb5
 clear hb4 hb5
 go_upto_region 4 with fail
 have hG8 := Blk.new w5 #[.slice a1 (exS b).grps.length j1, .slice a2 (exS b).vars.length j2, .slice a3 (exS b).eqs.length j3] 29
 replace hS := hS.after (b1 w5 (.cells #[.slice a1 (exS b).grps.length j1, .slice a2 (exS b).vars.length j2, .slice a3 (exS b).eqs.length j3] 29))
 replace hBW := ba hBW (.cells #[.slice a1 (exS b).grps.length j1, .slice a2 (exS b).vars.length j2, .slice a3 (exS b).eqs.length j3] 29)
 generalize w5.alloc (.cells #[.slice a1 (exS b).grps.length j1, .slice a2 (exS b).vars.length j2, .slice a3 (exS b).eqs.length j3] 29) = w6 at hG8 hS hBW ⊢
 obtain ⟨g8, hg8⟩ : ∃ g, w5.heap.size = g := ⟨_, rfl⟩
 rw [hg8] at hG8 ⊢
 clear hg8
 generalize (exS b).grps.length = m1 at hG8 hS ⊢
 generalize (exS b).vars.length = m2 at hG8 hS ⊢
 generalize (exS b).eqs.length = m3 at hG8 hS ⊢
 replace hG8 : Blk w6 g8 29 [.slice a1 m1 j1, .slice a2 m2 j2, .slice a3 m3 j3] := hG8
 go_wp2_with fail
 refine (rof_c c _ HCN.out).mono ?_
 rintro e w7 ⟨rfl, hb7⟩
 go_wp2_with fail
 refine (rof_c k _ HKN.out).mono ?_
 rintro e w8 ⟨rfl, hb8⟩
 have hb9 := bt hb7 hb8
 replace hG8 := hG8.after hb9
 replace hS := hS.after hb9
 replace hBW := bt hBW hb9
 clear hb7 hb8 hb9
 have hG9 := Blk.new w8 #[.string (E c), .string (E k)] 24
 replace hG8 := hG8.alloc (.cells #[.string (E c), .string (E k)] 24)
 replace hS := hS.after (b1 w8 (.cells #[.string (E c), .string (E k)] 24))
 replace hBW := ba hBW (.cells #[.string (E c), .string (E k)] 24)
 go_upto_region 5 with fail
 generalize w8.alloc (.cells #[.string (E c), .string (E k)] 24) = w9 at hG8 hG9 hS hBW ⊢
 obtain ⟨g9, hg9⟩ : ∃ g, w8.heap.size = g := ⟨_, rfl⟩
 rw [hg9] at hG9 ⊢
 clear hg9
 replace hG9 : Blk w9 g9 24 [.string (E c), .string (E k)] := hG9
 -- the numbers
 obtain ⟨kc, hkc⟩ : ∃ n, n = k * c := ⟨_, rfl⟩
 obtain ⟨m, hm⟩ : ∃ n, n = k * c * b := ⟨_, rfl⟩
 obtain ⟨dd, hdd⟩ : ∃ n, n = (c - 1) * (b - 1) := ⟨_, rfl⟩
 obtain ⟨lim, hlim⟩ : ∃ n, n = k * c * b - (c - 1) * (b - 1) := ⟨_, rfl⟩
 obtain ⟨s, hs⟩ : ∃ n : Int, n = (x : Int) * z := ⟨_, rfl⟩
 have hl2 := once_lim b c k x z b6.1 c5.1 k4.1 hx2 hzz
 rw [← hlim, ← hs, ← hm] at hl2
 have HRESP : Hid (∀ cur : Int, cur.natAbs < m → ((cur + s).natAbs < lim → (exS b).rspE c k x [z] [cur] = 0 ∧ (exS b).rspR c k x [z] [cur] = [cur + s]) ∧ (lim ≤ (cur + s).natAbs → (exS b).rspE c k x [z] [cur] = 15 ∧ (exS b).rspR c k x [z] [cur] = [])) := fun cur hc => by
  rw [hlim, hs]
  exact once_resp b c k x z cur b6.1 hx2 hzz (by rw [← hm]; exact hc)
 have kc20 : kc ≤ 20 := by rw [hkc]; exact Nat.mul_le_mul k4.2 c5.2
 have m120 : m ≤ 120 := by rw [hm, ← hkc]; exact Nat.mul_le_mul kc20 b6.2
 have dd20 : dd ≤ 20 := by rw [hdd]; exact Nat.mul_le_mul (show c - 1 ≤ 4 by omega) (show b - 1 ≤ 5 by omega)
 have hld : lim + dd = m := by omega
 have p1 : (k : Int) * (c : Int) = (kc : Int) := by rw [hkc, Int.natCast_mul]
 have p2 : (kc : Int) * (b : Int) = (m : Int) := by rw [hm, ← hkc, Int.natCast_mul]
 have p3 : ((c : Int) - 1) * ((b : Int) - 1) = (dd : Int) := by
  rw [hdd, Int.natCast_mul]
  congr 1 <;> omega
 have f1 : IntKind.i64.wrap ((k : Int) * (c : Int)) = (kc : Int) := by rw [p1, IntWalk.i64_in _ (by omega)]
 have f2 : IntKind.i64.wrap ((kc : Int) * (b : Int)) = (m : Int) := by rw [p2, IntWalk.i64_in _ (by omega)]
 have f3 : IntKind.i64.wrap ((c : Int) - 1) = (c : Int) - 1 := by rw [IntWalk.i64_in _ (by omega)]
 have f4 : IntKind.i64.wrap (((c : Int) - 1) * ((b : Int) - 1)) = (dd : Int) := by rw [p3, IntWalk.i64_in _ (by omega)]
 have f5 : IntKind.i64.wrap ((m : Int) - (dd : Int)) = (lim : Int) := by rw [IntWalk.i64_in _ (by omega)]; omega
 obtain ⟨n, hn⟩ : ∃ n, n = 2 * lim - 1 := ⟨_, rfl⟩
 have f6 : IntKind.i64.wrap (2 * (lim : Int)) = 2 * (lim : Int) := by rw [IntWalk.i64_in _ (by omega)]
 have f7 : IntKind.i64.wrap (2 * (lim : Int) - 1) = (n : Int) := by rw [IntWalk.i64_in _ (by omega)]; omega
 have f8 : IntKind.i64.wrap (1 - (m : Int)) = 1 - (m : Int) := by rw [IntWalk.i64_in _ (by omega)]
 have hmk : ∀ W : World, (Instr.makeSlice 70 (.int .i64 (n : Int)) (.int .i64 (n : Int))).run Tryz.prog W = .ok (.slice (some ⟨W.heap.size, 0, none⟩) n n) (W.alloc (.cells (List.replicate n (Value.int .i64 0)).toArray 3)) := run_mk (P := Tryz.prog) Tryz.underlying70 info_i64 n (by omega) (by omega)
 have hC : Blk (w9.alloc (.cells (List.replicate n (Value.int .i64 0)).toArray 3)) w9.heap.size 3 (nI (cntL lim s (1 - (m : Int)))) := Blk.asC (Blk.new w9 _ _) (by rw [cnt_start lim m s hl2.1, ← hn]; exact nI_zero n)
 have hB9 := b1 w9 (.cells (List.replicate n (Value.int .i64 0)).toArray 3)
 generalize (List.replicate n (Value.int .i64 0)).toArray = ZC at hmk hC hB9
 have HZ : Hid (∀ w, Calls Tryz.prog 31 #[.int .i64 z] w fun e w' => e = .returned (.agg #[.bool (sg (z)), .string (E (z).natAbs)]) ∧ Below w.heap.size w w') := fun w => riof_c z w (by omega) (by omega)
 have HXC : Hid (∀ w, Calls Tryz.prog 30 #[.int .u64 (x : Int)] w fun e w' => e = .returned (.string (E x)) ∧ Below w.heap.size w w') := fun w => rof_c x w HXN.out
 have HS0 := Lib.hid hs
 have HN := Lib.hid hn
 have HLD := Lib.hid hld
 clear hkc hm hdd hlim hs p1 p2 p3 kc20 dd20 hn hld
 go_wp2
 go_loopw [13] (fun i wr => ∃ cur : Int, 1 - (m : Int) ≤ cur ∧ cur ≤ m ∧ i = .int .i64 cur ∧ Blk wr w9.heap.size 3 (nI (cntL lim s cur)) ∧ Below w9.heap.size w9 wr) (fun i _ => ((m : Int) - intOf i).toNat)
 case atStart => exact ⟨_, by omega, by omega, rfl, hC, hB9⟩
 case round =>
  clear hC hB9 hmk f1 f2 f3 f4 f5 f6 f7 f8 v1 v2 v3
  obtain ⟨cur, hc1, hc2, rfl, hC, hbr⟩ := hrel
  obtain ⟨wp, hwp⟩ : ∃ wp, wp = wr := ⟨_, rfl⟩
  subst hwp
  by_cases hlt : cur < m
  ·have hSp := hS.after hbr
   have hG8p := hG8.after hbr
   have hG9p := hG9.after hbr
   have hC5 : CA wp [(⟨g9, 0, none⟩, .string (E c)), (⟨g9, 1, none⟩, .string (E k)), (⟨g8, 0, none⟩, .slice a1 m1 j1), (⟨g8, 1, none⟩, .slice a2 m2 j2), (⟨g8, 2, none⟩, .slice a3 m3 j3)] :=
    CA.cons hG9p.lt (hG9p.cell 0) (CA.cons hG9p.lt (hG9p.cell 1) (CA.cons hG8p.lt (hG8p.cell 0) (CA.cons hG8p.lt (hG8p.cell 1) (CA.cons hG8p.lt (hG8p.cell 2) (CA.nil _)))))
   have hr := HRESP.out cur (by omega)
   obtain ⟨er, her⟩ : ∃ er, er = (exS b).rspE c k x [z] [cur] := ⟨_, rfl⟩
   obtain ⟨Y, hY⟩ : ∃ Y, Y = (exS b).rspR c k x [z] [cur] := ⟨_, rfl⟩
   have hchk := exS_chk b b6.1 b6.2
   have HRS : Hid (∀ (W : World) (xw xm : Option Addr) (nw pw nm pm : Nat), NAt W (.slice a1 m1 j1) (.slice a2 m2 j2) (.slice a3 m3 j3) (exS b) → ZsAt W (.slice xw nw pw) [z] → ZsAt W (.slice xm nm pm) [cur] →
     Calls Tryz.prog 17 #[.agg #[.string (E c), .string (E k)], .agg #[.slice a1 m1 j1, .slice a2 m2 j2, .slice a3 m3 j3], .slice xw nw pw, .slice xm nm pm, .string (E x)] W fun e w' => ∃ a cc, e = .returned (.tuple #[.slice a Y.length cc, .int .i64 (er : Int)]) ∧ ZsAt w' (.slice a Y.length cc) Y ∧ Below W.heap.size W w') := fun W xw xm nw pw nm pm h1 h2 h3 => by
    have hbg : (256 : Nat) ^ 8 ≤ 256 ^ 64 := Nat.pow_le_pow_right (by decide) (by decide)
    have hbs : (65536 : Nat) ≤ 256 ^ 8 := by decide
    have h := sresp_num (exS b) c k x [z] [cur] _ _ _ _ _ W (Nat.lt_of_lt_of_le HCN.out (Nat.pow_le_pow_right (by decide) (by decide))) (Nat.lt_of_lt_of_le HKN.out (Nat.pow_le_pow_right (by decide) (by decide))) (exS_ok b (Nat.lt_of_lt_of_le HBN.out (Nat.pow_le_pow_right (by decide) (by decide)))) h1 (exS_bndO b c k b6.1 b6.2 (by omega) (by omega) (by omega) (by omega) hchk _ _ _ W h1) h2 h3 (Nat.lt_of_lt_of_le HXN.out (Nat.pow_le_pow_right (by decide) (by decide))) (by simp) (by simp)
     (by
       intro y hy; obtain rfl : y = z := by simpa using hy
       omega) (by
             intro y hy; obtain rfl : y = cur := by simpa using hy
             omega) (fun _ => by show 0 < 11; omega)
    rw [← her, ← hY] at h
    refine h.mono ?_
    rintro e w' ⟨v, rfl, hO, hbb⟩
    have h5 := ZOwn.zs hO
    obtain ⟨a', c', rfl⟩ := RAt.form h5
    rw [List.length_map] at h5 ⊢
    exact ⟨_, _, rfl, h5, hbb⟩
   rw [← her, ← hY] at hr
   clear her hY hchk
   have HM : Hid (∀ w, Calls Tryz.prog 31 #[.int .i64 cur] w fun e w' => e = .returned (.agg #[.bool (sg (cur)), .string (E (cur).natAbs)]) ∧ Below w.heap.size w w') := fun w => riof_c cur w (by omega) (by omega)
   have HR2 := Lib.hid hr
   clear hr
   go_upto_region 11 with fail
   go_cut [14, 15] (fun s14 s15 wx => (∃ a cc, s14 = .slice a Y.length cc ∧ ZsAt wx (.slice a Y.length cc) Y) ∧ s15 = .int .i64 (er : Int) ∧ Below wp.heap.size wp wx)
   case first =>
    clear hC hbr hG8 hG9 hS hBW HRESP HR2 hG8p hG9p
    go_region_held3 (fun w' => w'.cell? ⟨g9, 0, none⟩ = some (.string (E c)) ∧ w'.cell? ⟨g9, 1, none⟩ = some (.string (E k)) ∧ w'.cell? ⟨g8, 0, none⟩ = some (.slice a1 m1 j1) ∧ w'.cell? ⟨g8, 1, none⟩ = some (.slice a2 m2 j2) ∧ w'.cell? ⟨g8, 2, none⟩ = some (.slice a3 m3 j3)) ((refine CA.k5 ?_; repeat (first | (with_reducible exact hCd) | (with_reducible exact hCc) | (with_reducible exact hCb) | (with_reducible exact hCa) | (with_reducible exact hC5) | (with_reducible refine CA.drew ?_) | (with_reducible refine CA.alloc ?_ _))))
     (first | (go_at_call 31; (with_reducible refine Calls.mono (HZ.out _) ?_); rintro e wa ⟨rfl, hba⟩; (have hBa : Below wp.heap.size wp wa := bt (by repeat (first | (with_reducible exact hBc) | (with_reducible exact hBb) | (with_reducible exact hBa) | (with_reducible exact Below.refl _ _) | (with_reducible refine ba ?_ _) | (with_reducible refine Below.drew ?_) | fail)) hba); (have hCa : CA wa [(⟨g9, 0, none⟩, .string (E c)), (⟨g9, 1, none⟩, .string (E k)), (⟨g8, 0, none⟩, .slice a1 m1 j1), (⟨g8, 1, none⟩, .slice a2 m2 j2), (⟨g8, 2, none⟩, .slice a3 m3 j3)] := CA.after (by repeat (first | (with_reducible exact hCc) | (with_reducible exact hCb) | (with_reducible exact hCa) | (with_reducible exact hC5) | (with_reducible refine CA.drew ?_) | (with_reducible refine CA.alloc ?_ _) | fail)) hba)) | (go_at_call 31; (with_reducible refine Calls.mono (HM.out _) ?_); rintro e wb ⟨rfl, hbb⟩; (have hBb : Below wp.heap.size wp wb := bt (by repeat (first | (with_reducible exact hBc) | (with_reducible exact hBb) | (with_reducible exact hBa) | (with_reducible exact Below.refl _ _) | (with_reducible refine ba ?_ _) | (with_reducible refine Below.drew ?_) | fail)) hbb); (have hCb : CA wb [(⟨g9, 0, none⟩, .string (E c)), (⟨g9, 1, none⟩, .string (E k)), (⟨g8, 0, none⟩, .slice a1 m1 j1), (⟨g8, 1, none⟩, .slice a2 m2 j2), (⟨g8, 2, none⟩, .slice a3 m3 j3)] := CA.after (by repeat (first | (with_reducible exact hCc) | (with_reducible exact hCb) | (with_reducible exact hCa) | (with_reducible exact hC5) | (with_reducible refine CA.drew ?_) | (with_reducible refine CA.alloc ?_ _) | fail)) hbb)) | (go_at_call 30; (with_reducible refine Calls.mono (HXC.out _) ?_); rintro e wc ⟨rfl, hbc⟩; (have hBc : Below wp.heap.size wp wc := bt (by repeat (first | (with_reducible exact hBc) | (with_reducible exact hBb) | (with_reducible exact hBa) | (with_reducible exact Below.refl _ _) | (with_reducible refine ba ?_ _) | (with_reducible refine Below.drew ?_) | fail)) hbc); (have hCc : CA wc [(⟨g9, 0, none⟩, .string (E c)), (⟨g9, 1, none⟩, .string (E k)), (⟨g8, 0, none⟩, .slice a1 m1 j1), (⟨g8, 1, none⟩, .slice a2 m2 j2), (⟨g8, 2, none⟩, .slice a3 m3 j3)] := CA.after (by repeat (first | (with_reducible exact hCc) | (with_reducible exact hCb) | (with_reducible exact hCa) | (with_reducible exact hC5) | (with_reducible refine CA.drew ?_) | (with_reducible refine CA.alloc ?_ _) | fail)) hbc)) | (go_at_call 17; (with_reducible refine Calls.mono (HRS.out _ _ _ _ _ _ _ ?_ ?_ ?_) ?_); (focus (refine hSp.after ?_; repeat (first | (with_reducible exact hBc) | (with_reducible exact hBb) | (with_reducible exact hBa) | (with_reducible exact Below.refl _ _) | (with_reducible refine ba ?_ _) | (with_reducible refine Below.drew ?_) | fail))); (focus (refine zbrow (T := 72) ?_ rfl; repeat (first | ((with_reducible refine blkR ?_ ?_) <;> (first | (with_reducible rfl) | (focus (simp; done)) | rfl | fail)) | (with_reducible refine Blk.alloc ?_ _) | (with_reducible refine Blk.drew ?_) | (with_reducible refine Blk.after ?_ hbc) | (with_reducible refine Blk.after ?_ hbb) | fail))); (focus (refine zbrow (T := 72) ?_ rfl; repeat (first | ((with_reducible refine blkR ?_ ?_) <;> (first | (with_reducible rfl) | (focus (simp; done)) | rfl | fail)) | (with_reducible refine Blk.alloc ?_ _) | (with_reducible refine Blk.drew ?_) | (with_reducible refine Blk.after ?_ hbc) | (with_reducible refine Blk.after ?_ hbb) | fail))); rintro e wd ⟨aY, cY, rfl, hYs, hbd⟩; (have hBd : Below wp.heap.size wp wd := bt (by repeat (first | (with_reducible exact hBc) | (with_reducible exact hBb) | (with_reducible exact hBa) | (with_reducible exact Below.refl _ _) | (with_reducible refine ba ?_ _) | (with_reducible refine Below.drew ?_) | fail)) hbd); (have hCd : CA wd [(⟨g9, 0, none⟩, .string (E c)), (⟨g9, 1, none⟩, .string (E k)), (⟨g8, 0, none⟩, .slice a1 m1 j1), (⟨g8, 1, none⟩, .slice a2 m2 j2), (⟨g8, 2, none⟩, .slice a3 m3 j3)] := CA.after (by repeat (first | (with_reducible exact hCc) | (with_reducible exact hCb) | (with_reducible exact hCa) | (with_reducible exact hC5) | (with_reducible refine CA.drew ?_) | (with_reducible refine CA.alloc ?_ _) | fail)) hbd)))
    all_goals
     go_wp2_with fail
     go_meet
     exact ⟨⟨_, _, rfl, hYs⟩, rfl, hBd⟩
   case rest =>
   obtain ⟨⟨aY, cY, rfl, hYs⟩, rfl, hbx⟩ := hcut
   obtain ⟨wq, hwq⟩ : ∃ wq, wq = wc := ⟨_, rfl⟩
   subst hwq
   have hCq := hC.after hbx
   have hbq := bt hbr hbx
   clear hC hbr hbx hSp hG8p hG9p hC5 HRS HM HZ HXC hS hG8 hG9
   have HBQ := Lib.hid hbq
   by_cases hl : lim ≤ (cur + s).natAbs
   ·obtain rfl : er = 15 := HR2.out.2 hl |>.1
    have HL := Lib.hid hl
    clear hl
    have g1 : IntKind.i64.wrap (cur + 1) = cur + 1 := by rw [IntWalk.i64_in _ (by omega)]
    go_wp2
    go_roundw
    case rel => exact ⟨cur + 1, by omega, by omega, by go_num, by rw [← cnt_miss lim s cur HL.out]; exact hCq, HBQ.out⟩
    case measure => simp [intOf]; omega
   ·obtain ⟨rfl, rfl⟩ := HR2.out.1 (by omega)
    obtain ⟨n1, hn1⟩ : ∃ n : Int, n = cur + s := ⟨_, rfl⟩
    rw [← hn1] at hYs hl
    obtain ⟨bY, oY, rfl, hbY, y1, y2⟩ := ZsAt.at_ (k := 0) hYs (by simp)
    simp only [List.getElem_cons_zero, Nat.zero_mul, Nat.add_zero] at y1 y2
    obtain ⟨ix, hix⟩ : ∃ ix : Nat, ix = (n1 + (lim : Int) - 1).toNat := ⟨_, rfl⟩
    have hixe : (ix : Int) = n1 + (lim : Int) - 1 := by omega
    have hixn : ix < n := by have := HN.out; omega
    have HHIT := Lib.hid (cnt_hit lim s cur ix (by omega) (by have := HN.out; omega))
    have hcl : (cntL lim s cur).length = n := by rw [cntL_len, HN.out]
    have hcx : wq.cell? ⟨w9.heap.size, ix, none⟩ = some (.int .i64 (((cntL lim s cur).getD ix 0 : Nat) : Int)) := by rw [hCq.cell, nI_at _ _ (by omega)]
    have hle : (cntL lim s cur).getD ix 0 ≤ 1 := by
     rw [List.getD_eq_getElem?_getD, List.getElem?_eq_getElem (by omega), Option.getD_some, cntL_at _ _ _ _ (by have := HN.out; omega), cntI]
     split <;> omega
    have HIN : Hid (nI ((cntL lim s cur).set ix ((cntL lim s cur).getD ix 0 + 1)) = nI (cntL lim s (cur + 1))) := by rw [Hid, HHIT.out]
    have HSE := Lib.hid (nI_set (cntL lim s cur) ix ((cntL lim s cur).getD ix 0 + 1))
    generalize (cntL lim s cur).getD ix 0 = vx at hcx hle HIN HSE
    have HIX := Lib.hid hixe
    have HN1 := Lib.hid hn1
    have hf := hCq.free ix
    have hlq := hCq.lt
    have g1 : IntKind.i64.wrap (cur + 1) = cur + 1 := by rw [IntWalk.i64_in _ (by omega)]
    have g2 : IntKind.i64.wrap (n1 + (lim : Int)) = n1 + (lim : Int) := by rw [IntWalk.i64_in _ (by omega)]
    have g3 : IntKind.i64.wrap (n1 + (lim : Int) - 1) = (ix : Int) := by rw [IntWalk.i64_in _ (by omega)]; omega
    have g4 : IntKind.i64.wrap ((x : Int) * z) = s := by rw [← HS0.out, IntWalk.i64_in _ (by omega)]
    have g5 : IntKind.i64.wrap (cur + s) = n1 := by rw [← hn1, IntWalk.i64_in _ (by omega)]
    have g6 : IntKind.i64.wrap ((vx : Int) + 1) = (vx : Int) + 1 := by rw [IntWalk.i64_in _ (by omega)]
    have g7 : (0 : Int) ≤ (ix : Int) := by omega
    have g8' : (ix : Int) < (n : Int) := by omega
    have hn1a : -1000000 ≤ n1 := by omega
    have hn1b : n1 ≤ 1000000 := by omega
    have HSM := Lib.hid (fun w => rsml_c n1 w hn1a hn1b)
    have g9' : (n1 != n1) = false := by simp
    have d1 : decide ((ix : Int) < 0) = false := decide_eq_false (by omega)
    have d2 : decide ((n : Int) ≤ (ix : Int)) = false := decide_eq_false (by omega)
    clear hix hixe hn1 hl hYs hcl hn1a hn1b hixn
    go_wp2_with fail
    refine (HSM.out _).mono ?_
    rintro e w11 ⟨rfl, hb11⟩
    have hCz := hCq.after hb11
    have hcz := (hb11.cell (p := ⟨w9.heap.size, ix, none⟩) hlq).trans hcx
    have hfz := hCz.free ix
    have hlz := hCz.lt
    clear hcx hf hlq y1 y2
    go_wp2
    go_roundw
    case rel =>
     have h := hCz.set ix (.int .i64 ((vx + 1 : Nat) : Int))
     rw [HSE.out, HIN.out] at h
     exact ⟨cur + 1, by omega, by omega, by go_num, by rw [show (vx : Int) + 1 = ((vx + 1 : Nat) : Int) by omega]; exact h, (bt HBQ.out hb11).setCell (Nat.le_refl _) _⟩
    case measure => simp [intOf]; omega
  ·obtain rfl : cur = (m : Int) := by omega
   clear hG8 hG9 hS HRESP HZ HXC hlt hc1 hc2
   have HE := Lib.hid (fun j (hj : j < n) => cnt_end lim m s hl2.1 j (by have := HN.out; omega))
   have hBWq := bt hBW hbr
   clear hBW hbr hl2
   go_wp2
   go_loopw [153] (fun i wr => ∃ j : Nat, j ≤ n ∧ i = .int .i64 j ∧ wr = wp) (fun i _ => n - (intOf i).toNat)
   case atStart => exact ⟨0, by omega, rfl, rfl⟩
   case round =>
    obtain ⟨j, hj, rfl, hwr⟩ := hrel
    subst hwr
    obtain ⟨wz, hwz⟩ : ∃ wz, wz = wr := ⟨_, rfl⟩
    subst hwz
    by_cases hlt : j < n
    ·have hv := HE.out j hlt
     have hcl : (cntL lim s (m : Int)).length = n := by rw [cntL_len, HN.out]
     have hcx : wz.cell? ⟨w9.heap.size, j, none⟩ = some (.int .i64 1) := by
      rw [hC.cell, nI_at (cntL lim s (m : Int)) j (by rw [hcl]; exact hlt), List.getD_eq_getElem?_getD, List.getElem?_eq_getElem (by rw [hcl]; exact hlt), Option.getD_some, cntL_at _ _ _ _ (by have := HN.out; omega), hv]
      rfl
     have hcl2 := hC.lt
     have hj9 : j < 1000 := by have := HN.out; have := HLD.out; omega
     have h0 : (0 : Int) ≤ (j : Int) := by omega
     have h1 : (j : Int) < (n : Int) := by omega
     clear hv hcl
     go_wp2
     go_roundw
     case rel => exact ⟨j + 1, by omega, by go_num, trivial⟩
     case measure => simp [intOf]; omega
    ·obtain rfl : j = n := by omega
     go_wp2_with fail
     refine (HAW.out _).mono ?_
     rintro e w12 ⟨rfl, hb12⟩
     go_wp2
     go_ret
     exact ⟨rfl, bt hBWq hb12⟩
end Go.Proofs.YtcfjcenmcpankaaGreatDoor
end

section
/- dominolaw16.Bound as an argument: five numbers. -/
set_option linter.unusedVariables false
set_option linter.unusedSimpArgs false
set_option maxRecDepth 100000
namespace Go.Proofs.YtcfjcenmcpankaaGreatDoor
open Go.RowKit Go.WideShapes Go.ChangeShapes Go.ChangeAt Go.Joins Go.Deep
open Go.ChangeMaps (open_string shut_string)

theorem array5 {α : Type} {l : Array α} (h : l.size = 5) : ∃ a b c d e, l = #[a, b, c, d, e] := by
 obtain ⟨l⟩ := l
 match l, h with
 | [a, b, c, d, e], _ => exact ⟨a, b, c, d, e, rfl⟩
theorem zU8 : Tryz.prog.cellsOf 5 = 1 := by kernel_rfl
theorem zBnd : Tryz.prog.cellsOf 66 = 5 := by kernel_rfl
theorem nat_u8 {n : Int} (h : (Lit.int .u8 n).wf = true) : ∃ k : Nat, n = (k : Int) ∧ k < 256 := by
 obtain ⟨h1, h2⟩ := bounds_u8 h
 exact ⟨n.toNat, by omega, by omega⟩

section
variable {H : Type} {enc : TypeId × Value → H} {w : World} {base : Nat} {held : Bool}
theorem trod_struct5 {P : Program} {sp : Nat → Bool} {t : TypeId} {f0 f1 f2 f3 f4 : Field} {fuel : Nat} {cs : List Value} {x : DataW H × List MemPlace} (ht : P.underlying t = some (.struct #[f0, f1, f2, f3, f4])) (h : DataW.trod enc P w base sp held fuel t cs = some x) :
  ∃ y0 y1 y2 y3 y4 n, DataW.trod enc P w base sp held n f0.type ((cs.drop f0.offset).take (P.cellsOf f0.type)) = some y0 ∧
   DataW.trod enc P w base sp held n f1.type ((cs.drop f1.offset).take (P.cellsOf f1.type)) = some y1 ∧ DataW.trod enc P w base sp held n f2.type ((cs.drop f2.offset).take (P.cellsOf f2.type)) = some y2 ∧
   DataW.trod enc P w base sp held n f3.type ((cs.drop f3.offset).take (P.cellsOf f3.type)) = some y3 ∧ DataW.trod enc P w base sp held n f4.type ((cs.drop f4.offset).take (P.cellsOf f4.type)) = some y4 := by
 obtain ⟨xs, n, _, rfl, hl, hlen, hf⟩ := DataW.trod_struct ht h
 match xs, hlen with
 | [y0, y1, y2, y3, y4], _ => exact ⟨y0, y1, y2, y3, y4, n, by simpa using hf 0 f0 rfl, by simpa using hf 1 f1 rfl, by simpa using hf 2 f2 rfl, by simpa using hf 3 f3 rfl, by simpa using hf 4 f4 rfl⟩
theorem open_bound {r : Reach} {b0 : Nat} {v : Value} {d : DataW H} {p : List MemPlace} (hv : Value.okWide Tryz.prog w r b0 66 v) (h : DataW.Trod enc Tryz.prog w base (fun _ => true) held 66 v d p) :
  ∃ xB xW xC xH xS : Nat, v = .agg #[.int .u8 (xB : Int), .int .u8 (xW : Int), .int .u8 (xC : Int), .int .u8 (xH : Int), .int .u8 (xS : Int)] ∧ xB < 256 ∧ xW < 256 ∧ xC < 256 ∧ xH < 256 ∧ xS < 256 := by
 obtain ⟨cs, rfl, hsz⟩ := okWide_struct Tryz.underlying66 hv
 obtain ⟨c0, c1, c2, c3, c4, rfl⟩ := array5 (hsz.trans zBnd)
 obtain ⟨fuel, hf⟩ := h
 obtain ⟨_, _, _, _, _, m0, r0, r1, r2, r3, r4⟩ := trod_struct5 Tryz.underlying66 hf
 simp only [Value.cells, zU8, List.drop_succ_cons, List.drop_zero, List.take_succ_cons, List.take_zero] at r0 r1 r2 r3 r4
 obtain ⟨n0, h0, _, w0⟩ := DataW.trod_int Tryz.underlying5 r0
 obtain ⟨n1, h1, _, w1⟩ := DataW.trod_int Tryz.underlying5 r1
 obtain ⟨n2, h2, _, w2⟩ := DataW.trod_int Tryz.underlying5 r2
 obtain ⟨n3, h3, _, w3⟩ := DataW.trod_int Tryz.underlying5 r3
 obtain ⟨n4, h4, _, w4⟩ := DataW.trod_int Tryz.underlying5 r4
 simp only [List.cons.injEq, and_true] at h0 h1 h2 h3 h4
 subst h0 h1 h2 h3 h4
 obtain ⟨k0, rfl, b0⟩ := nat_u8 w0
 obtain ⟨k1, rfl, b1⟩ := nat_u8 w1
 obtain ⟨k2, rfl, b2⟩ := nat_u8 w2
 obtain ⟨k3, rfl, b3⟩ := nat_u8 w3
 obtain ⟨k4, rfl, b4⟩ := nat_u8 w4
 exact ⟨k0, k1, k2, k3, k4, rfl, b0, b1, b2, b3, b4⟩
end
end Go.Proofs.YtcfjcenmcpankaaGreatDoor
end

section
set_option linter.unusedVariables false
set_option linter.unusedSimpArgs false
set_option maxRecDepth 100000
namespace Go.Proofs.YtcfjcenmcpankaaGreatDoor
open Go.RowKit Go.WideShapes Go.ChangeShapes Go.ChangeAt Go.Joins Go.Deep
open Go.ChangeMaps (open_string shut_string)

theorem sonce_lifted (os : Os) (started : os.Started) (H : Type) (enc : TypeId × Value → H) :
  ReturnsInHanded {} Tryz.checked os 8 .any (fun w args => (Rows.sigmaOnceSpec.pre enc Tryz.prog Tryz.f8 [] false w args ∧ laidMetH Tryz.prog laid3 w) ∧ sizedMet enc Tryz.prog Tryz.f8 (OpenSpec.ofChange Rows.sigmaOnceSpec) false w args)
   (Rows.sigmaOnceSpec.post enc Tryz.prog Tryz.f8 false true false false) := by
 refine returnsInHanded_of_change_and (C := Tryz.checked) (X := fun w _ => laidMetH Tryz.prog laid3 w) (fun _ _ _ hh h => h.of_heap hh) own_knob started (by kernel_rfl) Tryz.func8
  (ChangeSpec.witness_shaped (enc := enc) (C := Tryz.checked) (os := os) (X := fun w _ => laidMetH Tryz.prog laid3 w) false (World.doorLaid Tryz.prog 24 os) #[.agg #[.int .u8 0, .int .u8 0, .int .u8 0, .int .u8 0, .int .u8 0]] 8 rfl (World.shaped_of_RefB (by kernel_rfl) (by kernel_rfl)) (by kernel_rfl) (by kernel_rfl) (by kernel_rfl) (door_met os _)) ?_
 intro W base args ds gs before hval0 hW _ _ _ _
 have hval : ∀ (j : Nat) t v, Tryz.f8.params[j]? = some t → args[j]? = some v → Value.okWide Tryz.prog W .any base t v := hval0
 have hW' := hW
 obtain ⟨p, q, hA0, hV, rfl, _, _⟩ := hW
 have hA : DataW.TrodAll enc Tryz.prog W 0 (fun _ => true) true Tryz.f8.params.toList args.toList ds p := hA0
 rw [Tryz.params8] at hA hval
 obtain ⟨v0, vs0, d0, ds0, p0, q0, hargs, rfl, rfl, h0, r0⟩ := trodAll_cons hA
 obtain ⟨rfl, rfl, rfl⟩ := trodAll_nil r0
 obtain rfl : args = #[v0] := by cases args; simp_all
 obtain ⟨rfl, rfl⟩ := trodVars_none hV
 simp only [List.append_nil] at hW'
 have hlt : ∀ x ∈ p0, x.block < W.heap.size := fun x hx => hW'.lt x hx
 have k0 := h0
 obtain ⟨xB, xW, xC, xH, xS, rfl, hx1, hx2, hx3, hx4, hx5⟩ := open_bound (hval 0 66 v0 rfl rfl) h0
 clear hA0 hval0 hA r0 h0
 refine (once_c xB xW xC xH xS W hx1 hx2 hx3 hx4 hx5 (Lib.hid (fun w => awake_c w))).mono fun en W' hh => ?_
 obtain ⟨rfl, hb⟩ := hh
 have stay : ∀ {t : TypeId} (hr : Tryz.prog.readableRec t = true) (hrow : t < Tryz.prog.types.size) {v : Value} {d : DataW H} {ps : List MemPlace} (h : DataW.Trod enc Tryz.prog W 0 (fun _ => true) true t v d ps) (hl : ∀ z ∈ ps, z.block < W.heap.size) (sp : Nat → Bool) (hs : ∀ z ∈ ps, sp z.block = true), DataW.Trod enc Tryz.prog W' 0 sp true t v d ps :=
  fun hr hrow _ _ _ h hl sp hs => WideElems.Trod_stays laid_out hr hrow h (fun z hz => hb.same (hl z hz)) hs
 exact ⟨_, rfl, post_of_below (pa := p0 ++ []) (pv := []) hW' (fun _ _ _ => trodAll_cons_mk (shut_bool Tryz.underlying4 _) trodAll_mk0)
  (fun sp hs => trodAll_cons_mk (stay (by kernel_rfl) (of_decide_eq_true (by kernel_rfl)) k0 (fun z hz => hlt z (by simp [hz])) sp (fun z hz => hs z (by simp [hz]))) trodAll_mk0) (fun _ _ => rfl) (by simp) hb
  (ok_one (by kernel_rfl) rfl (okWide_bool_mk Tryz.underlying4 _))⟩

theorem sonce_holds : Rows.SigmaOnceSaid :=
 OpenClaim.holds_of_wide 8 Tryz.f8 rfl rfl rfl rfl rfl rfl rfl ⟨rfl, rfl, rfl, rfl, rfl⟩ rfl rfl rfl rfl rfl (by kernel_rfl) Tryz.func8 (by kernel_rfl)
  (of_decide_eq_true (by kernel_rfl)) (by unfold Func.isWrapper; first | (rw [if_pos (by decide +kernel)]; kernel_rfl) | (rw [if_neg (by decide +kernel)]; exact ⟨rfl, rfl⟩))
  (fun os started H enc _ => sonce_lifted os started H enc)

theorem sonce_card : Rows.SigmaOnceCardSaid :=
 Claim7.holds_tied_plain_at .later [] [.data, .data, .data] true (true, "82157d4e328a061784dc718d726121388702a985537db1dd35e3cb80443a5f63") false
  sonce_holds (fun _ h => by cases h) (by kernel_rfl) (fun _ h => by cases h) sigmaOnce_row_tie rfl ⟨rfl, rfl⟩ (by kernel_rfl) rfl
  (fun f fn hf hfn => by
   obtain rfl : f = 8 := Option.some.inj ((show Tryz.prog.funcNamed "domino/dominolaw16.SigmaOnce" = some 8 by kernel_rfl).symm.trans hf) |>.symm
   obtain rfl : fn = Tryz.f8 := (Option.some.inj (Tryz.func8.symm.trans hfn)).symm
   exact ⟨by kernel_rfl, fun j t ht => by
    rw [Tryz.params8] at ht
    have hm : t ∈ [66] := by simpa using Array.mem_of_getElem? ht
    have hall : ([66].all fun u => !Tryz.prog.wantsStandIn u) = true := by kernel_rfl
    exact (show Tryz.prog.wantsStandIn t = false by simpa using List.all_eq_true.1 hall t hm)⟩)
  (by kernel_rfl)
end Go.Proofs.YtcfjcenmcpankaaGreatDoor
end
