import Derived.Test.YtfgandecbkbleaaGreatDoorPow4
import Derived.Test.YtfgandecbkbleaaGreatDoorSet1
import Derived.Deep.RegionHeld3
import Derived.Deep.DrawnRows
import Derived.Test.YtfgandecbkbleaaGreatDoorRPed1
section
set_option linter.unusedVariables false
set_option linter.unusedSimpArgs false
set_option maxRecDepth 100000
namespace Go.Proofs.YtfgandecbkbleaaGreatDoor
open Go.RowKit

theorem nats1 {w : World} {b c : Nat} {T : TypeId} (h : Blk w b T [.string (E c)]) : NatsAt w b [c] := NatsAt.of_blk (T := T) h

theorem ints1 {w : World} {b : Nat} {x : Int} {T : TypeId} (h : Blk w b T [.bool (sg x), .string (E x.natAbs)]) : IntsAt w b [x] := by
 refine ⟨h.lt, fun j hj => ?_⟩
 match j, hj with
 | 0, _ => exact ⟨h.cell 0, h.cell 1⟩

theorem nats2 {w : World} {b c g : Nat} {T : TypeId} (h : Blk w b T [.string (E c), .string (E g)]) : NatsAt w b [c, g] := NatsAt.of_blk (T := T) h

theorem pw1_eq {p x : Nat} (z : Int) (hx : x < p) : pw (prs p [x] [z]) 0 % p = powI x z p := by
 unfold powI prs bse
 simp only [List.zipWith_cons_cons, List.zipWith_nil_left, pw, Nat.pow_zero, Nat.div_one, Nat.mul_one]
 rw [Nat.mod_eq_of_lt hx]
 split <;> rfl

theorem product1_c (p q c : Nat) (z : Int) (bl bz : Nat) (w : World) (hp : p < 256 ^ 8) (hq : q < 256 ^ 128) (he : grpE p q = 0) (hc : hasB p q c = true) (hz : z.natAbs < 256 ^ 128)
  (hL : Blk w bl 22 [.string (E c)]) (hZ : Blk w bz 28 [.bool (sg z), .string (E z.natAbs)]) :
  Calls Tryz.prog 103 #[.agg #[.string (E p), .string (E q)], .slice (some ⟨bl, 0, none⟩) 1 1, .slice (some ⟨bz, 0, none⟩) 1 1] w fun e w' => e = .returned (.tuple #[.string (E (powI c z p)), .int .i64 0]) ∧ Below w.heap.size w w' := by
 rw [← pw1_eq z (has_lt hc)]
 exact product_c p q bl bz 1 1 1 [c] [z] w hp hq he rfl rfl (by omega) (by omega) (by omega) (by omega) (by omega)
  (by intro x hx; simp at hx; subst hx; assumption) (by intro y hy; simp at hy; subst hy; assumption) (nats1 hL) (ints1 hZ)

end Go.Proofs.YtfgandecbkbleaaGreatDoor
end

section
set_option linter.unusedVariables false
set_option linter.unusedSimpArgs false
set_option maxRecDepth 100000
namespace Go.Proofs.YtfgandecbkbleaaGreatDoor
open Go.RowKit

theorem ints2x {w : World} {b : Nat} {x y : Int} {T : TypeId} (h : Blk w b T [.bool (sg x), .string (E x.natAbs), .bool (sg y), .string (E y.natAbs)]) : IntsAt w b [x, y] := by
 refine ⟨h.lt, fun j hj => ?_⟩
 match j, hj with
 | 0, _ => exact ⟨h.cell 0, h.cell 1⟩
 | 1, _ => exact ⟨h.cell 2, h.cell 3⟩

theorem ivalX_c (n : Bool) (s : ByteArray) (b : Bool) (w : World) (hs : s.size ≤ 1000) (h : ivB n s = b) : Calls Tryz.prog 87 #[.agg #[.bool n, .string s]] w fun e w' => e = .returned (.bool b) ∧ Below w.heap.size w w' := by
 rw [← h]; exact ivalid_c n s w (by omega)

/-- an opening as a value -/
def opn (m r : Int) : Value := .agg #[.bool (sg m), .string (E m.natAbs), .bool (sg r), .string (E r.natAbs)]

set_option maxHeartbeats 1600000 in
theorem pvalidB_c (a b : Bool) (s t : ByteArray) (w : World) (hs : s.size ≤ 1000) (ht : t.size ≤ 1000) :
  Calls Tryz.prog 102 #[.agg #[.bool a, .string s, .bool b, .string t]] w fun e w' => e = .returned (.bool (ivB a s && ivB b t)) ∧ Below w.heap.size w w' := by
 obtain ⟨r1, hr1⟩ : ∃ r1, ivB a s = r1 := ⟨_, rfl⟩
 obtain ⟨r2, hr2⟩ : ∃ r2, ivB b t = r2 := ⟨_, rfl⟩
 rw [hr1, hr2]
 have H1 : Hid (∀ w, Calls Tryz.prog 87 #[.agg #[.bool a, .string s]] w fun e w' => e = .returned (.bool r1) ∧ Below w.heap.size w w') := fun w => ivalX_c a s r1 w hs hr1
 have H2 : Hid (∀ w, Calls Tryz.prog 87 #[.agg #[.bool b, .string t]] w fun e w' => e = .returned (.bool r2) ∧ Below w.heap.size w w') := fun w => ivalX_c b t r2 w ht hr2
 have hB := Blk.new w #[Value.bool a, Value.string s, Value.bool b, Value.string t] 30
 have hBW := b1 w (.cells #[Value.bool a, Value.string s, Value.bool b, Value.string t] 30)
 clear hs ht hr1 hr2
 cases r1
 ·
  obtain ⟨hBc0, hBf0, hBc1, hBf1, hBc2, hBf2, hBc3, hBf3⟩ := hB.x4
  go_enter Tryz.func102, Tryz.ntmps102
  go_wp2_with fail
  refine (H1.out _).mono ?_
  rintro e w1 ⟨rfl, hb1⟩
  go_wp2
  go_ret
  exact ⟨rfl, bt hBW hb1⟩
 ·
  obtain ⟨hBc0, hBf0, hBc1, hBf1, hBc2, hBf2, hBc3, hBf3⟩ := hB.x4
  go_enter Tryz.func102, Tryz.ntmps102
  go_wp2_with fail
  refine (H1.out _).mono ?_
  rintro e w1 ⟨rfl, hb1⟩
  clear hBc0 hBf0 hBc1 hBf1 hBc2 hBf2 hBc3 hBf3
  replace hB := hB.after hb1
  replace hBW := bt hBW hb1
  obtain ⟨hBc0, hBf0, hBc1, hBf1, hBc2, hBf2, hBc3, hBf3⟩ := hB.x4
  go_wp2_with fail
  refine (H2.out _).mono ?_
  rintro e w2 ⟨rfl, hb2⟩
  go_wp2
  go_ret
  exact ⟨by cases r2 <;> rfl, bt hBW hb2⟩

theorem pvalidI_c (m r : Int) (w : World) (hm : m.natAbs < 256 ^ 128) (hr : r.natAbs < 256 ^ 128) :
  Calls Tryz.prog 102 #[opn m r] w fun e w' => e = .returned (.bool true) ∧ Below w.heap.size w w' := by
 have := pvalidB_c (sg m) (sg r) (E m.natAbs) (E r.natAbs) w (sz1000 hm) (sz1000 hr)
 rw [ivB_I m hm, ivB_I r hr] at this
 exact this

/-- the commitment of an opening -/
def cmtN (p g h : Nat) (m r : Int) : Nat := pw (prs p [g, h] [m, r]) 0 % p

theorem product3_c (p q g h : Nat) (m r : Int) (bl bz : Nat) (w : World) (hp : p < 256 ^ 8) (hq : q < 256 ^ 128) (he : grpE p q = 0) (hg : hasB p q g = true) (hh : hasB p q h = true) (hm : m.natAbs < 256 ^ 128) (hr : r.natAbs < 256 ^ 128)
  (hL : Blk w bl 22 [.string (E g), .string (E h)]) (hZ : Blk w bz 28 [.bool (sg m), .string (E m.natAbs), .bool (sg r), .string (E r.natAbs)]) :
  Calls Tryz.prog 103 #[.agg #[.string (E p), .string (E q)], .slice (some ⟨bl, 0, none⟩) 2 2, .slice (some ⟨bz, 0, none⟩) 2 2] w fun e w' => e = .returned (.tuple #[.string (E (cmtN p g h m r)), .int .i64 0]) ∧ Below w.heap.size w w' :=
 product_c p q bl bz 2 2 2 [g, h] [m, r] w hp hq he rfl rfl (by omega) (by omega) (by omega) (by omega) (by omega)
  (by intro x hx; simp at hx; rcases hx with rfl | rfl <;> assumption) (by intro y hy; simp at hy; rcases hy with rfl | rfl <;> assumption) (nats2 hL) (ints2x hZ)

set_option maxHeartbeats 4000000 in
theorem commit_c (p q g h : Nat) (m r : Int) (w : World) (hp : p < 256 ^ 8) (hq : q < 256 ^ 128) (hgb : g < 256 ^ 128) (hhb : h < 256 ^ 128) (hm : m.natAbs < 256 ^ 128) (hr : r.natAbs < 256 ^ 128)
  (he : pedE p q g h = 0) (hg : hasB p q g = true) (hh : hasB p q h = true) :
  Calls Tryz.prog 49 #[.agg #[.string (E p), .string (E q), .string (E g), .string (E h)], opn m r] w fun e w' => e = .returned (.tuple #[.string (E (cmtN p g h m r)), .int .i64 0]) ∧ Below w.heap.size w w' := by
 unfold opn
 have HF := Lib.hid (fun w => pformedV_c (E p) (E q) (E g) (E h) true w (sz1000 (lt128 hp)) (sz1000 hq) (sz1000 hgb) (sz1000 hhb) (vl4_E (lt128 hp) hq hgb hhb))
 have HPC := Lib.hid (fun w => pedcheckV_c p q g h 0 w hp hq hgb hhb he)
 have HV : Hid (∀ w, Calls Tryz.prog 102 #[.agg #[.bool (sg m), .string (E m.natAbs), .bool (sg r), .string (E r.natAbs)]] w fun e w' => e = .returned (.bool true) ∧ Below w.heap.size w w') := fun w => pvalidI_c m r w hm hr
 have HPR := Lib.hid (fun bl bz w => product3_c p q g h m r bl bz w hp hq (pedE_grp he) hg hh hm hr)
 have hB := blk2a w #[Value.string (E p), Value.string (E q), Value.string (E g), Value.string (E h)] #[.bool (sg m), .string (E m.natAbs), .bool (sg r), .string (E r.natAbs)] 26 30
 have hI := blk2b w #[Value.string (E p), Value.string (E q), Value.string (E g), Value.string (E h)] #[.bool (sg m), .string (E m.natAbs), .bool (sg r), .string (E r.natAbs)] 26 30
 have hBW := b2 w (.cells #[Value.string (E p), Value.string (E q), Value.string (E g), Value.string (E h)] 26) (.cells #[.bool (sg m), .string (E m.natAbs), .bool (sg r), .string (E r.natAbs)] 30)
 clear hp hq hgb hhb hm hr he hg hh
 obtain ⟨hBc0, hBf0, hBc1, hBf1, hBc2, hBf2, hBc3, hBf3⟩ := hB.x4
 obtain ⟨hIc0, hIf0, hIc1, hIf1, hIc2, hIf2, hIc3, hIf3⟩ := hI.x4
 go_enter Tryz.func49, Tryz.ntmps49
 go_wp2_with fail
 refine (HF.out _).mono ?_
 rintro e w1 ⟨rfl, hb1⟩
 clear hBc0 hBf0 hBc1 hBf1 hBc2 hBf2 hBc3 hBf3
 clear hIc0 hIf0 hIc1 hIf1 hIc2 hIf2 hIc3 hIf3
 replace hB := hB.after hb1
 replace hI := hI.after hb1
 replace hBW := bt hBW hb1
 obtain ⟨hBc0, hBf0, hBc1, hBf1, hBc2, hBf2, hBc3, hBf3⟩ := hB.x4
 obtain ⟨hIc0, hIf0, hIc1, hIf1, hIc2, hIf2, hIc3, hIf3⟩ := hI.x4
 go_wp2_with fail
 refine (HV.out _).mono ?_
 rintro e w2 ⟨rfl, hb2⟩
 clear hBc0 hBf0 hBc1 hBf1 hBc2 hBf2 hBc3 hBf3
 clear hIc0 hIf0 hIc1 hIf1 hIc2 hIf2 hIc3 hIf3
 replace hB := hB.after hb2
 replace hI := hI.after hb2
 replace hBW := bt hBW hb2
 obtain ⟨hBc0, hBf0, hBc1, hBf1, hBc2, hBf2, hBc3, hBf3⟩ := hB.x4
 obtain ⟨hIc0, hIf0, hIc1, hIf1, hIc2, hIf2, hIc3, hIf3⟩ := hI.x4
 go_wp2_with fail
 refine (HPC.out _).mono ?_
 rintro e w3 ⟨rfl, hb3⟩
 clear hBc0 hBf0 hBc1 hBf1 hBc2 hBf2 hBc3 hBf3
 clear hIc0 hIf0 hIc1 hIf1 hIc2 hIf2 hIc3 hIf3
 replace hB := hB.after hb3
 replace hI := hI.after hb3
 replace hBW := bt hBW hb3
 obtain ⟨hBc0, hBf0, hBc1, hBf1, hBc2, hBf2, hBc3, hBf3⟩ := hB.x4
 obtain ⟨hIc0, hIf0, hIc1, hIf1, hIc2, hIf2, hIc3, hIf3⟩ := hI.x4
 clear hb1 hb2 hb3
 have hl3 : w.heap.size < w3.heap.size := hB.lt
 have hl3' : w.heap.size + 1 < w3.heap.size := hI.lt
 go_wp2_with fail
 refine (HPR.out _ _ _ (blk2a _ _ _ _ _) (blk2b _ _ _ _ _)).mono ?_
 rintro e wd ⟨rfl, hbd⟩
 go_wp2
 go_ret2
 exact ⟨rfl, bt (ba (ba hBW _) _) hbd⟩

set_option maxHeartbeats 1600000 in
theorem commit_13 (p q g h : Nat) (m r : Int) (w : World) (hp : p < 256 ^ 8) (hq : q < 256 ^ 128) (hgb : g < 256 ^ 128) (hhb : h < 256 ^ 128) (hm : m.natAbs < 256 ^ 128) (hr : r.natAbs < 256 ^ 128)
  (he : pedE p q g h = 13) :
  Calls Tryz.prog 49 #[.agg #[.string (E p), .string (E q), .string (E g), .string (E h)], opn m r] w fun e w' => e = .returned (.tuple #[.string (E 0), .int .i64 13]) ∧ Below w.heap.size w w' := by
 unfold opn
 rw [show (E 0) = (⟨#[]⟩ : ByteArray) from rfl]
 have HF := Lib.hid (fun w => pformedV_c (E p) (E q) (E g) (E h) true w (sz1000 (lt128 hp)) (sz1000 hq) (sz1000 hgb) (sz1000 hhb) (vl4_E (lt128 hp) hq hgb hhb))
 have HPC := Lib.hid (fun w => pedcheckV_c p q g h 13 w hp hq hgb hhb he)
 have HV : Hid (∀ w, Calls Tryz.prog 102 #[.agg #[.bool (sg m), .string (E m.natAbs), .bool (sg r), .string (E r.natAbs)]] w fun e w' => e = .returned (.bool true) ∧ Below w.heap.size w w') := fun w => pvalidI_c m r w hm hr
 have hB := blk2a w #[Value.string (E p), Value.string (E q), Value.string (E g), Value.string (E h)] #[.bool (sg m), .string (E m.natAbs), .bool (sg r), .string (E r.natAbs)] 26 30
 have hI := blk2b w #[Value.string (E p), Value.string (E q), Value.string (E g), Value.string (E h)] #[.bool (sg m), .string (E m.natAbs), .bool (sg r), .string (E r.natAbs)] 26 30
 have hBW := b2 w (.cells #[Value.string (E p), Value.string (E q), Value.string (E g), Value.string (E h)] 26) (.cells #[.bool (sg m), .string (E m.natAbs), .bool (sg r), .string (E r.natAbs)] 30)
 clear hp hq hgb hhb hm hr he
 obtain ⟨hBc0, hBf0, hBc1, hBf1, hBc2, hBf2, hBc3, hBf3⟩ := hB.x4
 obtain ⟨hIc0, hIf0, hIc1, hIf1, hIc2, hIf2, hIc3, hIf3⟩ := hI.x4
 go_enter Tryz.func49, Tryz.ntmps49
 go_wp2_with fail
 refine (HF.out _).mono ?_
 rintro e w1 ⟨rfl, hb1⟩
 clear hBc0 hBf0 hBc1 hBf1 hBc2 hBf2 hBc3 hBf3
 clear hIc0 hIf0 hIc1 hIf1 hIc2 hIf2 hIc3 hIf3
 replace hB := hB.after hb1
 replace hI := hI.after hb1
 replace hBW := bt hBW hb1
 obtain ⟨hBc0, hBf0, hBc1, hBf1, hBc2, hBf2, hBc3, hBf3⟩ := hB.x4
 obtain ⟨hIc0, hIf0, hIc1, hIf1, hIc2, hIf2, hIc3, hIf3⟩ := hI.x4
 go_wp2_with fail
 refine (HV.out _).mono ?_
 rintro e w2 ⟨rfl, hb2⟩
 clear hBc0 hBf0 hBc1 hBf1 hBc2 hBf2 hBc3 hBf3
 clear hIc0 hIf0 hIc1 hIf1 hIc2 hIf2 hIc3 hIf3
 replace hB := hB.after hb2
 replace hI := hI.after hb2
 replace hBW := bt hBW hb2
 obtain ⟨hBc0, hBf0, hBc1, hBf1, hBc2, hBf2, hBc3, hBf3⟩ := hB.x4
 obtain ⟨hIc0, hIf0, hIc1, hIf1, hIc2, hIf2, hIc3, hIf3⟩ := hI.x4
 go_wp2_with fail
 refine (HPC.out _).mono ?_
 rintro e w3 ⟨rfl, hb3⟩
 go_wp2
 go_ret2
 exact ⟨rfl, bt hBW hb3⟩

set_option maxHeartbeats 1600000 in
theorem commit_bad (a b c d : ByteArray) (x y : Bool) (s t : ByteArray) (w : World) (ha : a.size ≤ 1000) (hb : b.size ≤ 1000) (hc : c.size ≤ 1000) (hd : d.size ≤ 1000) (hs : s.size ≤ 1000) (ht : t.size ≤ 1000)
  (hbad : (vl4 a b c d && (ivB x s && ivB y t)) = false) :
  Calls Tryz.prog 49 #[.agg #[.string a, .string b, .string c, .string d], .agg #[.bool x, .string s, .bool y, .string t]] w fun e w' => e = .returned (.tuple #[.string (E 0), .int .i64 3]) ∧ Below w.heap.size w w' := by
 rw [show (E 0) = (⟨#[]⟩ : ByteArray) from rfl]
 have HV : Hid (∀ w, Calls Tryz.prog 102 #[.agg #[.bool x, .string s, .bool y, .string t]] w fun e w' => e = .returned (.bool (ivB x s && ivB y t)) ∧ Below w.heap.size w w') := fun w => pvalidB_c x y s t w hs ht
 have hB := blk2a w #[Value.string a, Value.string b, Value.string c, Value.string d] #[.bool x, .string s, .bool y, .string t] 26 30
 have hI := blk2b w #[Value.string a, Value.string b, Value.string c, Value.string d] #[.bool x, .string s, .bool y, .string t] 26 30
 have hBW := b2 w (.cells #[Value.string a, Value.string b, Value.string c, Value.string d] 26) (.cells #[.bool x, .string s, .bool y, .string t] 30)
 cases h1 : vl4 a b c d
 ·have HF := Lib.hid (fun w => pformedV_c a b c d false w ha hb hc hd h1)
  clear ha hb hc hd hs ht hbad h1
  obtain ⟨hBc0, hBf0, hBc1, hBf1, hBc2, hBf2, hBc3, hBf3⟩ := hB.x4
  obtain ⟨hIc0, hIf0, hIc1, hIf1, hIc2, hIf2, hIc3, hIf3⟩ := hI.x4
  go_enter Tryz.func49, Tryz.ntmps49
  go_wp2_with fail
  refine (HF.out _).mono ?_
  rintro e w1 ⟨rfl, hb1⟩
  go_wp2
  go_ret2
  exact ⟨rfl, bt hBW hb1⟩
 ·have HF := Lib.hid (fun w => pformedV_c a b c d true w ha hb hc hd h1)
  rw [h1, Bool.true_and] at hbad
  rw [hbad] at HV
  clear ha hb hc hd hs ht hbad h1
  obtain ⟨hBc0, hBf0, hBc1, hBf1, hBc2, hBf2, hBc3, hBf3⟩ := hB.x4
  obtain ⟨hIc0, hIf0, hIc1, hIf1, hIc2, hIf2, hIc3, hIf3⟩ := hI.x4
  go_enter Tryz.func49, Tryz.ntmps49
  go_wp2_with fail
  refine (HF.out _).mono ?_
  rintro e w1 ⟨rfl, hb1⟩
  clear hBc0 hBf0 hBc1 hBf1 hBc2 hBf2 hBc3 hBf3
  clear hIc0 hIf0 hIc1 hIf1 hIc2 hIf2 hIc3 hIf3
  replace hB := hB.after hb1
  replace hI := hI.after hb1
  replace hBW := bt hBW hb1
  obtain ⟨hBc0, hBf0, hBc1, hBf1, hBc2, hBf2, hBc3, hBf3⟩ := hB.x4
  obtain ⟨hIc0, hIf0, hIc1, hIf1, hIc2, hIf2, hIc3, hIf3⟩ := hI.x4
  go_wp2_with fail
  refine (HV.out _).mono ?_
  rintro e w2 ⟨rfl, hb2⟩
  go_wp2
  go_ret2
  exact ⟨rfl, bt hBW hb2⟩

end Go.Proofs.YtfgandecbkbleaaGreatDoor
end

section
set_option linter.unusedVariables false
set_option linter.unusedSimpArgs false
set_option maxRecDepth 100000
namespace Go.Proofs.YtfgandecbkbleaaGreatDoor
open Go.RowKit

theorem StrsAt.nat_lt {w : World} {ao : Option Addr} {L : List Nat} (h : StrsAt w ao (L.map E)) {k : Nat} (hk : k < L.length) : ∃ b, ao = some ⟨b, 0, none⟩ ∧ b < w.heap.size ∧ w.cell? ⟨b, k, none⟩ = some (.string (E L[k])) := by
 rcases h with h | ⟨b, h1, h2, h3⟩
 ·simp at h; subst h; simp at hk
 ·exact ⟨b, h1, h2, by rw [h3 k (by simpa using hk), List.getElem_map]⟩

end Go.Proofs.YtfgandecbkbleaaGreatDoor
end

section
set_option linter.unusedVariables false
set_option linter.unusedSimpArgs false
set_option maxRecDepth 100000
namespace Go.Proofs.YtfgandecbkbleaaGreatDoor
open Go.RowKit

/-- an element times a power of another -/
def shiftN (p c g : Nat) (z : Int) : Nat := pw (prs p [c, g] [1, z]) 0 % p

theorem ints2 {w : World} {b : Nat} {x y : Int} {T : TypeId} (h : Blk w b T [.bool (sg x), .string (E x.natAbs), .bool (sg y), .string (E y.natAbs)]) : IntsAt w b [x, y] := by
 refine ⟨h.lt, fun j hj => ?_⟩
 match j, hj with
 | 0, _ => exact ⟨h.cell 0, h.cell 1⟩
 | 1, _ => exact ⟨h.cell 2, h.cell 3⟩

theorem product2_c (p q c g : Nat) (z : Int) (bl bz : Nat) (w : World) (hp : p < 256 ^ 8) (hq : q < 256 ^ 128) (he : grpE p q = 0) (hc : hasB p q c = true) (hg : hasB p q g = true) (hz : z.natAbs < 256 ^ 128)
  (hL : Blk w bl 22 [.string (E c), .string (E g)]) (hZ : Blk w bz 28 [.bool (sg 1), .string (E 1), .bool (sg z), .string (E z.natAbs)]) :
  Calls Tryz.prog 103 #[.agg #[.string (E p), .string (E q)], .slice (some ⟨bl, 0, none⟩) 2 2, .slice (some ⟨bz, 0, none⟩) 2 2] w fun e w' => e = .returned (.tuple #[.string (E (shiftN p c g z)), .int .i64 0]) ∧ Below w.heap.size w w' :=
 product_c p q bl bz 2 2 2 [c, g] [1, z] w hp hq he rfl rfl (by omega) (by omega) (by omega) (by omega) (by omega)
  (by intro x hx; simp at hx; rcases hx with rfl | rfl <;> assumption) (by intro y hy; simp at hy; rcases hy with rfl | rfl <;> first | decide | assumption) (nats2 hL) (ints2 (x := 1) hZ)

set_option maxHeartbeats 4000000 in
theorem shift_c (p q g h c : Nat) (z : Int) (w : World) (hp : p < 256 ^ 8) (hq : q < 256 ^ 128) (hgb : g < 256 ^ 128) (hhb : h < 256 ^ 128) (hcb : c < 256 ^ 128) (hzb : z.natAbs < 256 ^ 128)
  (he : pedE p q g h = 0) (hc : hasB p q c = true) (hg : hasB p q g = true) :
  Calls Tryz.prog 60 #[.agg #[.string (E p), .string (E q), .string (E g), .string (E h)], .string (E c), .agg #[.bool (sg (z)), .string (E (z).natAbs)]] w fun e w' => e = .returned (.tuple #[.string (E (shiftN p c g z)), .int .i64 0]) ∧ Below w.heap.size w w' := by
 have HF := Lib.hid (fun w => pformedV_c (E p) (E q) (E g) (E h) true w (sz1000 (lt128 hp)) (sz1000 hq) (sz1000 hgb) (sz1000 hhb) (vl4_E (lt128 hp) hq hgb hhb))
 have HPC := Lib.hid (fun w => pedcheckV_c p q g h 0 w hp hq hgb hhb he)
 have HO := Lib.hid (fun w => iof_c 1 w (by decide) (by decide))
 have HCB := Lib.hid hcb
 have HZB := Lib.hid hzb
 have HPR := Lib.hid (fun bl bz w => product2_c p q c g z bl bz w hp hq (pedE_grp he) hc hg hzb)
 have hB := blk2a w #[Value.string (E p), Value.string (E q), Value.string (E g), Value.string (E h)] #[.bool (sg z), .string (E z.natAbs)] 26 28
 have hI := blk2b w #[Value.string (E p), Value.string (E q), Value.string (E g), Value.string (E h)] #[.bool (sg z), .string (E z.natAbs)] 26 28
 have hBW := b2 w (.cells #[Value.string (E p), Value.string (E q), Value.string (E g), Value.string (E h)] 26) (.cells #[.bool (sg z), .string (E z.natAbs)] 28)
 clear hp hq hgb hhb hcb hzb he hc hg
 obtain ⟨hBc0, hBf0, hBc1, hBf1, hBc2, hBf2, hBc3, hBf3⟩ := hB.x4
 obtain ⟨hIc0, hIf0, hIc1, hIf1⟩ := hI.x2
 go_enter Tryz.func60, Tryz.ntmps60
 go_wp2_with fail
 refine (HF.out _).mono ?_
 rintro e w1 ⟨rfl, hb1⟩
 clear hBc0 hBf0 hBc1 hBf1 hBc2 hBf2 hBc3 hBf3
 clear hIc0 hIf0 hIc1 hIf1
 replace hB := hB.after hb1
 replace hI := hI.after hb1
 replace hBW := bt hBW hb1
 obtain ⟨hBc0, hBf0, hBc1, hBf1, hBc2, hBf2, hBc3, hBf3⟩ := hB.x4
 obtain ⟨hIc0, hIf0, hIc1, hIf1⟩ := hI.x2
 go_wp2_with fail
 refine (validE_c c _ HCB.out).mono ?_
 rintro e w' ⟨rfl, rfl⟩
 go_wp2_with fail
 refine (ivalidI_c z _ HZB.out).mono ?_
 rintro e w2 ⟨rfl, hb2⟩
 clear hBc0 hBf0 hBc1 hBf1 hBc2 hBf2 hBc3 hBf3
 clear hIc0 hIf0 hIc1 hIf1
 replace hB := hB.after hb2
 replace hI := hI.after hb2
 replace hBW := bt hBW hb2
 obtain ⟨hBc0, hBf0, hBc1, hBf1, hBc2, hBf2, hBc3, hBf3⟩ := hB.x4
 obtain ⟨hIc0, hIf0, hIc1, hIf1⟩ := hI.x2
 go_wp2_with fail
 refine (HPC.out _).mono ?_
 rintro e w3 ⟨rfl, hb3⟩
 clear hBc0 hBf0 hBc1 hBf1 hBc2 hBf2 hBc3 hBf3
 clear hIc0 hIf0 hIc1 hIf1
 replace hB := hB.after hb3
 replace hI := hI.after hb3
 replace hBW := bt hBW hb3
 obtain ⟨hBc0, hBf0, hBc1, hBf1, hBc2, hBf2, hBc3, hBf3⟩ := hB.x4
 obtain ⟨hIc0, hIf0, hIc1, hIf1⟩ := hI.x2
 clear hb1 hb2 hb3
 have hl3 : w.heap.size < w3.heap.size := hB.lt
 have hl3' : w.heap.size + 1 < w3.heap.size := hI.lt
 go_wp2_with fail
 go_region_held3 (fun w' => w'.cell? ⟨w.heap.size, 0, none⟩ = some (.string (E p)) ∧ w'.cell? ⟨w.heap.size, 1, none⟩ = some (.string (E q)) ∧ w'.cell? ⟨w.heap.size, 2, none⟩ = some (.string (E g)) ∧ w'.cell? ⟨w.heap.size + 1, 0, none⟩ = some (.bool (sg z)) ∧ w'.cell? ⟨w.heap.size + 1, 1, none⟩ = some (.string (E z.natAbs))) (first | exact ⟨d0, d1, d2, j0, j1⟩ | exact ⟨f0, f1, f2, i0, i1⟩ | go_keep)
  (first | (go_at_call 46; refine (HO.out _).mono ?_; rintro e wf ⟨rfl, hbf⟩; have hBf : Blk wf w.heap.size 26 [Value.string (E p), Value.string (E q), Value.string (E g), Value.string (E h)] := (by first | exact hB.drew.after hbf | exact (hB.alloc _).drew.after hbf); have hIf : Blk wf (w.heap.size + 1) 28 [.bool (sg z), .string (E z.natAbs)] := (by first | exact hI.drew.after hbf | exact (hI.alloc _).drew.after hbf); have hBWf : Below w.heap.size w wf := (by first | exact bt hBW.drew hbf | exact bt (ba hBW _).drew hbf); have f0 := hBf.cell 0; have f1 := hBf.cell 1; have f2 := hBf.cell 2; have i0 := hIf.cell 0; have i1 := hIf.cell 1; have hlf : w.heap.size < wf.heap.size := hBf.lt; have hlf' : w.heap.size + 1 < wf.heap.size := hIf.lt) | (go_at_call 103; refine (HPR.out _ _ _ (by first | exact ((Blk.new w3 _ _).drew.after hbf).alloc _ | exact blk2a _ _ _ _ _ | exact blk2b _ _ _ _ _ | exact ((Blk.new w3 _ _).drew.after hbf)) (by first | exact Blk.new _ _ _ | exact blk2a _ _ _ _ _ | exact blk2b _ _ _ _ _)).mono ?_; rintro e wd ⟨rfl, hbd⟩; have hBd : Blk wd w.heap.size 26 [Value.string (E p), Value.string (E q), Value.string (E g), Value.string (E h)] := (by first | exact ((hBf.alloc _).alloc _).after hbd | exact (hBf.alloc _).after hbd); have hId : Blk wd (w.heap.size + 1) 28 [.bool (sg z), .string (E z.natAbs)] := (by first | exact ((hIf.alloc _).alloc _).after hbd | exact (hIf.alloc _).after hbd); have hBWd : Below w.heap.size w wd := (by first | exact bt (ba (ba hBWf _) _) hbd | exact bt (ba hBWf _) hbd); have d0 := hBd.cell 0; have d1 := hBd.cell 1; have d2 := hBd.cell 2; have j0 := hId.cell 0; have j1 := hId.cell 1))
 all_goals go_wp2
 all_goals (go_ret2; exact ⟨rfl, by first | exact hBWd | exact hBWd.drew⟩)

end Go.Proofs.YtfgandecbkbleaaGreatDoor
end

section
set_option linter.unusedVariables false
set_option linter.unusedSimpArgs false
set_option maxRecDepth 100000
namespace Go.Proofs.YtfgandecbkbleaaGreatDoor
open Go.RowKit

theorem natAbs_i64 {v : Int} (h1 : -9223372036854775808 ≤ v) (h2 : v ≤ 9223372036854775807) : v.natAbs < 256 ^ 128 :=
 Nat.lt_of_le_of_lt (show v.natAbs ≤ 9223372036854775808 by omega) (by decide)

theorem shiftS_c (p q g h c : Nat) (z : Int) (w : World) (hp : p < 256 ^ 8) (hq : q < 256 ^ 128) (hgb : g < 256 ^ 128) (hhb : h < 256 ^ 128) (hcb : c < 256 ^ 128) (hzb : z.natAbs < 256 ^ 128)
  (he : pedE p q g h = 0) (hc : hasB p q c = true) (hg : hasB p q g = true) :
  Calls Tryz.prog 60 #[.agg #[.string (E p), .string (E q), .string (E g), .string (E h)], .string (E c), .agg #[.bool (sg (-z)), .string (E z.natAbs)]] w fun e w' => e = .returned (.tuple #[.string (E (shiftN p c g (-z))), .int .i64 0]) ∧ Below w.heap.size w w' := by
 have := shift_c p q g h c (-z) w hp hq hgb hhb hcb (by rw [Int.natAbs_neg]; exact hzb) he hc hg
 rwa [Int.natAbs_neg] at this

end Go.Proofs.YtfgandecbkbleaaGreatDoor
end

section
set_option linter.unusedVariables false
set_option linter.unusedSimpArgs false
set_option maxRecDepth 100000
namespace Go.Proofs.YtfgandecbkbleaaGreatDoor
open Go.RowKit

theorem pow_one_of (y q k p : Nat) (h : y ^ q % p = 1 % p) : (y ^ k % p) ^ q % p = 1 % p := by
 rw [← Nat.pow_mod, ← Nat.pow_mul, Nat.mul_comm, Nat.pow_mul, Nat.pow_mod, h, ← Nat.pow_mod, Nat.one_pow]

theorem inv_pow_one (b y q p : Nat) (hb : b ^ q % p = 1 % p) (hy : b * y % p = 1 % p) : y ^ q % p = 1 % p := by
 have h1 : (b * y) ^ q % p = 1 % p := by rw [Nat.pow_mod, hy, ← Nat.pow_mod, Nat.one_pow]
 rw [Nat.mul_pow, Nat.mul_mod, hb, ← Nat.mul_mod, Nat.one_mul] at h1
 exact h1

theorem hasB_of {p q x : Nat} (hq : 0 < q) (hp : 2 ≤ p) (hx : x < p) (h : x ^ q % p = 1 % p) : hasB p q x = true := by
 unfold hasB
 rw [if_neg (by omega), decide_eq_true_iff]
 refine ⟨?_, hx, h⟩
 rintro rfl
 rw [Nat.zero_pow hq, Nat.zero_mod, mod1 hp] at h
 omega

theorem hasB_pow1 {p q x : Nat} (hq : 0 < q) (h : hasB p q x = true) : x ^ q % p = 1 % p := by
 unfold hasB at h
 rw [if_neg (by omega), decide_eq_true_iff] at h
 exact h.2.2

theorem has_powI {p q x : Nat} (z : Int) (hp : 2 ≤ p) (hq : 0 < q) (h : hasB p q x = true) : hasB p q (powI x z p) = true := by
 have h1 := hasB_pow1 hq h
 have hlt := has_lt h
 unfold powI
 split
 ·refine hasB_of hq hp (Nat.mod_lt _ (by omega)) (pow_one_of _ _ _ _ ?_)
  rw [Nat.mod_eq_of_lt hlt]
  exact inv_pow_one x _ q p h1 (invN_spec x p (by omega) (has_coprime hp h))
 ·exact hasB_of hq hp (Nat.mod_lt _ (by omega)) (pow_one_of _ _ _ _ h1)

theorem shift_eq {p c g : Nat} (z : Int) (hg : g < p) : shiftN p c g z = c * powI g z p % p := by
 unfold shiftN powI prs bse
 simp only [List.zipWith_cons_cons, List.zipWith_nil_left, pw, Nat.pow_zero, Nat.div_one, Nat.mul_one]
 have h1 : ¬ (1 : Int) < 0 := by decide
 rw [if_neg h1, show Int.natAbs 1 = 1 from rfl, Nat.pow_one, Nat.mod_eq_of_lt hg]
 split <;> rw [Nat.mul_mod_mod]

/-- an element over a power of another -/
def overN (p c g : Nat) (v : Int) : Nat := c * powI g (-v) p % p

theorem rexp13S_c (p q x : Nat) (z : Int) (w : World) (hp : p < 256 ^ 8) (hq : q < 256 ^ 128) (hg : grpE p q = 0) (hx : hasB p q x = true) (hz : z.natAbs < 256 ^ 128) :
  Calls Tryz.prog 27 #[.agg #[.string (E p), .string (E q)], .string (E x), .agg #[.bool (sg (-z)), .string (E z.natAbs)]] w fun e w' => e = .returned (.tuple #[.string (E (powI x (-z) p)), .int .i64 0]) ∧ Below w.heap.size w w' := by
 have := rexp13_c p q x (-z) w hp hq hg hx (by rw [Int.natAbs_neg]; exact hz)
 rwa [Int.natAbs_neg] at this

end Go.Proofs.YtfgandecbkbleaaGreatDoor
end
