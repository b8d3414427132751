import Derived.Test.YtcfjcenmcpankaaGreatDoorSat1
import Derived.Test.YtcfjcenmcpankaaGreatDoorHol
import Derived.Test.YtcfjcenmcpankaaGreatDoorPrv2
import Derived.Test.YtcfjcenmcpankaaGreatDoorRsp3
section
set_option linter.unusedVariables false
set_option linter.unusedSimpArgs false
set_option maxRecDepth 100000
namespace Go.Proofs.YtcfjcenmcpankaaGreatDoor
open Go.RowKit Go.Shelf

theorem row1 {α : Type} {Q : World → α → List Value → Prop} {size : Nat} {w : World} {b : Nat} {T : TypeId} {cs : List Value} {x : α} (h : Blk w b T cs) (hq : Q w x cs) : RAt Q size w (.slice (some ⟨b, 0, none⟩) 1 1) [x] := by
 refine ⟨_, _, rfl, .inr ⟨b, 0, rfl, h.lt, fun j hj => ⟨cs, ?_, fun i _ => ?_⟩⟩⟩
 ·obtain rfl : j = 0 := by simpa using hj
  exact hq
 ·obtain rfl : j = 0 := by simpa using hj
  rw [show 0 + 0 * size + i = i by omega]; exact h.cell i

theorem z1row {w : World} {b : Nat} {T : TypeId} {z : Int} {s : ByteArray} (h : Blk w b T [.bool false, .string s]) (hz : zI z = (false, s)) : ZsAt w (.slice (some ⟨b, 0, none⟩) 1 1) [z] :=
 row1 (x := zI z) h (by show _ = _; rw [hz])

theorem s1row {w : World} {b : Nat} {T : TypeId} {s : ByteArray} (h : Blk w b T [.string s]) : SsAt w (.slice (some ⟨b, 0, none⟩) 1 1) [s] := row1 h rfl
theorem zbrow {w : World} {b : Nat} {T : TypeId} {z : Int} {bo : Bool} {s : ByteArray} (h : Blk w b T [.bool bo, .string s]) (hz : zI z = (bo, s)) : ZsAt w (.slice (some ⟨b, 0, none⟩) 1 1) [z] :=
 row1 (x := zI z) h (by show _ = _; rw [hz])
theorem blkR {w : World} {b : Nat} {T : TypeId} {X : Array Value} {cs : List Value} (hb : w.heap.size = b) (hc : X.toList = cs) : Blk (w.alloc (.cells X T)) b T cs := by
 subst hb hc
 exact Blk.new w X T
/-- the statement of the examples -/
def exS (b : Nat) : NSta := ⟨[(23, 11)], [b], [⟨0, 18, [⟨4, 0, 1⟩]⟩]⟩
theorem exS_ok (b : Nat) (h : b < 256 ^ 16) : NOk (exS b) where
 ng := by simp [exS]
 nv := by simp [exS]
 ne := by simp [exS]
 g := by intro x hx; simp [exS] at hx; subst hx; decide
 v := by intro x hx; simp [exS] at hx; subst hx; exact h
 e := by
  intro x hx; simp [exS] at hx; subst hx
  refine ⟨by simp [exS], by decide, by simp, fun t ht => ?_⟩
  simp at ht; subst ht
  refine ⟨by decide, by simp [exS], by decide⟩

/-- what example returns -/
def SPost (w : World) (N : NSta) (e : Ending) (w' : World) : Prop :=
 ∃ v1 v2 v3, e = .returned (.agg #[v1, v2, v3]) ∧ NAt w' v1 v2 v3 N ∧ Below w.heap.size w w'

set_option maxHeartbeats 3200000 in
theorem statement_c (b : Nat) (w : World) : Calls Tryz.prog 29 #[.string (E b)] w (SPost w (exS b)) := by
 go_enter Tryz.func29, Tryz.ntmps29
 go_upto_region 1 with fail
 have hR := Blk.new w #[.slice none 0 0, .slice none 0 0, .slice none 0 0] 29
 have hBW := b1 w (.cells #[.slice none 0 0, .slice none 0 0, .slice none 0 0] 29)
 generalize w.alloc (.cells #[.slice none 0 0, .slice none 0 0, .slice none 0 0] 29) = w1 at hR hBW ⊢
 replace hR : Blk w1 w.heap.size 29 [.slice none 0 0, .slice none 0 0, .slice none 0 0] := hR
 obtain ⟨g, hg⟩ : ∃ g, w.heap.size = g := ⟨_, rfl⟩
 rw [hg] at hR ⊢
 have HG := Lib.hid hg
 clear hg
 have hRl := hR.lt
 have n1 : ¬ w1.heap.size = g := by omega
 have n2 : ¬ w1.heap.size + 1 = g := by omega
 have n3 : ¬ w1.heap.size + 1 + 1 = g := by omega
 have n4 : ¬ w1.heap.size + 1 + 1 + 1 = g := by omega
 have hR4 := (((hR.alloc (.cells #[.string { data := #[23] }, .string { data := #[11] }] 90)).alloc (.cells #[.string (E b)] 99)).alloc (.cells #[.string { data := #[4] }, .int .i64 0, .bool false, .string { data := #[1] }] 86)).alloc (.cells #[.int .i64 0, .string { data := #[18] }, .slice (some ⟨w1.heap.size + 1 + 1, 0, none⟩) 1 1] 84)
 have hGb := (((Blk.new w1 #[.string { data := #[23] }, .string { data := #[11] }] 90).alloc (.cells #[.string (E b)] 99)).alloc (.cells #[.string { data := #[4] }, .int .i64 0, .bool false, .string { data := #[1] }] 86)).alloc (.cells #[.int .i64 0, .string { data := #[18] }, .slice (some ⟨w1.heap.size + 1 + 1, 0, none⟩) 1 1] 84)
 have hVb := ((Blk.new (w1.alloc (.cells #[.string { data := #[23] }, .string { data := #[11] }] 90)) #[.string (E b)] 99).alloc (.cells #[.string { data := #[4] }, .int .i64 0, .bool false, .string { data := #[1] }] 86)).alloc (.cells #[.int .i64 0, .string { data := #[18] }, .slice (some ⟨w1.heap.size + 1 + 1, 0, none⟩) 1 1] 84)
 have hTb := (Blk.new ((w1.alloc (.cells #[.string { data := #[23] }, .string { data := #[11] }] 90)).alloc (.cells #[.string (E b)] 99)) #[.string { data := #[4] }, .int .i64 0, .bool false, .string { data := #[1] }] 86).alloc (.cells #[.int .i64 0, .string { data := #[18] }, .slice (some ⟨w1.heap.size + 1 + 1, 0, none⟩) 1 1] 84)
 have hQb := Blk.new (((w1.alloc (.cells #[.string { data := #[23] }, .string { data := #[11] }] 90)).alloc (.cells #[.string (E b)] 99)).alloc (.cells #[.string { data := #[4] }, .int .i64 0, .bool false, .string { data := #[1] }] 86)) #[.int .i64 0, .string { data := #[18] }, .slice (some ⟨w1.heap.size + 1 + 1, 0, none⟩) 1 1] 84
 have hB4 := ba (ba (ba (ba hBW (.cells #[.string { data := #[23] }, .string { data := #[11] }] 90)) (.cells #[.string (E b)] 99)) (.cells #[.string { data := #[4] }, .int .i64 0, .bool false, .string { data := #[1] }] 86)) (.cells #[.int .i64 0, .string { data := #[18] }, .slice (some ⟨w1.heap.size + 1 + 1, 0, none⟩) 1 1] 84)
 clear hRl n1 n2 n3 n4
 obtain ⟨hR4c0, hR4f0, hR4c1, hR4f1, hR4c2, hR4f2⟩ := hR4.x3
 go_wp2
 clear hR4c0 hR4f0 hR4c1 hR4f1 hR4c2 hR4f2
 have hRl := hR.lt
 have n1 : ¬ w1.heap.size = g := by omega
 have n2 : ¬ w1.heap.size + 1 = g := by omega
 have n3 : ¬ w1.heap.size + 1 + 1 = g := by omega
 have n4 : ¬ w1.heap.size + 1 + 1 + 1 = g := by omega
 simp only [World.size_alloc] at hGb hVb hTb hQb
 have hR0 := ((hR4.set 0 (.slice (some ⟨w1.heap.size, 0, none⟩) 1 1)).set 1 (.slice (some ⟨w1.heap.size + 1, 0, none⟩) 1 1)).set 2 (.slice (some ⟨w1.heap.size + 1 + 1 + 1, 0, none⟩) 1 1)
 have c0 := hR0.cell 0
 have c1 := hR0.cell 1
 have c2 := hR0.cell 2
 refine bodyPost_ret (v := .agg #[.slice (some ⟨w1.heap.size, 0, none⟩) 1 1, .slice (some ⟨w1.heap.size + 1, 0, none⟩) 1 1, .slice (some ⟨w1.heap.size + 1 + 1 + 1, 0, none⟩) 1 1]) ?_ rfl ⟨_, _, _, rfl, StAt.mk ?_ ?_ ?_, ?_⟩
 ·simp at c0 c1 c2
  simp [results, Tryz.results29, go_sem, c0, c1, c2]
 ·exact row1 (((hGb.other _ _ n1).other _ _ n1).other _ _ n1) rfl
 ·exact row1 (((hVb.other _ _ n2).other _ _ n2).other _ _ n2) rfl
 ·exact row1 (((hQb.other _ _ n4).other _ _ n4).other _ _ n4) ⟨_, rfl, row1 (((hTb.other _ _ n3).other _ _ n3).other _ _ n3) rfl⟩
 ·exact ((hB4.setCell (by rw [HG.out]; exact Nat.le_refl _) _).setCell (by rw [HG.out]; exact Nat.le_refl _) _).setCell (by rw [HG.out]; exact Nat.le_refl _) _

end Go.Proofs.YtcfjcenmcpankaaGreatDoor
end

section
set_option linter.unusedVariables false
set_option linter.unusedSimpArgs false
set_option maxRecDepth 100000
namespace Go.Proofs.YtcfjcenmcpankaaGreatDoor
open Go.RowKit Go.Shelf

theorem blk_set3 {w : World} {g : Nat} {T : TypeId} {a b c x y z : Value} (h : Blk w g T [a, b, c]) : Blk (((w.setCell ⟨g, 0, none⟩ x).setCell ⟨g, 1, none⟩ y).setCell ⟨g, 2, none⟩ z) g T [x, y, z] := ((h.set 0 x).set 1 y).set 2 z
theorem blk_other3 {w : World} {g k : Nat} {T : TypeId} {cs : List Value} {x y z : Value} (hne : k ≠ g) (h : Blk w k T cs) : Blk (((w.setCell ⟨g, 0, none⟩ x).setCell ⟨g, 1, none⟩ y).setCell ⟨g, 2, none⟩ z) k T cs := ((h.other _ _ hne).other _ _ hne).other _ _ hne
theorem ss_set3 {w : World} {g : Nat} {v : Value} {V : List ByteArray} {x y z : Value} (hf : FarS v g) (h : SsAt w v V) : SsAt (((w.setCell ⟨g, 0, none⟩ x).setCell ⟨g, 1, none⟩ y).setCell ⟨g, 2, none⟩ z) v V := ((h.set_far hf).set_far hf).set_far hf
theorem zs_set3 {w : World} {g : Nat} {v : Value} {V : List Int} {x y z : Value} (hf : FarS v g) (h : ZsAt w v V) : ZsAt (((w.setCell ⟨g, 0, none⟩ x).setCell ⟨g, 1, none⟩ y).setCell ⟨g, 2, none⟩ z) v V := IsAt.set_far (IsAt.set_far (IsAt.set_far h hf) hf) hf
theorem below_set3 {B : Nat} {w0 w : World} {g : Nat} {x y z : Value} (hg : B ≤ g) (h : Below B w0 w) : Below B w0 (((w.setCell ⟨g, 0, none⟩ x).setCell ⟨g, 1, none⟩ y).setCell ⟨g, 2, none⟩ z) := ((h.setCell (p := ⟨g, 0, none⟩) hg x).setCell (p := ⟨g, 1, none⟩) hg y).setCell (p := ⟨g, 2, none⟩) hg z
theorem zs_far {w : World} {v : Value} {V : List Int} {g : Nat} (h : ZsAt w v V) (hg : w.heap.size ≤ g) : FarS v g := fun b9 o9 n9 c9 e9 h9 => by
 obtain ⟨ao', c', hv', hcs⟩ := h
 rcases hcs with hcs | ⟨b8, o8, e8, hb8, _⟩
 ·have h := hv'.symm.trans e9
  injection h with h h2 h3
  omega
 ·have h := hv'.symm.trans e9
  injection h with h
  rw [e8] at h
  injection h with h
  injection h with h
  omega
/-- slices that are read -/
def AK (w : World) (l : List (Value × List ByteArray)) (m : List (Value × List Int)) : Prop := (∀ x ∈ l, SsAt w x.1 x.2) ∧ (∀ x ∈ m, ZsAt w x.1 x.2)
theorem AK.after {w w' : World} {l : List (Value × List ByteArray)} {m : List (Value × List Int)} (h : AK w l m) (hb : Below w.heap.size w w') : AK w' l m := ⟨fun x hx => SsAt.after (h.1 x hx) hb, fun x hx => ZsAt.after (h.2 x hx) hb⟩
theorem AK.addS {w : World} {l : List (Value × List ByteArray)} {m : List (Value × List Int)} (h : AK w l m) {v : Value} {L : List ByteArray} (hv : SsAt w v L) : AK w ((v, L) :: l) m := ⟨fun x hx => by
 rcases List.mem_cons.1 hx with rfl | hx
 ·exact hv
 ·exact h.1 x hx, h.2⟩
theorem AK.addZ {w : World} {l : List (Value × List ByteArray)} {m : List (Value × List Int)} (h : AK w l m) {v : Value} {Z : List Int} (hv : ZsAt w v Z) : AK w l ((v, Z) :: m) := ⟨h.1, fun x hx => by
 rcases List.mem_cons.1 hx with rfl | hx
 ·exact hv
 ·exact h.2 x hx⟩

/-- contracts of the examples, with letters for the numbers -/
def HEx (b : ByteArray) (N : NSta) : Prop := ∀ w, Calls Tryz.prog 29 #[.string b] w fun e w' => ∃ a1 a2 a3 n1 n2 n3 c1 c2 c3, e = .returned (.agg #[.slice a1 n1 c1, .slice a2 n2 c2, .slice a3 n3 c3]) ∧ NAt w' (.slice a1 n1 c1) (.slice a2 n2 c2) (.slice a3 n3 c3) N ∧ Below w.heap.size w w'
def HBd (k2 : ByteArray) (N : NSta) (A B : List ByteArray) : Prop := ∀ (w : World) (s1 s2 s3 : Option Addr) (m1 m2 m3 d1 d2 d3 : Nat), NAt w (.slice s1 m1 d1) (.slice s2 m2 d2) (.slice s3 m3 d3) N →
 Calls Tryz.prog 13 #[.agg #[.string k2, .string k2], .agg #[.slice s1 m1 d1, .slice s2 m2 d2, .slice s3 m3 d3]] w fun e w' => ∃ a n c a' n' c', e = .returned (.tuple #[.slice a n c, .slice a' n' c', .int .i64 0]) ∧ SsAt w' (.slice a n c) A ∧ SsAt w' (.slice a' n' c') B ∧ Below w.heap.size w w'
def HPr (k2 k1 : ByteArray) (N : NSta) (W : List Int) (V F : List ByteArray) (Y : List Int) : Prop := ∀ (w : World) (s1 s2 s3 xw xt : Option Addr) (m1 m2 m3 d1 d2 d3 nw pw nt pt : Nat), NAt w (.slice s1 m1 d1) (.slice s2 m2 d2) (.slice s3 m3 d3) N → ZsAt w (.slice xw nw pw) W → SsAt w (.slice xt nt pt) V →
 Calls Tryz.prog 25 #[.agg #[.string k2, .string k2], .agg #[.slice s1 m1 d1, .slice s2 m2 d2, .slice s3 m3 d3], .slice xw nw pw, .string k1, .agg #[.slice xt nt pt, .string { data := #[] }, .int .i64 0]] w fun e w' => ∃ fo fl fc ro rl rc uo ul uc us ut, e = .returned (.tuple #[.agg #[.slice fo fl fc, .string k1, .slice ro rl rc], .agg #[.slice uo ul uc, .string us, .int .i64 ut], .int .i64 0]) ∧ SsAt w' (.slice fo fl fc) F ∧ ZsAt w' (.slice ro rl rc) Y ∧ (∀ b, b < w.heap.size → FarS (.slice fo fl fc) b ∧ FarS (.slice ro rl rc) b) ∧ Below w.heap.size w w'
def HRs (k2 k1 : ByteArray) (N : NSta) (W M Y : List Int) (er : Int) : Prop := ∀ (w : World) (s1 s2 s3 xw xm : Option Addr) (m1 m2 m3 d1 d2 d3 nw pw nm pm : Nat), NAt w (.slice s1 m1 d1) (.slice s2 m2 d2) (.slice s3 m3 d3) N → ZsAt w (.slice xw nw pw) W → ZsAt w (.slice xm nm pm) M →
 Calls Tryz.prog 17 #[.agg #[.string k2, .string k2], .agg #[.slice s1 m1 d1, .slice s2 m2 d2, .slice s3 m3 d3], .slice xw nw pw, .slice xm nm pm, .string k1] w fun e w' => ∃ a n c, e = .returned (.tuple #[.slice a n c, .int .i64 er]) ∧ ZsAt w' (.slice a n c) Y ∧ Below w.heap.size w w'
def HVe (k2 k1 : ByteArray) (N : NSta) (F : List ByteArray) (Y : List Int) : Prop := ∀ (w : World) (s1 s2 s3 xf xr : Option Addr) (m1 m2 m3 d1 d2 d3 nf pf nr pr : Nat), NAt w (.slice s1 m1 d1) (.slice s2 m2 d2) (.slice s3 m3 d3) N → SsAt w (.slice xf nf pf) F → ZsAt w (.slice xr nr pr) Y →
 Calls Tryz.prog 23 #[.agg #[.string k2, .string k2], .agg #[.slice s1 m1 d1, .slice s2 m2 d2, .slice s3 m3 d3], .agg #[.slice xf nf pf, .string k1, .slice xr nr pr]] w fun e w' => e = .returned (.int .i64 0) ∧ Below w.heap.size w w'
def HEn (F : List ByteArray) : Prop := ∀ (w : World) (u v : Value), SsAt w u F → SsAt w v F → Calls Tryz.prog 15 #[u, v] w fun e w' => e = .returned (.bool true) ∧ Below w.heap.size w w'
def HEz (Z : List Int) : Prop := ∀ (w : World) (u v : Value), ZsAt w u Z → ZsAt w v Z → Calls Tryz.prog 41 #[u, v] w fun e w' => e = .returned (.bool true) ∧ Below w.heap.size w w'

set_option maxHeartbeats 16000000 in
theorem awake_l (k0 k1 k2 k4 k11 k8 k16 k13 : ByteArray) (N0 N4 : NSta) (w : World) (z3 z14 z12 z11 z10 : Int) (k7 : ByteArray)
  (l0 : k0 = { data := #[] }) (l1 : k1 = { data := #[1] }) (l2 : k2 = { data := #[2] }) (l4 : k4 = { data := #[4] }) (l7 : k7 = { data := #[7] }) (l11 : k11 = { data := #[11] }) (l8 : k8 = { data := #[8] }) (l16 : k16 = { data := #[16] }) (l13 : k13 = { data := #[13] })
  (l3 : zI z3 = (false, { data := #[3] })) (l14 : zI z14 = (true, { data := #[14] })) (l12 : zI z12 = (false, { data := #[12] })) (lz11 : zI z11 = (true, { data := #[11] })) (l10 : zI z10 = (false, { data := #[10] }))
  (e0 : HEx k0 N0) (e4 : HEx k4 N4) (b0 : HBd k2 N0 [k11] [k11]) (b4 : HBd k2 N4 [k16] [k13]) (pr : HPr k2 k1 N0 [z3] [k7] [k8] [z10]) (r1 : HRs k2 k1 N4 [z3] [z14] [z11] 0) (r2 : HRs k2 k1 N4 [z3] [z12] [] 15) (ve : HVe k2 k1 N0 [k8] [z10])
  (q11 : HEn [k11]) (q8 : HEn [k8]) (q16 : HEn [k16]) (q13 : HEn [k13]) (y10 : HEz [z10]) (y11 : HEz [z11]) :
  Calls Tryz.prog 12 #[] w fun e w' => e = .returned (.bool true) ∧ Below w.heap.size w w' := by
 unfold HEx at e0 e4
 unfold HBd at b0 b4
 unfold HPr at pr
 unfold HRs at r1 r2
 unfold HVe at ve
 unfold HEn at q11 q8 q16 q13
 unfold HEz at y10 y11
 subst l0 l1 l2 l4 l7 l11 l8 l16 l13
 have HE0 := Lib.hid e0
 have HE4 := Lib.hid e4
 have HB0 := Lib.hid b0
 have HB4 := Lib.hid b4
 have HPR := Lib.hid pr
 have HR1 := Lib.hid r1
 have HR2 := Lib.hid r2
 have HVE := Lib.hid ve
 have HQ11 := Lib.hid q11
 have HQ8 := Lib.hid q8
 have HQ16 := Lib.hid q16
 have HQ13 := Lib.hid q13
 have HY10 := Lib.hid y10
 have HY11 := Lib.hid y11
 have L3 := Lib.hid l3
 have L14 := Lib.hid l14
 have L12 := Lib.hid l12
 have L11 := Lib.hid lz11
 have L10 := Lib.hid l10
 clear e0 e4 b0 b4 pr r1 r2 ve q11 q8 q16 q13 y10 y11 l3 l14 l12 lz11 l10
 go_enter Tryz.func12, Tryz.ntmps12
 go_upto_region 2 with fail
 have hR := Blk.new w #[.string { data := #[2] }, .string { data := #[2] }] 24
 have hBW := b1 w (.cells #[.string { data := #[2] }, .string { data := #[2] }] 24)
 generalize w.alloc (.cells #[.string { data := #[2] }, .string { data := #[2] }] 24) = w1 at hR hBW ⊢
 replace hR : Blk w1 w.heap.size 24 [.string { data := #[2] }, .string { data := #[2] }] := hR
 obtain ⟨g, hg⟩ : ∃ g, w.heap.size = g := ⟨_, rfl⟩
 have HGE := Lib.hid hg
 rw [hg] at hR ⊢
 clear hg
 go_upto_region 3 with fail
 have hU := Blk.new w1 #[.bool false, .string { data := #[3] }] 72
 replace hR := hR.alloc (.cells #[.bool false, .string { data := #[3] }] 72)
 replace hBW := ba hBW (.cells #[.bool false, .string { data := #[3] }] 72)
 have h3 : ZsAt (w1.alloc (.cells #[.bool false, .string { data := #[3] }] 72)) (.slice (some ⟨w1.heap.size, 0, none⟩) 1 1) [z3] := z1row hU L3.out
 generalize w1.alloc (.cells #[.bool false, .string { data := #[3] }] 72) = w2 at hR hBW h3 ⊢
 obtain ⟨g3, hg3⟩ : ∃ g, w1.heap.size = g := ⟨_, rfl⟩
 rw [hg3] at h3 ⊢
 clear hg3 hU
 have hC : CA w2 [(⟨g, 0, none⟩, .string { data := #[2] }), (⟨g, 1, none⟩, .string { data := #[2] })] := CA.cons hR.lt (hR.cell 0) (CA.cons hR.lt (hR.cell 1) (CA.nil _))
 have hK : AK w2 [] [(.slice (some ⟨g3, 0, none⟩) 1 1, [z3])] := AK.addZ ⟨by simp, by simp⟩ h3
 clear hR h3
 -- sigma.Bounds of the first statement
 go_wp2_with fail
 go_region_held3 (fun w' => w'.cell? ⟨g, 0, none⟩ = some (.string { data := #[2] }) ∧ w'.cell? ⟨g, 1, none⟩ = some (.string { data := #[2] })) ((refine CA.k2 ?_; repeat (first | (with_reducible exact hCb) | (with_reducible exact hCa) | (with_reducible exact hC) | (with_reducible refine CA.drew ?_) | (with_reducible refine CA.alloc ?_ _))))
  (first | (go_at_call 29; (with_reducible refine (HE0.out _).mono ?_); rintro e wa ⟨a1, a2, a3, n1, n2, n3, c1, c2, c3, rfl, hSa, hba⟩; have hCa := hC.drew.after hba; have hBa : Below w2.heap.size w2 wa := (Below.drew (Below.refl w2.heap.size w2)).trans hba) | (go_at_call 13; (with_reducible refine (HB0.out _ _ _ _ _ _ _ _ _ _ hSa).mono ?_); rintro e wb ⟨xa, na, ca, xb, nb, cb, rfl, hA, hB, hbb⟩; have hCb := hCa.after hbb; have hBb := bt hBa hbb))
 have hKb := ((hK.after hBb).addS hA).addS hB
 replace hBW := bt hBW hBb
 clear hC hK hCa hBa hSa hba hA hB hbb hBb
 -- sigma.Prove
 go_upto_region 4 with fail
 go_cut [6, 7, 8] (fun s6 s7 s8 wx => (∃ g6 fo fl fc ro rl rc, s6 = .pointer (some ⟨g6, 0, none⟩) ∧ Blk wx g6 52 [.slice fo fl fc, .string { data := #[1] }, .slice ro rl rc] ∧ SsAt wx (.slice fo fl fc) [{ data := #[8] }] ∧ ZsAt wx (.slice ro rl rc) [z10]) ∧ s8 = .int .i64 0 ∧ Below wb.heap.size wb wx)
 case first =>
  clear hBW HB0 HB4 HE4 HR1 HR2 HVE HQ11 HQ8 HQ16 HQ13 HY10 HY11 L14 L12 L11 L10 L3
  go_region_held3 (fun w' => w'.cell? ⟨g, 0, none⟩ = some (.string { data := #[2] }) ∧ w'.cell? ⟨g, 1, none⟩ = some (.string { data := #[2] })) ((refine CA.k2 ?_; repeat (first | (with_reducible exact hCd) | (with_reducible exact hCc) | (with_reducible exact hCb) | (with_reducible refine CA.drew ?_) | (with_reducible refine CA.alloc ?_ _) | (refine CA.set ?_ _ _ _ (by intro x hx; have h1 := (hCb x hx).1; have h2 := hBc.size; omega)))))
   (first | (go_at_call 29; (with_reducible refine (HE0.out _).mono ?_); rintro e wc ⟨a1, a2, a3, n1, n2, n3, c1, c2, c3, rfl, hSc, hbc⟩; have hBc : Below wb.heap.size wb wc := bt (by repeat (first | (with_reducible exact Below.refl _ _) | (with_reducible refine ba ?_ _) | (with_reducible refine Below.drew ?_) | fail)) hbc; have hCc : CA wc [(⟨g, 0, none⟩, .string { data := #[2] }), (⟨g, 1, none⟩, .string { data := #[2] })] := by (refine CA.after ?_ hbc; repeat (first | (with_reducible exact hCb) | (with_reducible refine CA.drew ?_) | (with_reducible refine CA.alloc ?_ _) | fail))) | (go_at_call 25; (with_reducible refine Calls.mono (HPR.out _ _ _ _ _ _ _ _ _ _ _ _ _ _ _ _ ?_ ?_ ?_) ?_); (focus (refine hSc.after ?_; repeat (first | (with_reducible exact Below.refl _ _) | (with_reducible refine ba ?_ _) | (with_reducible refine Below.drew ?_) | fail))); (focus (refine ZsAt.after (hKb.2 (_, [z3]) (by simp)) ?_; repeat (first | (with_reducible exact hBc) | (with_reducible refine ba ?_ _) | (with_reducible refine Below.drew ?_) | fail))); (focus (refine s1row (T := 22) ?_; repeat (first | ((with_reducible refine blkR ?_ ?_) <;> (first | (with_reducible rfl) | (focus (simp; done)) | rfl | fail)) | (with_reducible refine Blk.alloc ?_ _) | (with_reducible refine Blk.drew ?_) | (with_reducible refine Blk.after ?_ hbc)))); rintro e wd ⟨fo, fl, fc, ro, rl, rc, uo, ul, uc, us, ut, rfl, hF, hY, hFar, hbd⟩; (have hCd : CA wd [(⟨g, 0, none⟩, .string { data := #[2] }), (⟨g, 1, none⟩, .string { data := #[2] })] := by (refine CA.after ?_ hbd; repeat (first | (with_reducible exact hCc) | (with_reducible refine CA.drew ?_) | (with_reducible refine CA.alloc ?_ _) | fail))); have hBd : Below wb.heap.size wb wd := bt (by repeat (first | (with_reducible exact hBc) | (with_reducible refine ba ?_ _) | (with_reducible refine Below.drew ?_) | fail)) hbd; (try (have p0 : Blk wd (wb.heap.size) 52 [.slice none 0 0, .string { data := #[] }, .slice none 0 0] := by (refine Blk.after ?_ hbd; repeat (first | ((with_reducible refine blkR ?_ ?_) <;> (first | (with_reducible rfl) | (focus (simp; done)) | rfl | fail)) | (with_reducible refine Blk.alloc ?_ _) | (with_reducible refine Blk.drew ?_) | (with_reducible refine Blk.after ?_ hbc) | fail)))); (try (have p0c0 := p0.cell 0; have p0c1 := p0.cell 1; have p0c2 := p0.cell 2; have p0f0 := p0.free 0; have p0f1 := p0.free 1; have p0f2 := p0.free 2; have p0l := p0.lt)); (try (have p1 : Blk wd (wb.heap.size + 1) 52 [.slice none 0 0, .string { data := #[] }, .slice none 0 0] := by (refine Blk.after ?_ hbd; repeat (first | ((with_reducible refine blkR ?_ ?_) <;> (first | (with_reducible rfl) | (focus (simp; done)) | rfl | fail)) | (with_reducible refine Blk.alloc ?_ _) | (with_reducible refine Blk.drew ?_) | (with_reducible refine Blk.after ?_ hbc) | fail)))); (try (have p1c0 := p1.cell 0; have p1c1 := p1.cell 1; have p1c2 := p1.cell 2; have p1f0 := p1.free 0; have p1f1 := p1.free 1; have p1f2 := p1.free 2; have p1l := p1.lt)); (try (have p2 : Blk wd (wb.heap.size + 1 + 1) 52 [.slice none 0 0, .string { data := #[] }, .slice none 0 0] := by (refine Blk.after ?_ hbd; repeat (first | ((with_reducible refine blkR ?_ ?_) <;> (first | (with_reducible rfl) | (focus (simp; done)) | rfl | fail)) | (with_reducible refine Blk.alloc ?_ _) | (with_reducible refine Blk.drew ?_) | (with_reducible refine Blk.after ?_ hbc) | fail)))); (try (have p2c0 := p2.cell 0; have p2c1 := p2.cell 1; have p2c2 := p2.cell 2; have p2f0 := p2.free 0; have p2f1 := p2.free 1; have p2f2 := p2.free 2; have p2l := p2.lt)); (try (have p3 : Blk wd (wc.heap.size) 52 [.slice none 0 0, .string { data := #[] }, .slice none 0 0] := by (refine Blk.after ?_ hbd; repeat (first | ((with_reducible refine blkR ?_ ?_) <;> (first | (with_reducible rfl) | (focus (simp; done)) | rfl | fail)) | (with_reducible refine Blk.alloc ?_ _) | (with_reducible refine Blk.drew ?_) | (with_reducible refine Blk.after ?_ hbc) | fail)))); (try (have p3c0 := p3.cell 0; have p3c1 := p3.cell 1; have p3c2 := p3.cell 2; have p3f0 := p3.free 0; have p3f1 := p3.free 1; have p3f2 := p3.free 2; have p3l := p3.lt)); (try (have p4 : Blk wd (wc.heap.size + 1) 52 [.slice none 0 0, .string { data := #[] }, .slice none 0 0] := by (refine Blk.after ?_ hbd; repeat (first | ((with_reducible refine blkR ?_ ?_) <;> (first | (with_reducible rfl) | (focus (simp; done)) | rfl | fail)) | (with_reducible refine Blk.alloc ?_ _) | (with_reducible refine Blk.drew ?_) | (with_reducible refine Blk.after ?_ hbc) | fail)))); (try (have p4c0 := p4.cell 0; have p4c1 := p4.cell 1; have p4c2 := p4.cell 2; have p4f0 := p4.free 0; have p4f1 := p4.free 1; have p4f2 := p4.free 2; have p4l := p4.lt)); (try (have p5 : Blk wd (wc.heap.size + 1 + 1) 52 [.slice none 0 0, .string { data := #[] }, .slice none 0 0] := by (refine Blk.after ?_ hbd; repeat (first | ((with_reducible refine blkR ?_ ?_) <;> (first | (with_reducible rfl) | (focus (simp; done)) | rfl | fail)) | (with_reducible refine Blk.alloc ?_ _) | (with_reducible refine Blk.drew ?_) | (with_reducible refine Blk.after ?_ hbc) | fail)))); (try (have p5c0 := p5.cell 0; have p5c1 := p5.cell 1; have p5c2 := p5.cell 2; have p5f0 := p5.free 0; have p5f1 := p5.free 1; have p5f2 := p5.free 2; have p5l := p5.lt)); (try (have t0 : Blk wd (wb.heap.size) 41 [.slice none 0 0, .string { data := #[] }, .int .i64 0] := by (refine Blk.after ?_ hbd; repeat (first | ((with_reducible refine blkR ?_ ?_) <;> (first | (with_reducible rfl) | (focus (simp; done)) | rfl | fail)) | (with_reducible refine Blk.alloc ?_ _) | (with_reducible refine Blk.drew ?_) | (with_reducible refine Blk.after ?_ hbc) | fail)))); (try (have t0c0 := t0.cell 0; have t0c1 := t0.cell 1; have t0c2 := t0.cell 2; have t0f0 := t0.free 0; have t0f1 := t0.free 1; have t0f2 := t0.free 2; have t0l := t0.lt)); (try (have t1 : Blk wd (wb.heap.size + 1) 41 [.slice none 0 0, .string { data := #[] }, .int .i64 0] := by (refine Blk.after ?_ hbd; repeat (first | ((with_reducible refine blkR ?_ ?_) <;> (first | (with_reducible rfl) | (focus (simp; done)) | rfl | fail)) | (with_reducible refine Blk.alloc ?_ _) | (with_reducible refine Blk.drew ?_) | (with_reducible refine Blk.after ?_ hbc) | fail)))); (try (have t1c0 := t1.cell 0; have t1c1 := t1.cell 1; have t1c2 := t1.cell 2; have t1f0 := t1.free 0; have t1f1 := t1.free 1; have t1f2 := t1.free 2; have t1l := t1.lt)); (try (have t2 : Blk wd (wb.heap.size + 1 + 1) 41 [.slice none 0 0, .string { data := #[] }, .int .i64 0] := by (refine Blk.after ?_ hbd; repeat (first | ((with_reducible refine blkR ?_ ?_) <;> (first | (with_reducible rfl) | (focus (simp; done)) | rfl | fail)) | (with_reducible refine Blk.alloc ?_ _) | (with_reducible refine Blk.drew ?_) | (with_reducible refine Blk.after ?_ hbc) | fail)))); (try (have t2c0 := t2.cell 0; have t2c1 := t2.cell 1; have t2c2 := t2.cell 2; have t2f0 := t2.free 0; have t2f1 := t2.free 1; have t2f2 := t2.free 2; have t2l := t2.lt)); (try (have t3 : Blk wd (wc.heap.size) 41 [.slice none 0 0, .string { data := #[] }, .int .i64 0] := by (refine Blk.after ?_ hbd; repeat (first | ((with_reducible refine blkR ?_ ?_) <;> (first | (with_reducible rfl) | (focus (simp; done)) | rfl | fail)) | (with_reducible refine Blk.alloc ?_ _) | (with_reducible refine Blk.drew ?_) | (with_reducible refine Blk.after ?_ hbc) | fail)))); (try (have t3c0 := t3.cell 0; have t3c1 := t3.cell 1; have t3c2 := t3.cell 2; have t3f0 := t3.free 0; have t3f1 := t3.free 1; have t3f2 := t3.free 2; have t3l := t3.lt)); (try (have t4 : Blk wd (wc.heap.size + 1) 41 [.slice none 0 0, .string { data := #[] }, .int .i64 0] := by (refine Blk.after ?_ hbd; repeat (first | ((with_reducible refine blkR ?_ ?_) <;> (first | (with_reducible rfl) | (focus (simp; done)) | rfl | fail)) | (with_reducible refine Blk.alloc ?_ _) | (with_reducible refine Blk.drew ?_) | (with_reducible refine Blk.after ?_ hbc) | fail)))); (try (have t4c0 := t4.cell 0; have t4c1 := t4.cell 1; have t4c2 := t4.cell 2; have t4f0 := t4.free 0; have t4f1 := t4.free 1; have t4f2 := t4.free 2; have t4l := t4.lt)); (try (have t5 : Blk wd (wc.heap.size + 1 + 1) 41 [.slice none 0 0, .string { data := #[] }, .int .i64 0] := by (refine Blk.after ?_ hbd; repeat (first | ((with_reducible refine blkR ?_ ?_) <;> (first | (with_reducible rfl) | (focus (simp; done)) | rfl | fail)) | (with_reducible refine Blk.alloc ?_ _) | (with_reducible refine Blk.drew ?_) | (with_reducible refine Blk.after ?_ hbc) | fail)))); (try (have t5c0 := t5.cell 0; have t5c1 := t5.cell 1; have t5c2 := t5.cell 2; have t5f0 := t5.free 0; have t5f1 := t5.free 1; have t5f2 := t5.free 2; have t5l := t5.lt)); (try (have hz1 := hbc.size)); (try simp at hz1); (try (have hz2 := hbd.size)); (try simp at hz2); (try (have n00 : ¬ wb.heap.size = wc.heap.size := by (have h1 := hbc.size; simp at h1; omega))); (try (have m00 : ¬ wc.heap.size = wb.heap.size := by (have h1 := hbc.size; simp at h1; omega))); (try (have n01 : ¬ wb.heap.size = wc.heap.size + 1 := by (have h1 := hbc.size; simp at h1; omega))); (try (have m01 : ¬ wc.heap.size + 1 = wb.heap.size := by (have h1 := hbc.size; simp at h1; omega))); (try (have n02 : ¬ wb.heap.size = wc.heap.size + 1 + 1 := by (have h1 := hbc.size; simp at h1; omega))); (try (have m02 : ¬ wc.heap.size + 1 + 1 = wb.heap.size := by (have h1 := hbc.size; simp at h1; omega))); (try (have n10 : ¬ wb.heap.size + 1 = wc.heap.size := by (have h1 := hbc.size; simp at h1; omega))); (try (have m10 : ¬ wc.heap.size = wb.heap.size + 1 := by (have h1 := hbc.size; simp at h1; omega))); (try (have n11 : ¬ wb.heap.size + 1 = wc.heap.size + 1 := by (have h1 := hbc.size; simp at h1; omega))); (try (have m11 : ¬ wc.heap.size + 1 = wb.heap.size + 1 := by (have h1 := hbc.size; simp at h1; omega))); (try (have n12 : ¬ wb.heap.size + 1 = wc.heap.size + 1 + 1 := by (have h1 := hbc.size; simp at h1; omega))); (try (have m12 : ¬ wc.heap.size + 1 + 1 = wb.heap.size + 1 := by (have h1 := hbc.size; simp at h1; omega))); (try (have n20 : ¬ wb.heap.size + 1 + 1 = wc.heap.size := by (have h1 := hbc.size; simp at h1; omega))); (try (have m20 : ¬ wc.heap.size = wb.heap.size + 1 + 1 := by (have h1 := hbc.size; simp at h1; omega))); (try (have n21 : ¬ wb.heap.size + 1 + 1 = wc.heap.size + 1 := by (have h1 := hbc.size; simp at h1; omega))); (try (have m21 : ¬ wc.heap.size + 1 = wb.heap.size + 1 + 1 := by (have h1 := hbc.size; simp at h1; omega))); (try (have n22 : ¬ wb.heap.size + 1 + 1 = wc.heap.size + 1 + 1 := by (have h1 := hbc.size; simp at h1; omega))); (try (have m22 : ¬ wc.heap.size + 1 + 1 = wb.heap.size + 1 + 1 := by (have h1 := hbc.size; simp at h1; omega)))))
  all_goals
   go_wp2_with fail
   go_meet
   (try clear p0c0 p0c1 p0c2 p0f0 p0f1 p0f2)
   (try clear p1c0 p1c1 p1c2 p1f0 p1f1 p1f2)
   (try clear p2c0 p2c1 p2c2 p2f0 p2f1 p2f2)
   (try clear p3c0 p3c1 p3c2 p3f0 p3f1 p3f2)
   (try clear p4c0 p4c1 p4c2 p4f0 p4f1 p4f2)
   (try clear p5c0 p5c1 p5c2 p5f0 p5f1 p5f2)
   (try clear t0c0 t0c1 t0c2 t0f0 t0f1 t0f2)
   (try clear t1c0 t1c1 t1c2 t1f0 t1f1 t1f2)
   (try clear t2c0 t2c1 t2c2 t2f0 t2f1 t2f2)
   (try clear t3c0 t3c1 t3c2 t3f0 t3f1 t3f2)
   (try clear t4c0 t4c1 t4c2 t4f0 t4f1 t4f2)
   (try clear t5c0 t5c1 t5c2 t5f0 t5f1 t5f2)
   have z1 := hBc.size
   have z2 := hBd.size
   refine ⟨⟨_, fo, fl, fc, ro, rl, rc, rfl, ?_, ?_, ?_⟩, rfl, ?_⟩
   ·repeat (first | (with_reducible exact p0) | (with_reducible exact p1) | (with_reducible exact p2) | (with_reducible exact p3) | (with_reducible exact p4) | (with_reducible exact p5) | ((with_reducible refine blkR ?_ ?_) <;> (first | (with_reducible rfl) | (focus (simp; done)) | rfl | fail)) | (with_reducible refine Blk.alloc ?_ _) | (with_reducible apply blk_set3) | ((with_reducible refine blk_other3 ?_ ?_); (first | assumption | (focus (simp; done)) | (((try clear n00); (try clear n01); (try clear n02); (try clear n10); (try clear n11); (try clear n12); (try clear n20); (try clear n21); (try clear n22); (try clear m00); (try clear m01); (try clear m02); (try clear m10); (try clear m11); (try clear m12); (try clear m20); (try clear m21); (try clear m22)); (first | omega | (focus (simp; omega)))) | fail)) | fail)
   ·((try clear n00); (try clear n01); (try clear n02); (try clear n10); (try clear n11); (try clear n12); (try clear n20); (try clear n21); (try clear n22); (try clear m00); (try clear m01); (try clear m02); (try clear m10); (try clear m11); (try clear m12); (try clear m20); (try clear m21); (try clear m22))
    repeat (first | (with_reducible exact hF) | ((with_reducible refine ss_set3 ?_ ?_); (first | ((refine (hFar _ ?_).1); (first | (focus (simp; done)) | omega | (focus (simp; omega)) | fail)) | ((refine ss_far hF ?_); (first | (focus (simp; done)) | omega | (focus (simp; omega)) | fail)) | fail)) | (with_reducible refine SsAt.after ?_ (b1 _ _)) | fail)
   ·((try clear n00); (try clear n01); (try clear n02); (try clear n10); (try clear n11); (try clear n12); (try clear n20); (try clear n21); (try clear n22); (try clear m00); (try clear m01); (try clear m02); (try clear m10); (try clear m11); (try clear m12); (try clear m20); (try clear m21); (try clear m22))
    repeat (first | (with_reducible exact hY) | ((with_reducible refine zs_set3 ?_ ?_); (first | ((refine (hFar _ ?_).2); (first | (focus (simp; done)) | omega | (focus (simp; omega)) | fail)) | ((refine zs_far hY ?_); (first | (focus (simp; done)) | omega | (focus (simp; omega)) | fail)) | fail)) | (with_reducible refine ZsAt.after ?_ (b1 _ _)) | fail)
   ·((try clear n00); (try clear n01); (try clear n02); (try clear n10); (try clear n11); (try clear n12); (try clear n20); (try clear n21); (try clear n22); (try clear m00); (try clear m01); (try clear m02); (try clear m10); (try clear m11); (try clear m12); (try clear m20); (try clear m21); (try clear m22))
    repeat (first | (with_reducible exact hBd) | (with_reducible refine ba ?_ _) | ((with_reducible refine below_set3 ?_ ?_); (first | omega | (focus (simp; omega)) | fail)) | fail)
 case rest =>
  as_aux_lemma =>
  obtain ⟨⟨g6, fo, fl, fc, ro, rl, rc, rfl, hG6, hF, hY⟩, rfl, hbx⟩ := hcut
  obtain ⟨wd, hwd⟩ : ∃ wx, wx = wc := ⟨_, rfl⟩
  subst hwd
  have hCd := hCb.after hbx
  have hKd := ((hKb.after hbx).addS hF).addZ hY
  replace hBW := bt hBW hbx
  clear hCb hKb hbx hF hY HPR
  go_upto_region 5 with fail
  go_region_held3 (fun w' => w'.cell? ⟨g, 0, none⟩ = some (.string { data := #[2] }) ∧ w'.cell? ⟨g, 1, none⟩ = some (.string { data := #[2] })) ((refine CA.k2 ?_; repeat (first | (with_reducible exact hCf) | (with_reducible exact hCe) | (with_reducible exact hCd) | (with_reducible refine CA.drew ?_) | (with_reducible refine CA.alloc ?_ _))))
   (first | (go_at_call 29; (with_reducible refine Calls.mono (HE4.out _) ?_); rintro e we ⟨e1, e2, e3, en1, en2, en3, ec1, ec2, ec3, rfl, hSe, hbe⟩; (have hBe : Below wd.heap.size wd we := bt (by repeat (first | (with_reducible exact Below.refl _ _) | (with_reducible refine ba ?_ _) | (with_reducible refine Below.drew ?_) | fail)) hbe); have hKe := hKd.after hBe; have hCe : CA we [(⟨g, 0, none⟩, .string { data := #[2] }), (⟨g, 1, none⟩, .string { data := #[2] })] := CA.after hCd hBe) | (go_at_call 13; (with_reducible refine Calls.mono (HB4.out _ _ _ _ _ _ _ _ _ _ ?_) ?_); (focus (refine hSe.after ?_; repeat (first | (with_reducible exact Below.refl _ _) | (with_reducible refine ba ?_ _) | (with_reducible refine Below.drew ?_) | fail))); rintro e wf ⟨xc, nc, cc, xd, nd, cd, rfl, hP4, hQ4, hbf⟩; (have hBf : Below we.heap.size we wf := bt (by repeat (first | (with_reducible exact Below.refl _ _) | (with_reducible refine ba ?_ _) | (with_reducible refine Below.drew ?_) | fail)) hbf); have hKf := hKe.after hBf; have hCf : CA wf [(⟨g, 0, none⟩, .string { data := #[2] }), (⟨g, 1, none⟩, .string { data := #[2] })] := CA.after hCe hBf))
  replace hBW := bt hBW (bt hBe hBf)
  have hG6f := hG6.after (bt hBe hBf)
  have hKf2 := (hKf.addS hP4).addS hQ4
  clear hKf hG6 hKd hCd hKe hCe hSe hbe hBe hBf hbf hP4 hQ4 HB0 HB4
  have hKf := hKf2
  clear hKf2
  go_upto_region 6 with fail
  go_cut [12, 13] (fun s12 s13 wx => (∃ xe ne ce, s12 = .slice xe ne ce ∧ ZsAt wx (.slice xe ne ce) [z11]) ∧ s13 = .int .i64 0 ∧ Below wf.heap.size wf wx)
  case first =>
   clear hBW
   go_region_held3 (fun w' => w'.cell? ⟨g, 0, none⟩ = some (.string { data := #[2] }) ∧ w'.cell? ⟨g, 1, none⟩ = some (.string { data := #[2] })) ((refine CA.k2 ?_; repeat (first | (with_reducible exact hCh) | (with_reducible exact hCg) | (with_reducible exact hCf) | (with_reducible refine CA.drew ?_) | (with_reducible refine CA.alloc ?_ _))))
   (first | (go_at_call 29; (with_reducible refine Calls.mono (HE4.out _) ?_); rintro e wg ⟨g1, g2, g3, gn1, gn2, gn3, gc1, gc2, gc3, rfl, hSg, hbg⟩; (have hBg : Below wf.heap.size wf wg := bt (by repeat (first | (with_reducible exact Below.refl _ _) | (with_reducible refine ba ?_ _) | (with_reducible refine Below.drew ?_) | fail)) hbg); have hKg := hKf.after hBg; have hCg : CA wg [(⟨g, 0, none⟩, .string { data := #[2] }), (⟨g, 1, none⟩, .string { data := #[2] })] := CA.after hCf hBg) | (go_at_call 17; (with_reducible refine Calls.mono (HR1.out _ _ _ _ _ _ _ _ _ _ _ _ _ _ _ _ ?_ ?_ ?_) ?_); (focus (refine hSg.after ?_; repeat (first | (with_reducible exact Below.refl _ _) | (with_reducible refine ba ?_ _) | (with_reducible refine Below.drew ?_) | fail))); (focus (refine ZsAt.after (hKg.2 (_, [z3]) (by simp)) ?_; repeat (first | (with_reducible exact Below.refl _ _) | (with_reducible refine ba ?_ _) | (with_reducible refine Below.drew ?_) | fail))); (focus (refine zbrow (T := 72) ?_ L14.out; repeat (first | ((with_reducible refine blkR ?_ ?_) <;> (first | (with_reducible rfl) | (focus (simp; done)) | rfl | fail)) | (with_reducible refine Blk.alloc ?_ _) | (with_reducible refine Blk.drew ?_) | (with_reducible refine Blk.after ?_ hbg) | (with_reducible refine Blk.after ?_ hbi) | (with_reducible refine Blk.after ?_ hbj) | (with_reducible refine Blk.after ?_ hbo) | fail))); rintro e wh ⟨xe, ne, ce, rfl, hY4, hbh⟩; (have hBh : Below wg.heap.size wg wh := bt (by repeat (first | (with_reducible exact Below.refl _ _) | (with_reducible refine ba ?_ _) | (with_reducible refine Below.drew ?_) | fail)) hbh); have hKh := hKg.after hBh; have hCh : CA wh [(⟨g, 0, none⟩, .string { data := #[2] }), (⟨g, 1, none⟩, .string { data := #[2] })] := CA.after hCg hBh))
   all_goals
    go_wp2_with fail
    go_meet
    exact ⟨⟨_, _, _, rfl, hY4⟩, rfl, bt hBg hBh⟩
  case rest =>
  obtain ⟨⟨xe, ne, ce, rfl, hY4⟩, rfl, hbx⟩ := hcut
  obtain ⟨wh, hwh⟩ : ∃ wx, wx = wc := ⟨_, rfl⟩
  subst hwh
  replace hBW := bt hBW hbx
  have hG6h := hG6f.after hbx
  have hKh := (hKf.after hbx).addZ hY4
  have hC2 := hCf.after hbx
  have hCh : CA wh [(⟨g, 0, none⟩, .string { data := #[2] }), (⟨g, 1, none⟩, .string { data := #[2] }), (⟨g6, 0, none⟩, .slice fo fl fc), (⟨g6, 1, none⟩, .string { data := #[1] }), (⟨g6, 2, none⟩, .slice ro rl rc)] := CA.cons (hC2 (⟨g, 0, none⟩, .string { data := #[2] }) (by simp)).1 (hC2 (⟨g, 0, none⟩, .string { data := #[2] }) (by simp)).2 (CA.cons (hC2 (⟨g, 1, none⟩, .string { data := #[2] }) (by simp)).1 (hC2 (⟨g, 1, none⟩, .string { data := #[2] }) (by simp)).2 (CA.cons hG6h.lt (hG6h.cell 0) (CA.cons hG6h.lt (hG6h.cell 1) (CA.cons hG6h.lt (hG6h.cell 2) (CA.nil _)))))
  clear hC2
  clear hKf hCf hG6f hbx hY4 HR1
  go_upto_region 7 with fail
  go_cut [14, 15] (fun s14 s15 wx => (∃ xf nf cf, s14 = .slice xf nf cf) ∧ s15 = .int .i64 15 ∧ Below wh.heap.size wh wx)
  case first =>
   clear hBW
   go_region_held3 (fun w' => w'.cell? ⟨g, 0, none⟩ = some (.string { data := #[2] }) ∧ w'.cell? ⟨g, 1, none⟩ = some (.string { data := #[2] }) ∧ w'.cell? ⟨g6, 0, none⟩ = some (.slice fo fl fc) ∧ w'.cell? ⟨g6, 1, none⟩ = some (.string { data := #[1] }) ∧ w'.cell? ⟨g6, 2, none⟩ = some (.slice ro rl rc)) ((refine CA.k5 ?_; repeat (first | (with_reducible exact hCj) | (with_reducible exact hCi) | (with_reducible exact hCh) | (with_reducible refine CA.drew ?_) | (with_reducible refine CA.alloc ?_ _))))
    (first | (go_at_call 29; (with_reducible refine Calls.mono (HE4.out _) ?_); rintro e wi ⟨i1, i2, i3, in1, in2, in3, ic1, ic2, ic3, rfl, hSi, hbi⟩; (have hBi : Below wh.heap.size wh wi := bt (by repeat (first | (with_reducible exact Below.refl _ _) | (with_reducible refine ba ?_ _) | (with_reducible refine Below.drew ?_) | fail)) hbi); have hKi := hKh.after hBi; have hCi : CA wi [(⟨g, 0, none⟩, .string { data := #[2] }), (⟨g, 1, none⟩, .string { data := #[2] }), (⟨g6, 0, none⟩, .slice fo fl fc), (⟨g6, 1, none⟩, .string { data := #[1] }), (⟨g6, 2, none⟩, .slice ro rl rc)] := CA.after hCh hBi) | (go_at_call 17; (with_reducible refine Calls.mono (HR2.out _ _ _ _ _ _ _ _ _ _ _ _ _ _ _ _ ?_ ?_ ?_) ?_); (focus (refine hSi.after ?_; repeat (first | (with_reducible exact Below.refl _ _) | (with_reducible refine ba ?_ _) | (with_reducible refine Below.drew ?_) | fail))); (focus (refine ZsAt.after (hKi.2 (_, [z3]) (by simp)) ?_; repeat (first | (with_reducible exact Below.refl _ _) | (with_reducible refine ba ?_ _) | (with_reducible refine Below.drew ?_) | fail))); (focus (refine zbrow (T := 72) ?_ L12.out; repeat (first | ((with_reducible refine blkR ?_ ?_) <;> (first | (with_reducible rfl) | (focus (simp; done)) | rfl | fail)) | (with_reducible refine Blk.alloc ?_ _) | (with_reducible refine Blk.drew ?_) | (with_reducible refine Blk.after ?_ hbg) | (with_reducible refine Blk.after ?_ hbi) | (with_reducible refine Blk.after ?_ hbj) | (with_reducible refine Blk.after ?_ hbo) | fail))); rintro e wj ⟨xf, nf, cf, rfl, hY5, hbj⟩; (have hBj : Below wi.heap.size wi wj := bt (by repeat (first | (with_reducible exact Below.refl _ _) | (with_reducible refine ba ?_ _) | (with_reducible refine Below.drew ?_) | fail)) hbj); have hKj := hKi.after hBj; have hCj : CA wj [(⟨g, 0, none⟩, .string { data := #[2] }), (⟨g, 1, none⟩, .string { data := #[2] }), (⟨g6, 0, none⟩, .slice fo fl fc), (⟨g6, 1, none⟩, .string { data := #[1] }), (⟨g6, 2, none⟩, .slice ro rl rc)] := CA.after hCi hBj))
   all_goals
    go_wp2_with fail
    go_meet
    exact ⟨⟨_, _, _, rfl⟩, rfl, bt hBi hBj⟩
  case rest =>
  obtain ⟨⟨xf, nf, cf, rfl⟩, rfl, hbx⟩ := hcut
  obtain ⟨wj, hwj⟩ : ∃ wx, wx = wc := ⟨_, rfl⟩
  subst hwj
  replace hBW := bt hBW hbx
  have hKj := hKh.after hbx
  have hCj := hCh.after hbx
  clear hKh hCh hbx HR2 HE4
  go_upto_region 8 with fail
  dsimp only [List.append]
  go_region_held3 (fun w' => w'.cell? ⟨g, 0, none⟩ = some (.string { data := #[2] }) ∧ w'.cell? ⟨g, 1, none⟩ = some (.string { data := #[2] }) ∧ w'.cell? ⟨g6, 0, none⟩ = some (.slice fo fl fc) ∧ w'.cell? ⟨g6, 1, none⟩ = some (.string { data := #[1] }) ∧ w'.cell? ⟨g6, 2, none⟩ = some (.slice ro rl rc)) ((refine CA.k5 ?_; repeat (first | (with_reducible exact hCs) | (with_reducible exact hCr) | (with_reducible exact hCq) | (with_reducible exact hCp) | (with_reducible exact hCo) | (with_reducible exact hCn) | (with_reducible exact hCm) | (with_reducible exact hCl) | (with_reducible exact hCk) | (with_reducible exact hCj) | (with_reducible refine CA.drew ?_) | (with_reducible refine CA.alloc ?_ _))))
   (first | (go_at_call 15; (with_reducible refine Calls.mono (HQ11.out _ _ _ ?_ ?_) ?_); (focus (refine SsAt.after (hKj.1 (_, [{ data := #[11] }]) (by simp)) ?_; repeat (first | (with_reducible exact Below.refl _ _) | (with_reducible refine ba ?_ _) | (with_reducible refine Below.drew ?_) | fail))); (focus (refine s1row (T := 22) ?_; repeat (first | ((with_reducible refine blkR ?_ ?_) <;> (first | (with_reducible rfl) | (focus (simp; done)) | rfl | fail)) | (with_reducible refine Blk.alloc ?_ _) | (with_reducible refine Blk.drew ?_) | (with_reducible refine Blk.after ?_ hbg) | (with_reducible refine Blk.after ?_ hbi) | (with_reducible refine Blk.after ?_ hbj) | (with_reducible refine Blk.after ?_ hbo) | fail))); rintro e wk ⟨rfl, hbk⟩; (have hBk : Below wj.heap.size wj wk := bt (by repeat (first | (with_reducible exact Below.refl _ _) | (with_reducible refine ba ?_ _) | (with_reducible refine Below.drew ?_) | fail)) hbk); have hKk := hKj.after hBk; have hCk : CA wk [(⟨g, 0, none⟩, .string { data := #[2] }), (⟨g, 1, none⟩, .string { data := #[2] }), (⟨g6, 0, none⟩, .slice fo fl fc), (⟨g6, 1, none⟩, .string { data := #[1] }), (⟨g6, 2, none⟩, .slice ro rl rc)] := CA.after hCj hBk) | (go_at_call 15; (with_reducible refine Calls.mono (HQ11.out _ _ _ ?_ ?_) ?_); (focus (refine SsAt.after (hKk.1 (_, [{ data := #[11] }]) (by simp)) ?_; repeat (first | (with_reducible exact Below.refl _ _) | (with_reducible refine ba ?_ _) | (with_reducible refine Below.drew ?_) | fail))); (focus (refine SsAt.after (hKk.1 (_, [{ data := #[11] }]) (by simp)) ?_; repeat (first | (with_reducible exact Below.refl _ _) | (with_reducible refine ba ?_ _) | (with_reducible refine Below.drew ?_) | fail))); rintro e wl ⟨rfl, hbl⟩; (have hBl : Below wk.heap.size wk wl := bt (by repeat (first | (with_reducible exact Below.refl _ _) | (with_reducible refine ba ?_ _) | (with_reducible refine Below.drew ?_) | fail)) hbl); have hKl := hKk.after hBl; have hCl : CA wl [(⟨g, 0, none⟩, .string { data := #[2] }), (⟨g, 1, none⟩, .string { data := #[2] }), (⟨g6, 0, none⟩, .slice fo fl fc), (⟨g6, 1, none⟩, .string { data := #[1] }), (⟨g6, 2, none⟩, .slice ro rl rc)] := CA.after hCk hBl) | (go_at_call 15; (with_reducible refine Calls.mono (HQ8.out _ _ _ ?_ ?_) ?_); (focus (refine SsAt.after (hKl.1 (_, [{ data := #[8] }]) (by simp)) ?_; repeat (first | (with_reducible exact Below.refl _ _) | (with_reducible refine ba ?_ _) | (with_reducible refine Below.drew ?_) | fail))); (focus (refine s1row (T := 22) ?_; repeat (first | ((with_reducible refine blkR ?_ ?_) <;> (first | (with_reducible rfl) | (focus (simp; done)) | rfl | fail)) | (with_reducible refine Blk.alloc ?_ _) | (with_reducible refine Blk.drew ?_) | (with_reducible refine Blk.after ?_ hbg) | (with_reducible refine Blk.after ?_ hbi) | (with_reducible refine Blk.after ?_ hbj) | (with_reducible refine Blk.after ?_ hbo) | fail))); rintro e wm ⟨rfl, hbm⟩; (have hBm : Below wl.heap.size wl wm := bt (by repeat (first | (with_reducible exact Below.refl _ _) | (with_reducible refine ba ?_ _) | (with_reducible refine Below.drew ?_) | fail)) hbm); have hKm := hKl.after hBm; have hCm : CA wm [(⟨g, 0, none⟩, .string { data := #[2] }), (⟨g, 1, none⟩, .string { data := #[2] }), (⟨g6, 0, none⟩, .slice fo fl fc), (⟨g6, 1, none⟩, .string { data := #[1] }), (⟨g6, 2, none⟩, .slice ro rl rc)] := CA.after hCl hBm) | (go_at_call 41; (with_reducible refine Calls.mono (HY10.out _ _ _ ?_ ?_) ?_); (focus (refine ZsAt.after (hKm.2 (_, [z10]) (by simp)) ?_; repeat (first | (with_reducible exact Below.refl _ _) | (with_reducible refine ba ?_ _) | (with_reducible refine Below.drew ?_) | fail))); (focus (refine zbrow (T := 72) ?_ L10.out; repeat (first | ((with_reducible refine blkR ?_ ?_) <;> (first | (with_reducible rfl) | (focus (simp; done)) | rfl | fail)) | (with_reducible refine Blk.alloc ?_ _) | (with_reducible refine Blk.drew ?_) | (with_reducible refine Blk.after ?_ hbg) | (with_reducible refine Blk.after ?_ hbi) | (with_reducible refine Blk.after ?_ hbj) | (with_reducible refine Blk.after ?_ hbo) | fail))); rintro e wn ⟨rfl, hbn⟩; (have hBn : Below wm.heap.size wm wn := bt (by repeat (first | (with_reducible exact Below.refl _ _) | (with_reducible refine ba ?_ _) | (with_reducible refine Below.drew ?_) | fail)) hbn); have hKn := hKm.after hBn; have hCn : CA wn [(⟨g, 0, none⟩, .string { data := #[2] }), (⟨g, 1, none⟩, .string { data := #[2] }), (⟨g6, 0, none⟩, .slice fo fl fc), (⟨g6, 1, none⟩, .string { data := #[1] }), (⟨g6, 2, none⟩, .slice ro rl rc)] := CA.after hCm hBn) | (go_at_call 29; (with_reducible refine Calls.mono (HE0.out _) ?_); rintro e wo ⟨o1, o2, o3, on1, on2, on3, oc1, oc2, oc3, rfl, hSo, hbo⟩; (have hBo : Below wn.heap.size wn wo := bt (by repeat (first | (with_reducible exact Below.refl _ _) | (with_reducible refine ba ?_ _) | (with_reducible refine Below.drew ?_) | fail)) hbo); have hKo := hKn.after hBo; have hCo : CA wo [(⟨g, 0, none⟩, .string { data := #[2] }), (⟨g, 1, none⟩, .string { data := #[2] }), (⟨g6, 0, none⟩, .slice fo fl fc), (⟨g6, 1, none⟩, .string { data := #[1] }), (⟨g6, 2, none⟩, .slice ro rl rc)] := CA.after hCn hBo) | (go_at_call 23; (with_reducible refine Calls.mono (HVE.out _ _ _ _ _ _ _ _ _ _ _ _ _ _ _ _ ?_ ?_ ?_) ?_); (focus (refine hSo.after ?_; repeat (first | (with_reducible exact Below.refl _ _) | (with_reducible refine ba ?_ _) | (with_reducible refine Below.drew ?_) | fail))); (focus (refine SsAt.after (hKo.1 (_, [{ data := #[8] }]) (by simp)) ?_; repeat (first | (with_reducible exact Below.refl _ _) | (with_reducible refine ba ?_ _) | (with_reducible refine Below.drew ?_) | fail))); (focus (refine ZsAt.after (hKo.2 (_, [z10]) (by simp)) ?_; repeat (first | (with_reducible exact Below.refl _ _) | (with_reducible refine ba ?_ _) | (with_reducible refine Below.drew ?_) | fail))); rintro e wp ⟨rfl, hbp⟩; (have hBp : Below wo.heap.size wo wp := bt (by repeat (first | (with_reducible exact Below.refl _ _) | (with_reducible refine ba ?_ _) | (with_reducible refine Below.drew ?_) | fail)) hbp); have hKp := hKo.after hBp; have hCp : CA wp [(⟨g, 0, none⟩, .string { data := #[2] }), (⟨g, 1, none⟩, .string { data := #[2] }), (⟨g6, 0, none⟩, .slice fo fl fc), (⟨g6, 1, none⟩, .string { data := #[1] }), (⟨g6, 2, none⟩, .slice ro rl rc)] := CA.after hCo hBp) | (go_at_call 15; (with_reducible refine Calls.mono (HQ16.out _ _ _ ?_ ?_) ?_); (focus (refine SsAt.after (hKp.1 (_, [{ data := #[16] }]) (by simp)) ?_; repeat (first | (with_reducible exact Below.refl _ _) | (with_reducible refine ba ?_ _) | (with_reducible refine Below.drew ?_) | fail))); (focus (refine s1row (T := 22) ?_; repeat (first | ((with_reducible refine blkR ?_ ?_) <;> (first | (with_reducible rfl) | (focus (simp; done)) | rfl | fail)) | (with_reducible refine Blk.alloc ?_ _) | (with_reducible refine Blk.drew ?_) | (with_reducible refine Blk.after ?_ hbg) | (with_reducible refine Blk.after ?_ hbi) | (with_reducible refine Blk.after ?_ hbj) | (with_reducible refine Blk.after ?_ hbo) | fail))); rintro e wq ⟨rfl, hbq⟩; (have hBq : Below wp.heap.size wp wq := bt (by repeat (first | (with_reducible exact Below.refl _ _) | (with_reducible refine ba ?_ _) | (with_reducible refine Below.drew ?_) | fail)) hbq); have hKq := hKp.after hBq; have hCq : CA wq [(⟨g, 0, none⟩, .string { data := #[2] }), (⟨g, 1, none⟩, .string { data := #[2] }), (⟨g6, 0, none⟩, .slice fo fl fc), (⟨g6, 1, none⟩, .string { data := #[1] }), (⟨g6, 2, none⟩, .slice ro rl rc)] := CA.after hCp hBq) | (go_at_call 15; (with_reducible refine Calls.mono (HQ13.out _ _ _ ?_ ?_) ?_); (focus (refine SsAt.after (hKq.1 (_, [{ data := #[13] }]) (by simp)) ?_; repeat (first | (with_reducible exact Below.refl _ _) | (with_reducible refine ba ?_ _) | (with_reducible refine Below.drew ?_) | fail))); (focus (refine s1row (T := 22) ?_; repeat (first | ((with_reducible refine blkR ?_ ?_) <;> (first | (with_reducible rfl) | (focus (simp; done)) | rfl | fail)) | (with_reducible refine Blk.alloc ?_ _) | (with_reducible refine Blk.drew ?_) | (with_reducible refine Blk.after ?_ hbg) | (with_reducible refine Blk.after ?_ hbi) | (with_reducible refine Blk.after ?_ hbj) | (with_reducible refine Blk.after ?_ hbo) | fail))); rintro e wr ⟨rfl, hbr⟩; (have hBr : Below wq.heap.size wq wr := bt (by repeat (first | (with_reducible exact Below.refl _ _) | (with_reducible refine ba ?_ _) | (with_reducible refine Below.drew ?_) | fail)) hbr); have hKr := hKq.after hBr; have hCr : CA wr [(⟨g, 0, none⟩, .string { data := #[2] }), (⟨g, 1, none⟩, .string { data := #[2] }), (⟨g6, 0, none⟩, .slice fo fl fc), (⟨g6, 1, none⟩, .string { data := #[1] }), (⟨g6, 2, none⟩, .slice ro rl rc)] := CA.after hCq hBr) | (go_at_call 41; (with_reducible refine Calls.mono (HY11.out _ _ _ ?_ ?_) ?_); (focus (refine ZsAt.after (hKr.2 (_, [z11]) (by simp)) ?_; repeat (first | (with_reducible exact Below.refl _ _) | (with_reducible refine ba ?_ _) | (with_reducible refine Below.drew ?_) | fail))); (focus (refine zbrow (T := 72) ?_ L11.out; repeat (first | ((with_reducible refine blkR ?_ ?_) <;> (first | (with_reducible rfl) | (focus (simp; done)) | rfl | fail)) | (with_reducible refine Blk.alloc ?_ _) | (with_reducible refine Blk.drew ?_) | (with_reducible refine Blk.after ?_ hbg) | (with_reducible refine Blk.after ?_ hbi) | (with_reducible refine Blk.after ?_ hbj) | (with_reducible refine Blk.after ?_ hbo) | fail))); rintro e ws ⟨rfl, hbs⟩; (have hBs : Below wr.heap.size wr ws := bt (by repeat (first | (with_reducible exact Below.refl _ _) | (with_reducible refine ba ?_ _) | (with_reducible refine Below.drew ?_) | fail)) hbs); have hKs := hKr.after hBs; have hCs : CA ws [(⟨g, 0, none⟩, .string { data := #[2] }), (⟨g, 1, none⟩, .string { data := #[2] }), (⟨g6, 0, none⟩, .slice fo fl fc), (⟨g6, 1, none⟩, .string { data := #[1] }), (⟨g6, 2, none⟩, .slice ro rl rc)] := CA.after hCr hBs))
  all_goals
   have hbz := bt (bt (bt (bt (bt (bt (bt (bt hBk hBl) hBm) hBn) hBo) hBp) hBq) hBr) hBs
   clear hKj hCj
   go_wp2
   go_ret
   exact ⟨rfl, bt hBW hbz⟩

theorem own_far {w : World} {base b : Nat} {v : Value} {L : List Nat} (h : NOwn w base v L) (hb : b < base) : FarS v b := fun b9 o9 n9 c9 e9 h9 => by
 have h0 : w.ownsRow base 22 1 v L.length (strs L) := h
 rcases h0.2 with ⟨rfl, h2⟩ | ⟨g, cap, cur, rfl, h3, h4, _⟩
 ·injection e9 with e
  injection e
 ·injection e9 with e
  injection e with e
  injection e with e
  omega
theorem zown_far {w : World} {base b : Nat} {v : Value} {Z : List Int} (h : ZOwn w base v Z) (hb : b < base) : FarS v b := fun b9 o9 n9 c9 e9 h9 => by
 have h0 : w.ownsRow base 72 2 v Z.length (ics (Z.map zI)) := h
 rcases h0.2 with ⟨rfl, h2⟩ | ⟨g, cap, cur, rfl, h3, h4, _⟩
 ·injection e9 with e
  injection e
 ·injection e9 with e
  injection e with e
  injection e with e
  omega
theorem hex (b : Nat) : HEx (E b) (exS b) := fun w => (statement_c b w).mono (by
 rintro e w' ⟨v1, v2, v3, rfl, hS, hb⟩
 obtain ⟨a1, c1, a2, c2, a3, c3, rfl, rfl, rfl⟩ := hS.forms
 exact ⟨_, _, _, _, _, _, _, _, _, rfl, hS, hb⟩)
theorem exS_bnd (b : Nat) (hb : b < 256 ^ 16) (h0 : (exS b).chk = 0) (hv : (exS b).vars.any vz = true → 2 ≤ (exS b).ord) (v1 v2 v3 : Value) (w : World) (hS : NAt w v1 v2 v3 (exS b)) :
  ∀ w', Below w.heap.size w w' → Calls Tryz.prog 42 #[.agg #[.string (E 2), .string (E 2)], .agg #[v1, v2, v3]] w' (BPost w' ((exS b).lims 2 2)) :=
 fun w' hb1 => bounds_ok (exS b) 2 2 v1 v2 v3 w' (by decide) (by decide) (by decide) (by decide) hv (exS_ok b hb) (hS.after hb1) h0
theorem hbd (b : Nat) (A B : List Nat) (hb : b < 256 ^ 16) (h0 : (exS b).chk = 0) (hv : (exS b).vars.any vz = true → 2 ≤ (exS b).ord) (h1 : ((exS b).lims 2 2).map (·.1) = A) (h2 : ((exS b).lims 2 2).map (·.2) = B) : HBd (E 2) (exS b) (A.map E) (B.map E) := fun w s1 s2 s3 m1 m2 m3 d1 d2 d3 hS => by
 have h := sBounds_c (exS b) 2 2 _ _ _ w (by simp [exS]) (exS_bnd b hb h0 hv _ _ _ w hS)
 refine h.mono ?_
 rintro e w' ⟨v, u, rfl, hO, hP, hbb⟩
 have h3 := NOwn.ss hO
 have h4 := NOwn.ss hP
 rw [h1] at h3
 rw [h2] at h4
 obtain ⟨a, c, rfl⟩ := RAt.form h3
 obtain ⟨a', c', rfl⟩ := RAt.form h4
 exact ⟨_, _, _, _, _, _, rfl, h3, h4, hbb⟩
theorem hpr (att : Att) (b : Nat) (z : Int) (t : Nat) (F : List Nat) (Y : List Int) (hb : b < 256 ^ 16) (hz : z.natAbs < 256 ^ 64) (ht : (E t).size ≤ 100) (h0 : (exS b).chk = 0) (hv : (exS b).vars.any vz = true → 2 ≤ (exS b).ord)
  (h1 : ((exS b).prvR att 2 2 1 [z] ⟨[E t], ⟨#[]⟩, 0⟩).err = 0) (h2 : (exS b).fstR ((exS b).prvR att 2 2 1 [z] ⟨[E t], ⟨#[]⟩, 0⟩) = F) (h3 : (exS b).rspO 1 [z] ((exS b).prvR att 2 2 1 [z] ⟨[E t], ⟨#[]⟩, 0⟩) = Y) :
  HPr (E 2) (E 1) (exS b) [z] [E t] (F.map E) Y := fun w s1 s2 s3 xw xt m1 m2 m3 d1 d2 d3 nw pw nt pt hS hW hV => by
 have h := sprove_num att (exS b) 2 2 1 [z] ⟨[E t], ⟨#[]⟩, 0⟩ _ _ _ (.slice xw nw pw) (.slice xt nt pt) w (fun h => absurd rfl h) ⟨by show 1 ≤ 100; omega, fun x hx => by
   obtain rfl : x = E t := by simpa using hx
   exact ht, by show 0 ≤ 100; omega⟩ (by decide) (by decide) (exS_ok b hb) hS h0 (exS_bnd b hb h0 hv _ _ _ w hS) hW hV (by decide) (by simp) (by simpa using hz) (fun h => by have := hv h; omega)
 rw [h2, h3] at h
 obtain ⟨R, hR⟩ : ∃ R, R = (exS b).prvR att 2 2 1 [z] ⟨[E t], ⟨#[]⟩, 0⟩ := ⟨_, rfl⟩
 rw [← hR] at h h1
 refine h.mono ?_
 rintro e w' ⟨fv, rv, u, ch, rfl, hch, hF, hY, hT, hbb⟩
 rw [if_pos h1] at hch
 subst hch
 have h4 := NOwn.ss hF
 have h5 := ZOwn.zs hY
 have f1 := fun b (h : b < w.heap.size) => own_far hF h
 have f2 := fun b (h : b < w.heap.size) => zown_far hY h
 obtain ⟨a, c, rfl⟩ := RAt.form h4
 obtain ⟨a', c', rfl⟩ := RAt.form h5
 obtain ⟨a6, c6, rfl⟩ := RAt.form hT
 rw [h1]
 exact ⟨_, _, _, _, _, _, _, _, _, _, _, rfl, h4, h5, fun b h => ⟨f1 b h, f2 b h⟩, hbb⟩
theorem hrs (b : Nat) (z m : Int) (k : Nat) (Y : List Int) (hb : b < 256 ^ 16) (hz : z.natAbs < 256 ^ 64) (hm : m.natAbs < 256 ^ 64) (h0 : (exS b).chk = 0) (hv : (exS b).vars.any vz = true → 2 ≤ (exS b).ord) (h1 : (exS b).rspE 2 2 1 [z] [m] = k) (h2 : (exS b).rspR 2 2 1 [z] [m] = Y) :
  HRs (E 2) (E 1) (exS b) [z] [m] Y (k : Int) := fun w s1 s2 s3 xw xm m1 m2 m3 d1 d2 d3 nw pw nm pm hS hW hM => by
 have h := sresp_num (exS b) 2 2 1 [z] [m] _ _ _ _ _ w (by decide) (by decide) (exS_ok b hb) hS (exS_bnd b hb h0 hv _ _ _ w hS) hW hM (by decide) (by simp) (by simp) (by simpa using hz) (by simpa using hm) (fun h => by have := hv h; omega)
 rw [h1, h2] at h
 refine h.mono ?_
 rintro e w' ⟨v, rfl, hO, hbb⟩
 have h5 := ZOwn.zs hO
 obtain ⟨a', c', rfl⟩ := RAt.form h5
 exact ⟨_, _, _, rfl, h5, hbb⟩
theorem hve (b : Nat) (f : Nat) (z : Int) (hb : b < 256 ^ 16) (hf : f < 256 ^ 128) (hz : z.natAbs < 256 ^ 64) (h0 : (exS b).chk = 0) (hv : (exS b).vars.any vz = true → 2 ≤ (exS b).ord) (h1 : (exS b).ver 2 2 [f] 1 [z] = 0) :
  HVe (E 2) (E 1) (exS b) [E f] [z] := fun w s1 s2 s3 xf xr m1 m2 m3 d1 d2 d3 nf pf nr pr hS hF hZ => by
 have h := verify_num (exS b) 2 2 1 [f] [z] _ _ _ (.slice xf nf pf) _ w (by decide) (by decide) (exS_ok b hb) hS h0 (exS_bnd b hb h0 hv _ _ _ w hS) hF hZ (by simp) (by simpa using hf) (by decide) (by simp) (by simpa using hz)
 rw [h1] at h
 exact h

theorem awake_c (w : World) : Calls Tryz.prog 12 #[] w fun e w' => e = .returned (.bool true) ∧ Below w.heap.size w w' :=
 awake_l (E 0) (E 1) (E 2) (E 4) (E 11) (E 8) (E 16) (E 13) (exS 0) (exS 4) w 3 (-14) 12 (-11) 10 (E 7) rfl rfl rfl rfl rfl rfl rfl rfl rfl rfl rfl rfl rfl rfl
  (hex 0) (hex 4) (hbd 0 [11] [11] (by decide) (by decide +kernel) (by decide +kernel) (by decide +kernel) (by decide +kernel))
  (hbd 4 [16] [13] (by decide) (by decide +kernel) (by decide +kernel) (by decide +kernel) (by decide +kernel))
  (hpr (fun _ _ _ _ => 0) 0 3 7 [8] [10] (by decide) (by decide) (by decide +kernel) (by decide +kernel) (by decide +kernel) (by decide +kernel) (by decide +kernel) (by decide +kernel))
  (hrs 4 3 (-14) 0 [-11] (by decide) (by decide) (by decide) (by decide +kernel) (by decide +kernel) (by decide +kernel) (by decide +kernel))
  (hrs 4 3 12 15 [] (by decide) (by decide) (by decide) (by decide +kernel) (by decide +kernel) (by decide +kernel) (by decide +kernel))
  (hve 0 8 10 (by decide) (by decide) (by decide) (by decide +kernel) (by decide +kernel) (by decide +kernel))
  (fun w u v h1 h2 => eqNat_cV [11] [11] u v true w (by simp) (by simp) h1 h2 (by decide))
  (fun w u v h1 h2 => eqNat_cV [8] [8] u v true w (by simp) (by simp) h1 h2 (by decide))
  (fun w u v h1 h2 => eqNat_cV [16] [16] u v true w (by simp) (by simp) h1 h2 (by decide))
  (fun w u v h1 h2 => eqNat_cV [13] [13] u v true w (by simp) (by simp) h1 h2 (by decide))
  (fun w u v h1 h2 => eqZ_c u v [10] w (by simp) h1 h2)
  (fun w u v h1 h2 => eqZ_c u v [-11] w (by simp) h1 h2)
end Go.Proofs.YtcfjcenmcpankaaGreatDoor
end
