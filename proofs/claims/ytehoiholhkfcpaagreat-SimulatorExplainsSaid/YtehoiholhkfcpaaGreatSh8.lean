import Derived.Test.YtehoiholhkfcpaaGreatRef7
import Derived.Test.YtehoiholhkfcpaaGreatRegion
import Derived.Test.YtehoiholhkfcpaaGreatOwn
import Derived.Test.YtehoiholhkfcpaaGreatSig7
section
set_option linter.unusedVariables false
set_option linter.unusedSimpArgs false
set_option maxRecDepth 100000
namespace Go.Proofs.YtehoiholhkfcpaaGreat
open Go.RowKit Go.Shelf

/-- a rotation to the right -/
def rr (x : Int) (n : Nat) : Int := bits .or .u32 (x / 2 ^ n) (x * 2 ^ (32 - n) % 4294967296)

theorem right_c (x z : Int) (n : Nat) (w : World) (hz : z = (n : Int)) (hn : 0 < n) (hn2 : n < 32) :
  Calls Tryz.prog 225 #[.int .u32 x, .int .i64 z] w fun e w' => e = .returned (.int .u32 (rr x n)) ∧ Below w.heap.size w w' := by
 subst hz
 go_enter Tryz.func225, Tryz.ntmps225
 go_wp2_with fail
 refine wp_region_gw (by kernel_rfl) (by kernel_rfl) ?_
 repeat (go_big_quiet_step (first | (fail)))
 refine wpQuiet_nil ?_
 rintro w9 ⟨xw9, rfl⟩
 have hb9 := gw_below xw9
 generalize gw xw9 = w9 at hb9
 go_wp2
 go_ret
 exact ⟨rfl, hb9⟩
/-- the same, its value a letter -/
theorem right_x (x z : Int) (n : Nat) (w : World) (hz : z = (n : Int)) (hn : 0 < n) (hn2 : n < 32) :
  Calls Tryz.prog 225 #[.int .u32 x, .int .i64 z] w fun e w' => ∃ y, e = .returned (.int .u32 y) ∧ Below w.heap.size w w' :=
 (right_c x z n w hz hn hn2).mono fun e w' h => ⟨_, h⟩

/-- words as cells -/
def u32f (f : Nat → Int) (n : Nat) : List Value := (List.range n).map fun j => .int .u32 (f j)
theorem u32f_len (f : Nat → Int) (n : Nat) : (u32f f n).length = n := by simp [u32f]
theorem u32f_get (f : Nat → Int) {n j : Nat} (h : j < n) : (u32f f n)[j]? = some (.int .u32 (f j)) := by simp [u32f, h]
theorem u32f_set (f : Nat → Int) {n i : Nat} (v : Int) : (u32f f n).set i (.int .u32 v) = u32f (fun j => if j = i then v else f j) n := by
 refine List.ext_getElem? fun j => ?_
 rw [List.getElem?_set]
 by_cases e : i = j
 ·subst e
  by_cases h : i < n
  ·rw [if_pos rfl, if_pos (by rw [u32f_len]; exact h), u32f_get _ h, if_pos rfl]
  ·rw [if_pos rfl, if_neg (by rw [u32f_len]; exact h), List.getElem?_eq_none (by rw [u32f_len]; omega)]
 ·rw [if_neg e]
  by_cases h : j < n
  ·rw [u32f_get _ h, u32f_get _ h, if_neg (fun e' => e e'.symm)]
  ·rw [List.getElem?_eq_none (by rw [u32f_len]; omega), List.getElem?_eq_none (by rw [u32f_len]; omega)]
theorem u32f_zero (n : Nat) : (List.replicate n (Value.int .u32 0)).toArray.toList = u32f (fun _ => 0) n := by
 simp only [u32f]
 exact (List.map_const' ..).symm ▸ by simp

/-- words in a block -/
def Wds (w : World) (g n : Nat) : Prop := ∃ f, Blk w g 186 (u32f f n)
theorem Wds.lt {w : World} {g n : Nat} (h : Wds w g n) : g < w.heap.size := by obtain ⟨f, h⟩ := h; exact h.lt
theorem Wds.after {w w' : World} {g n : Nat} (h : Wds w g n) (hb : Below w.heap.size w w') : Wds w' g n := by obtain ⟨f, h⟩ := h; exact ⟨f, h.after hb⟩
theorem Wds.drew {w : World} {g n : Nat} (h : Wds w g n) : Wds w.drew g n := by obtain ⟨f, h⟩ := h; exact ⟨f, h.drew⟩
theorem Wds.at_ {w : World} {g n : Nat} (h : Wds w g n) {j : Nat} (hj : j < n) : ∃ x, w.cell? ⟨g, j, none⟩ = some (.int .u32 x) := by
 obtain ⟨f, h⟩ := h
 exact ⟨f j, by rw [h.cell, u32f_get f hj]⟩
theorem Wds.free {w : World} {g n : Nat} (h : Wds w g n) (j : Nat) : w.frozen? ⟨g, j, none⟩ = false := by
 obtain ⟨f, h⟩ := h
 exact h.free j
theorem Wds.set {w : World} {g n : Nat} (h : Wds w g n) (j : Nat) (x : Int) : Wds (w.setCell ⟨g, j, none⟩ (.int .u32 x)) g n := by
 obtain ⟨f, h⟩ := h
 have := h.set j (.int .u32 x)
 rw [u32f_set] at this
 exact ⟨_, this⟩

theorem info_u32 : (Tryz.prog.info? 186).map (fun i => (i.zero, i.size, i.bytes)) = some (some (.int .u32 0), 1, 4) := by kernel_rfl

set_option maxHeartbeats 4000000 in
theorem schedule_x (s : ByteArray) (w : World) (hs : s.size = 64) :
  Calls Tryz.prog 223 #[.string s] w fun e w' => ∃ g, e = .returned (.slice (some ⟨g, 0, none⟩) 64 64) ∧ Wds w' g 64 ∧ w.heap.size ≤ g ∧ Below w.heap.size w w' := by
 have hmk : ∀ W : World, (Instr.makeSlice 168 (.int .i64 64) (.int .i64 64)).run Tryz.prog W = .ok (.slice (some ⟨W.heap.size, 0, none⟩) 64 64) (W.alloc (.cells (List.replicate 64 (Value.int .u32 0)).toArray 186)) := run_mk (P := Tryz.prog) Tryz.underlying168 info_u32 64 (by omega) (by omega)
 have hB0 : Wds (w.alloc (.cells (List.replicate 64 (Value.int .u32 0)).toArray 186)) w.heap.size 64 := ⟨fun _ => 0, by rw [← u32f_zero]; exact Blk.new _ _ _⟩
 have hBW := b1 w (.cells (List.replicate 64 (Value.int .u32 0)).toArray 186)
 generalize hZ : (List.replicate 64 (Value.int .u32 0)).toArray = Z at hmk hB0 hBW
 clear hZ
 go_enter Tryz.func223, Tryz.ntmps223
 go_wp2
 go_loopw [4] (fun i wr => ∃ k : Nat, k ≤ 16 ∧ i = .int .i64 k ∧ Wds wr w.heap.size 64 ∧ Below w.heap.size w wr) (fun i _ => 16 - (intOf i).toNat)
 case atStart => exact ⟨0, by omega, rfl, hB0, hBW⟩
 case round =>
  obtain ⟨k, hk, rfl, hb, hbr⟩ := hrel
  clear hB0 hBW hmk
  by_cases hlt : k < 16
  ·go_wp2
   go_loopw [5] (fun i wr => ∃ m : Nat, m ≤ 4 ∧ i = .int .i64 m ∧ Wds wr w.heap.size 64 ∧ Below w.heap.size w wr) (fun i _ => 4 - (intOf i).toNat)
   case atStart => exact ⟨0, by omega, rfl, hb, hbr⟩
   case round =>
    clear hb hbr
    obtain ⟨m, hm, rfl, hb, hbr⟩ := hrel
    by_cases hlm : m < 4
    ·have hl := hb.lt
     obtain ⟨x, hc⟩ := hb.at_ (show k < 64 by omega)
     have hf := hb.free k
     obtain ⟨j, hj⟩ : ∃ j, j = 4 * k + m := ⟨_, rfl⟩
     have hjs : j < s.size := by omega
     have e1 : IntKind.i64.wrap (4 * (k : Int)) = 4 * (k : Int) := by rw [IntWalk.i64_in _ (by omega)]
     have e2 : IntKind.i64.wrap (4 * (k : Int) + (m : Int)) = (j : Int) := by rw [IntWalk.i64_in _ (by omega)]; omega
     have k1 : (0 : Int) ≤ (k : Int) := by omega
     have k2 : (k : Int) < 64 := by omega
     have j1 : (0 : Int) ≤ (j : Int) := by omega
     have j2 : (j : Int) < 64 := by omega
     clear hj
     go_wp2_with fail
     go_region
     go_wp2
     go_roundw
     case rel => exact ⟨m + 1, by omega, by go_num, (hb.set k _).drew, (hbr.setCell (Nat.le_refl _) _).drew⟩
     case measure => simp [intOf]; omega
    ·obtain rfl : m = 4 := by omega
     go_wp2
     go_roundw
     case rel => exact ⟨k + 1, by omega, by go_num, hb, hbr⟩
     case measure => simp [intOf]; omega
  ·obtain rfl : k = 16 := by omega
   go_wp2
   go_loopw [6] (fun i wr => ∃ k : Nat, 16 ≤ k ∧ k ≤ 64 ∧ i = .int .i64 k ∧ Wds wr w.heap.size 64 ∧ Below w.heap.size w wr) (fun i _ => 64 - (intOf i).toNat)
   case atStart => exact ⟨16, by omega, by omega, rfl, hb, hbr⟩
   case round =>
    clear hb hbr hlt hk
    obtain ⟨k, hk, hk2, rfl, hb, hbr⟩ := hrel
    by_cases hlt : k < 64
    ·obtain ⟨a15, h15⟩ : ∃ a, a = k - 15 := ⟨_, rfl⟩
     obtain ⟨a2, h2⟩ : ∃ a, a = k - 2 := ⟨_, rfl⟩
     obtain ⟨a16, h16⟩ : ∃ a, a = k - 16 := ⟨_, rfl⟩
     obtain ⟨a7, h7⟩ : ∃ a, a = k - 7 := ⟨_, rfl⟩
     obtain ⟨x, c15⟩ := hb.at_ (show a15 < 64 by omega)
     obtain ⟨y, c2⟩ := hb.at_ (show a2 < 64 by omega)
     have e15 : IntKind.i64.wrap ((k : Int) - 15) = (a15 : Int) := by rw [IntWalk.i64_in _ (by omega)]; omega
     have e2 : IntKind.i64.wrap ((k : Int) - 2) = (a2 : Int) := by rw [IntWalk.i64_in _ (by omega)]; omega
     have b15 : (a15 : Int) < 64 := by omega
     have b2 : (a2 : Int) < 64 := by omega
     have d15 : (0 : Int) ≤ (a15 : Int) := by omega
     have d2 : (0 : Int) ≤ (a2 : Int) := by omega
     have e16 : IntKind.i64.wrap ((k : Int) - 16) = (a16 : Int) := by rw [IntWalk.i64_in _ (by omega)]; omega
     have e7 : IntKind.i64.wrap ((k : Int) - 7) = (a7 : Int) := by rw [IntWalk.i64_in _ (by omega)]; omega
     have b16 : (a16 : Int) < 64 := by omega
     have b7 : (a7 : Int) < 64 := by omega
     have d16 : (0 : Int) ≤ (a16 : Int) := by omega
     have d7 : (0 : Int) ≤ (a7 : Int) := by omega
     have bk : (k : Int) < 64 := by omega
     have dk : (0 : Int) ≤ (k : Int) := by omega
     have n16 : a16 < 64 := by omega
     have n7 : a7 < 64 := by omega
     clear h15 h2 h16 h7
     have hl := hb.lt
     go_wp2_with fail
     go_region
     have hbA := hb.drew
     have hbrA := hbr.drew
     clear c15 c2 hb hbr hl
     generalize wr.drew = wa at hbA hbrA ⊢
     go_wp2_with fail
     refine (right_x x 7 7 _ rfl (by decide) (by decide)).mono ?_
     rintro e w2 ⟨y1, rfl, hb2⟩
     go_wp2_with fail
     refine (right_x x 18 18 _ rfl (by decide) (by decide)).mono ?_
     rintro e w3 ⟨y2, rfl, hb3⟩
     go_wp2_with fail
     refine (right_x y 17 17 _ rfl (by decide) (by decide)).mono ?_
     rintro e w4 ⟨y3, rfl, hb4⟩
     go_wp2_with fail
     refine (right_x y 19 19 _ rfl (by decide) (by decide)).mono ?_
     rintro e w5 ⟨y4, rfl, hb5⟩
     have hb6 := bt hb2 (bt hb3 (bt hb4 hb5))
     have hbB := hbA.after hb6
     have hbrB := bt hbrA hb6
     clear hbA hbrA hb2 hb3 hb4 hb5 hb6
     obtain ⟨z1, c16⟩ := hbB.at_ n16
     obtain ⟨z2, c7⟩ := hbB.at_ n7
     obtain ⟨z3, ck⟩ := hbB.at_ hlt
     have fk := hbB.free k
     have hl := hbB.lt
     go_wp2_with fail
     go_region
     go_wp2
     go_roundw
     case rel =>
      refine ⟨_, _, _, _, _, _, _, _, _, _, _, _, _, _, _, _, _, _, _, _, _, _, _, _, _, _, _, _, _, _, _, _, _, _, _, _, _, _, _, _, _, _, _, _, _, _, _, _, _, _, _, _, _, ⟨k + 1, ?_, ?_, ?_, ?_, ?_⟩, rfl⟩
      ·omega
      ·omega
      ·go_num
      ·exact (hbB.set k _).drew
      ·exact (hbrB.setCell (Nat.le_refl _) _).drew
     case measure => simp [intOf]; omega
    ·obtain rfl : k = 64 := by omega
     go_wp2
     go_ret
     exact ⟨_, rfl, hb, Nat.le_refl _, hbr⟩
end Go.Proofs.YtehoiholhkfcpaaGreat
end

section
set_option linter.unusedVariables false
set_option linter.unusedSimpArgs false
set_option maxRecDepth 100000
namespace Go.Proofs.YtehoiholhkfcpaaGreat
open Go.RowKit Go.Shelf

def isU32 (v : Value) : Bool := match v with | .int .u32 _ => true | _ => false
theorem words_of (l : List Value) (n : Nat) (h : l.all isU32 = true) (hn : l.length = n) : ∃ f, l = u32f f n := by
 refine ⟨fun j => match l[j]? with | some (.int .u32 x) => x | _ => 0, ?_⟩
 refine List.ext_getElem? fun j => ?_
 by_cases hj : j < n
 ·rw [u32f_get _ hj]
  have hjl : j < l.length := by omega
  rw [List.all_eq_true] at h
  have h1 := h _ (List.getElem_mem hjl)
  rw [List.getElem?_eq_getElem hjl]
  revert h1
  generalize l[j] = v
  intro h1
  unfold isU32 at h1
  split at h1
  ·rfl
  ·cases h1
 ·rw [List.getElem?_eq_none (by omega), List.getElem?_eq_none (by rw [u32f_len]; omega)]
theorem Wds.of {w : World} {g n : Nat} {l : List Value} (h : Blk w g 186 l) (ha : l.all isU32 = true) (hn : l.length = n) : Wds w g n := by
 obtain ⟨f, hf⟩ := words_of l n ha hn
 exact ⟨f, hf ▸ h⟩

/-- words that are read -/
def Wdr (w : World) (g n : Nat) : Prop := g < w.heap.size ∧ ∀ j, j < n → ∃ x, w.cell? ⟨g, j, none⟩ = some (.int .u32 x)
theorem Wdr.after {w w' : World} {g n : Nat} (h : Wdr w g n) (hb : Below w.heap.size w w') : Wdr w' g n :=
 ⟨Nat.lt_of_lt_of_le h.1 hb.size, fun j hj => by obtain ⟨x, hx⟩ := h.2 j hj; exact ⟨x, (hb.cell (p := ⟨g, j, none⟩) h.1).trans hx⟩⟩
theorem Wdr.drew {w : World} {g n : Nat} (h : Wdr w g n) : Wdr w.drew g n := h
theorem Wds.r {w : World} {g n : Nat} (h : Wds w g n) : Wdr w g n := ⟨h.lt, fun j hj => h.at_ hj⟩

theorem constants_x (w : World) :
  Calls Tryz.prog 224 #[] w fun e w' => ∃ g, e = .returned (.slice (some ⟨g, 0, none⟩) 64 64) ∧ Wdr w' g 64 ∧ Below w.heap.size w w' := by
 go_enter Tryz.func224, Tryz.ntmps224
 go_wp2
 go_ret
 exact ⟨_, rfl, (Wds.of (Blk.new w _ _) (by rfl) (by rfl)).r, b1 w _⟩
end Go.Proofs.YtehoiholhkfcpaaGreat
end

section
set_option linter.unusedVariables false
set_option linter.unusedSimpArgs false
set_option maxRecDepth 100000
namespace Go.Proofs.YtehoiholhkfcpaaGreat
open Go.RowKit Go.Shelf

/-- bytes in a block -/
def Bts (w : World) (g n : Nat) : Prop := ∃ l : List UInt8, l.length = n ∧ Blk w g 5 (u8s l)

/-- a string of bytes out of a row -/
theorem xor_u8v (a b : UInt8) : Value.int .u8 (bits .xor .u8 (a.toNat : Int) (b.toNat : Int)) = u8v (a ^^^ b) := by
 rw [u8_xor_nat _ _ a.toNat_lt b.toNat_lt, u8v, UInt8.toNat_xor]

theorem row_str {w : World} {b o c : Nat} {l : List UInt8} (h : Row w b o l) :
  (convert 132 9 (.slice (some ⟨b, o, none⟩) l.length c)).run Tryz.prog w = .ok (.string ⟨l.toArray⟩) w := by
 have := Lib.run_convert_whole (P := Tryz.prog) w 132 5 9 Tryz.underlying132 Tryz.underlying5 Tryz.underlying9 b o ⟨l.toArray⟩ h.bytes c
 simpa [ByteArray.size] using this

set_option maxHeartbeats 1600000 in
theorem xored_x (key : ByteArray) (x : UInt8) (w : World) (hk : key.size ≤ 64) :
  Calls Tryz.prog 214 #[.string key, u8v x] w fun e w' => ∃ s : ByteArray, e = .returned (.string s) ∧ s.size = 64 ∧ Below w.heap.size w w' := by
 have hmk : ∀ W : World, (Instr.makeSlice 132 (.int .i64 64) (.int .i64 64)).run Tryz.prog W = .ok (.slice (some ⟨W.heap.size, 0, none⟩) 64 64) (W.alloc (.cells (List.replicate 64 (Value.int .u8 0)).toArray 5)) := run_mk (P := Tryz.prog) Tryz.underlying132 info_u8 64 (by omega) (by omega)
 have hB0 : Blk (w.alloc (.cells (List.replicate 64 (Value.int .u8 0)).toArray 5)) w.heap.size 5 (u8s (List.replicate 64 0)) := by rw [← u8s_zeros]; exact Blk.new _ _ _
 have hBW := b1 w (.cells (List.replicate 64 (Value.int .u8 0)).toArray 5)
 generalize hZ : (List.replicate 64 (Value.int .u8 0)).toArray = Z at hmk hB0 hBW
 clear hZ
 generalize hZ2 : List.replicate 64 (0 : UInt8) = Z2 at hB0
 have HZ2 : Hid (Z2.length = 64) := by rw [Hid, ← hZ2]; simp
 clear hZ2
 have HXV : Hid (∀ a : UInt8, Value.int .u8 (bits .xor .u8 (a.toNat : Int) (x.toNat : Int)) = u8v (a ^^^ x)) := fun a => xor_u8v a x
 unfold u8v
 go_enter Tryz.func214, Tryz.ntmps214
 go_wp2
 go_loopw [6] (fun i wr => ∃ (k : Nat) (l : List UInt8), k ≤ 64 ∧ i = .int .i64 k ∧ Hid (l.length = 64) ∧ Blk wr w.heap.size 5 (u8s l) ∧ Below w.heap.size w wr) (fun i _ => 64 - (intOf i).toNat)
 case atStart => exact ⟨0, Z2, by omega, rfl, HZ2, hB0, hBW⟩
 case round =>
  clear hB0 hBW hmk HZ2
  obtain ⟨k, l, hk, rfl, HL, hb, hbr⟩ := hrel
  by_cases hlt : k < 64
  ·have hl := hb.lt
   have hc : wr.cell? ⟨w.heap.size, k, none⟩ = some (u8v (l[k]'(by rw [HL.out]; exact hlt))) := by rw [hb.cell]; simp [u8s, HL.out, hlt]
   have hf := hb.free k
   by_cases hks : k < key.size
   ·go_wp2
    go_roundw
    case rel =>
     refine ⟨k + 1, (l.set k x).set k (key[k] ^^^ x), by omega, by go_num, by rw [Hid, List.length_set, List.length_set]; exact HL.out, ?_, (hbr.setCell (Nat.le_refl _) _).setCell (Nat.le_refl _) _⟩
     have h := (hb.set k (u8v x)).set k (u8v (key[k] ^^^ x))
     rw [u8s_set, u8s_set] at h
     rw [HXV.out]
     exact h
    case measure => simp [intOf]; omega
   ·go_wp2
    go_roundw
    case rel =>
     refine ⟨k + 1, l.set k x, by omega, by go_num, by rw [Hid, List.length_set]; exact HL.out, ?_, hbr.setCell (Nat.le_refl _) _⟩
     have h := hb.set k (u8v x)
     rw [u8s_set] at h
     exact h
    case measure => simp [intOf]; omega
  ·obtain rfl : k = 64 := by omega
   have hr : Row wr w.heap.size 0 l := hb.row
   have hcv := row_str (c := 64) hr
   rw [HL.out] at hcv
   go_wp2
   go_ret
   exact ⟨_, rfl, by show l.toArray.size = 64; rw [List.size_toArray]; exact HL.out, hbr⟩

set_option maxHeartbeats 1600000 in
theorem padded_x (s : ByteArray) (w : World) (hk : s.size ≤ 1000) :
  Calls Tryz.prog 220 #[.string s] w fun e w' => ∃ (t : ByteArray) (m : Nat), e = .returned (.string t) ∧ t.size = 64 * m ∧ m ≤ 100 ∧ Below w.heap.size w w' := by
 have hmk : ∀ W : World, (Instr.makeSlice 132 (.int .i64 8) (.int .i64 8)).run Tryz.prog W = .ok (.slice (some ⟨W.heap.size, 0, none⟩) 8 8) (W.alloc (.cells (List.replicate 8 (Value.int .u8 0)).toArray 5)) := run_mk (P := Tryz.prog) Tryz.underlying132 info_u8 8 (by omega) (by omega)
 have hB0 : Blk (w.alloc (.cells (List.replicate 8 (Value.int .u8 0)).toArray 5)) w.heap.size 5 (u8s (List.replicate 8 0)) := by rw [← u8s_zeros]; exact Blk.new _ _ _
 have hBW := b1 w (.cells (List.replicate 8 (Value.int .u8 0)).toArray 5)
 generalize hZ : (List.replicate 8 (Value.int .u8 0)).toArray = Z at hmk hB0 hBW
 clear hZ
 generalize hZ2 : List.replicate 8 (0 : UInt8) = Z2 at hB0
 have HZ2 : Hid (Z2.length = 8) := by rw [Hid, ← hZ2]; simp
 clear hZ2
 go_enter Tryz.func220, Tryz.ntmps220
 go_wp2
 obtain ⟨T, hT1, hT2, hT3⟩ : ∃ T, T % 64 = 56 ∧ s.size < T ∧ T ≤ s.size + 64 := ⟨s.size + 1 + (120 - (s.size + 1) % 64) % 64, by omega, by omega, by omega⟩
 go_loopw [0] (fun v wr => ∃ t : ByteArray, v = .string t ∧ t.size ≤ T ∧ wr = w) (fun v _ => match v with | .string t => T - t.size | _ => 0)
 case atStart => exact ⟨_, rfl, by rw [ByteArray.size_append]; show s.size + 1 ≤ T; omega, rfl⟩
 case round =>
  obtain ⟨t, rfl, ht, hwr⟩ := hrel
  subst hwr
  obtain ⟨w0, hw0⟩ : ∃ w0, w0 = wr := ⟨_, rfl⟩
  subst hw0
  by_cases he : t.size % 64 = 56
  ·have hd : ((t.size : Int) % 64 != 56) = false := by rw [bne_eq_false_iff_eq]; omega
   have HT : Hid (t.size % 64 = 56 ∧ t.size ≤ T) := ⟨he, ht⟩
   go_wp2
   clear he hd
   go_loopw [5, 6] (fun x i w2 => ∃ (k q : Nat) (l : List UInt8), k ≤ 8 ∧ i = .int .i64 (7 - (k : Int)) ∧ x = .int .u64 (q : Nat) ∧ Hid (q < 18446744073709551616) ∧ Hid (l.length = 8) ∧ Blk w2 w0.heap.size 5 (u8s l) ∧ Below w0.heap.size w0 w2) (fun _ i _ => (intOf i + 1).toNat)
   case atStart => exact ⟨0, s.size * 8, Z2, by omega, rfl, vi (by omega), by rw [Hid]; omega, HZ2, hB0, hBW⟩
   case round =>
    clear hB0 hBW hmk HZ2
    obtain ⟨k, q, l, hk8, rfl, rfl, HQ, HL, hb, hbr⟩ := hrel
    by_cases hlt : k < 8
    ·have hl := hb.lt
     have hc : wr.cell? ⟨w0.heap.size, 7 - k, none⟩ = some (u8v (l[7 - k]'(by rw [HL.out]; omega))) := by rw [hb.cell, u8s, List.getElem?_map, List.getElem?_eq_getElem (by rw [HL.out]; omega)]; rfl
     have hf := hb.free (7 - k)
     have HQ2 : Hid (q / 256 < 18446744073709551616) := Nat.lt_of_le_of_lt (Nat.div_le_self _ _) HQ.out
     have hq := HQ.out
     go_wp2
     go_roundw
     case rel =>
      rw [byteI q _ rfl]
      refine ⟨k + 1, q / 256, l.set (7 - k) (UInt8.ofNat (q % 256)), by omega, vi (by omega), vi (by omega), HQ2, by rw [Hid, List.length_set]; exact HL.out, ?_, hbr.setCell (Nat.le_refl _) _⟩
      have h := hb.set (7 - k) (u8v (UInt8.ofNat (q % 256)))
      rw [u8s_set] at h
      exact h
     case measure => simp [intOf]; omega
    ·obtain rfl : k = 8 := by omega
     have hr : Row wr w0.heap.size 0 l := hb.row
     have hcv := row_str (c := 8) hr
     rw [HL.out] at hcv
     have hno : ¬ 9223372036854775807 < t.size + l.length := by have := HT.out.2; have := HL.out; omega
     go_wp2
     go_ret
     refine ⟨_, t.size / 64 + 1, rfl, ?_, ?_, hbr⟩
     ·rw [ByteArray.size_append]
      have hT := HT.out.1
      have hL := HL.out
      show t.size + l.toArray.size = _
      rw [List.size_toArray, hL]
      omega
     ·have := HT.out.2
      omega
  ·have hd : ((t.size : Int) % 64 != 56) = true := by rw [bne_iff_ne]; omega
   have HT : Hid (t.size < T) := by rw [Hid]; omega
   go_wp2
   go_roundw
   case rel => exact ⟨_, rfl, by rw [ByteArray.size_append]; have := HT.out; show t.size + 1 ≤ T; omega, trivial⟩
   case measure => show T - (t ++ _ : ByteArray).size < T - t.size; rw [ByteArray.size_append]; have := HT.out; show T - (t.size + 1) < T - t.size; omega
end Go.Proofs.YtehoiholhkfcpaaGreat
end

section
set_option linter.unusedVariables false
set_option linter.unusedSimpArgs false
set_option maxRecDepth 100000
namespace Go.Proofs.YtehoiholhkfcpaaGreat
open Go.RowKit Go.Shelf

theorem byteZ (z : Int) : Value.int .u8 (z % 256) = u8v (UInt8.ofNat (z % 256).toNat) := by
 have h1 := Int.emod_nonneg z (show (256 : Int) ≠ 0 by decide)
 have h2 := Int.emod_lt_of_pos z (show (0 : Int) < 256 by decide)
 unfold u8v
 rw [UInt8.toNat_ofNat', Nat.mod_eq_of_lt (by omega), Int.toNat_of_nonneg h1]

/-- a row of bytes that a call owns, as bytes -/
def BOwn (w : World) (base : Nat) (v : Value) (l : List UInt8) : Prop := w.ownsRow base 5 1 v l.length (u8s l)

/-- what compress returns -/
def HCmp : Prop := ∀ (s : ByteArray) (b c : Nat) (w : World), s.size = 64 → Wdr w b 8 → Calls Tryz.prog 221 #[.slice (some ⟨b, 0, none⟩) 8 c, .string s] w fun e w' => ∃ g, e = .returned (.slice (some ⟨g, 0, none⟩) 8 8) ∧ Wdr w' g 8 ∧ Below w.heap.size w w'

set_option maxHeartbeats 8000000 in
theorem sum_l (hc : HCmp) (s : ByteArray) (w : World) (hs : s.size ≤ 1000) :
  Calls Tryz.prog 213 #[.string s] w fun e w' => ∃ t : ByteArray, e = .returned (.string t) ∧ t.size = 32 ∧ Below w.heap.size w w' := by
 have HCP := Lib.hid hc
 clear hc
 obtain ⟨i0, hi0, hz00, hz01, hz02⟩ := info_parts info_u8
 have HI0 := Lib.hid hi0
 have HA0 := Lib.hid hz00
 have HB0 := Lib.hid hz01
 have HC0 := Lib.hid hz02
 clear hi0 hz00 hz01 hz02
 go_enter Tryz.func213, Tryz.ntmps213
 go_upto_region 2 with fail
 have hS := (Wds.of (n := 8) (Blk.new w #[.int .u32 1779033703, .int .u32 3144134277, .int .u32 1013904242, .int .u32 2773480762, .int .u32 1359893119, .int .u32 2600822924, .int .u32 528734635, .int .u32 1541459225] 186) (by rfl) (by rfl)).r
 have hBW := b1 w (.cells #[.int .u32 1779033703, .int .u32 3144134277, .int .u32 1013904242, .int .u32 2773480762, .int .u32 1359893119, .int .u32 2600822924, .int .u32 528734635, .int .u32 1541459225] 186)
 generalize w.alloc (.cells #[.int .u32 1779033703, .int .u32 3144134277, .int .u32 1013904242, .int .u32 2773480762, .int .u32 1359893119, .int .u32 2600822924, .int .u32 528734635, .int .u32 1541459225] 186) = w1 at hS hBW ⊢
 obtain ⟨g0, hg0⟩ : ∃ g, w.heap.size = g := ⟨_, rfl⟩
 rw [hg0] at hS ⊢
 clear hg0
 go_wp2_with fail
 refine (padded_x s _ hs).mono ?_
 rintro e w2 ⟨t, m, rfl, ht, hm, hb2⟩
 replace hS := hS.after hb2
 have HT := Lib.hid ht
 have HM := Lib.hid hm
 replace hBW := bt hBW hb2
 clear hb2 ht hm
 go_wp2
 go_loopw [3, 5] (fun v i wr => ∃ (k j g cc : Nat), k ≤ m ∧ Hid (j = 64 * k) ∧ i = .int .i64 j ∧ v = .slice (some ⟨g, 0, none⟩) 8 cc ∧ Wdr wr g 8 ∧ Below w2.heap.size w2 wr) (fun _ i _ => t.size - (intOf i).toNat)
 case atStart => exact ⟨0, 0, g0, 8, by omega, rfl, rfl, rfl, hS, Below.refl _ _⟩
 case round =>
  clear hS
  obtain ⟨k, j, g, cc, hk, HJ, rfl, rfl, hS, hbr⟩ := hrel
  obtain ⟨wp, hwp⟩ : ∃ wp, wp = wr := ⟨_, rfl⟩
  subst hwp
  have hts : t.size ≤ 6400 := by have := HT.out; have := HM.out; omega
  by_cases hlt : j < t.size
  ·have hkm : k < m := by have := HT.out; have := HJ.out; omega
   have hj64 : j + 64 ≤ t.size := by have := HT.out; have := HJ.out; omega
   have b1' : (0 : Int) ≤ (j : Int) := by omega
   have b2' : (j : Int) ≤ (j : Int) + 64 := by omega
   have b3' : (j : Int) + 64 ≤ (t.size : Int) := by omega
   have HEX : Hid ((t.extract j (j + 64)).size = 64) := by rw [Hid, ByteArray.size_extract]; omega
   go_wp2_with fail
   refine (HCP.out _ _ _ _ HEX.out hS).mono ?_
   rintro e w3 ⟨g', rfl, hS', hb3⟩
   go_wp2
   go_roundw
   case rel => exact ⟨k + 1, j + 64, g', 8, by omega, by rw [Hid, HJ.out]; omega, by go_num, rfl, hS', bt hbr hb3⟩
   case measure => simp [intOf]; omega
  ·replace hBW := bt hBW hbr
   clear hbr HJ hk
   go_wp2
   clear hlt
   go_loopw [6, 7] (fun v i wr => ∃ (k : Nat) (l : List UInt8), k ≤ 8 ∧ i = .int .i64 k ∧ Hid (l.length = 4 * k) ∧ BOwn wr wp.heap.size v l ∧ Below wp.heap.size wp wr) (fun _ i _ => 8 - (intOf i).toNat)
   case atStart => exact ⟨0, [], by omega, rfl, rfl, World.ownsRow_nil _ _ _ _, Below.refl _ _⟩
   case round =>
    obtain ⟨k, l, hk, rfl, HL, hO, hbr⟩ := hrel
    obtain ⟨wq, hwq⟩ : ∃ wp, wp = wr := ⟨_, rfl⟩
    subst hwq
    by_cases hlt : k < 8
    ·have hSr := hS.after hbr
     obtain ⟨x, hx⟩ := hSr.2 k hlt
     have hl := hSr.1
     have h0k : (0 : Int) ≤ (k : Int) := by omega
     have h1k : (k : Int) < 8 := by omega
     have hO4 : wq.ownsRow wp.heap.size 5 1 u6 (4 * k) (u8s l) := by have h : wq.ownsRow _ _ _ _ _ _ := hO; rw [HL.out] at h; exact h
     have HB4 : Hid (u8s (l ++ [UInt8.ofNat (x / 16777216 % 256).toNat, UInt8.ofNat (x / 65536 % 256).toNat, UInt8.ofNat (x / 256 % 256).toNat, UInt8.ofNat (x % 256).toNat]) = u8s l ++ [.int .u8 (x / 16777216 % 256), .int .u8 (x / 65536 % 256), .int .u8 (x / 256 % 256), .int .u8 (x % 256)]) := by
      rw [Hid, u8s, List.map_append, byteZ, byteZ, byteZ, byteZ]; rfl
     have hsz8 := hbr.size
     go_wp2_with (at_builtin; refine wpList_append_lies _ rfl (.tmp 33) (.tmp 45) _ rfl wp.heap.size 5 i0 _ 1 1 Tryz.underlying132 HI0.out HA0.out HB0.out HC0.out rfl (by omega) u6 (4 * k) (u8s l) rfl (own_after hO4 (b1 _ (.cells #[.int .u8 (x / 16777216 % 256), .int .u8 (x / 65536 % 256), .int .u8 (x / 256 % 256), .int .u8 (x % 256)] 5))) ⟨wq.heap.size, 0, none⟩ 4 4 [.int .u8 (x / 16777216 % 256), .int .u8 (x / 65536 % 256), .int .u8 (x / 256 % 256), .int .u8 (x % 256)] rfl rfl (Blk.new wq #[.int .u8 (x / 16777216 % 256), .int .u8 (x / 65536 % 256), .int .u8 (x / 256 % 256), .int .u8 (x % 256)] 5).cells (by simp [Value.oneCell']) (by omega) (by simp only [maxLen]; omega) (by omega) (by rw [World.size_alloc]; omega) (wq.heap.size + 1) (by simp) ?_; intro ga ca wz hown hgrow hat hlt2)
     have hOA : BOwn wz wp.heap.size (.slice (some ⟨ga, 0, none⟩) (4 * k + 4) ca) (l ++ [UInt8.ofNat (x / 16777216 % 256).toNat, UInt8.ofNat (x / 65536 % 256).toNat, UInt8.ofNat (x / 256 % 256).toNat, UInt8.ofNat (x % 256).toNat]) := by
      rw [BOwn, HB4.out, List.length_append, HL.out]; exact hown
     have hbA := (ba hbr (.cells #[.int .u8 (x / 16777216 % 256), .int .u8 (x / 65536 % 256), .int .u8 (x / 256 % 256), .int .u8 (x % 256)] 5)).grown hgrow (by rw [World.size_alloc]; omega) (fun x hx => (own_lt hO4 hx).2)
     clear hown hgrow hat hlt2 hO4 hO
     go_wp2
     go_roundw
     case rel => exact ⟨k + 1, _, by omega, by go_num, by rw [Hid, List.length_append, HL.out]; simp; omega, hOA, hbA⟩
     case measure => simp [intOf]; omega
    ·obtain rfl : k = 8 := by omega
     have hO4 : wq.ownsRow wp.heap.size 5 1 u6 32 (u8s l) := by have h : wq.ownsRow _ _ _ _ _ _ := hO; rw [HL.out] at h; exact h
     rcases hO4.2 with ⟨hv, h2⟩ | ⟨g9, cap, cur, hv, h3, h4, _⟩
     ·omega
     ·subst hv
      have hr : Row wq g9 0 l := fun j hj => by
       have h := own_cellS hO4 j (u8v l[j]) (by simp [u8s, hj])
       rw [Nat.zero_add]; exact h
      have hcv := row_str (c := cap) hr
      rw [HL.out] at hcv
      have hL := HL.out
      go_wp2
      go_ret
      exact ⟨_, rfl, by show l.toArray.size = 32; rw [List.size_toArray]; exact hL, bt hBW hbr⟩
end Go.Proofs.YtehoiholhkfcpaaGreat
end

section
set_option linter.unusedVariables false
set_option linter.unusedSimpArgs false
set_option maxRecDepth 100000
namespace Go.Proofs.YtehoiholhkfcpaaGreat
open Go.RowKit Go.Shelf

theorem mac_l (hc : HCmp) (key s : ByteArray) (w : World) (hk : key.size ≤ 64) (hs : s.size ≤ 900) :
  Calls Tryz.prog 193 #[.string key, .string s] w fun e w' => ∃ t : ByteArray, e = .returned (.string t) ∧ t.size = 32 ∧ Below w.heap.size w w' := by
 have hd : decide ((64 : Int) < (key.size : Int)) = false := decide_eq_false (by omega)
 have HS : Hid (∀ (s : ByteArray) (w : World), s.size ≤ 1000 → Calls Tryz.prog 213 #[.string s] w fun e w' => ∃ t : ByteArray, e = .returned (.string t) ∧ t.size = 32 ∧ Below w.heap.size w w') := fun s w h => sum_l hc s w h
 clear hc
 go_enter Tryz.func193, Tryz.ntmps193
 go_wp2_with fail
 refine (xored_x key 92 _ hk).mono ?_
 rintro e w2 ⟨a, rfl, ha, hb2⟩
 go_wp2_with fail
 refine (xored_x key 54 _ hk).mono ?_
 rintro e w3 ⟨b, rfl, hb, hb3⟩
 have h1 : ¬ 9223372036854775807 < b.size + s.size := by omega
 have hbs : (b ++ s).size ≤ 1000 := by rw [ByteArray.size_append]; omega
 go_wp2_with fail
 refine (HS.out _ _ hbs).mono ?_
 rintro e w4 ⟨c, rfl, hc, hb4⟩
 have h2 : ¬ 9223372036854775807 < a.size + c.size := by omega
 have hac : (a ++ c).size ≤ 1000 := by rw [ByteArray.size_append]; omega
 go_wp2_with fail
 refine (HS.out _ _ hac).mono ?_
 rintro e w5 ⟨d, rfl, hd5, hb5⟩
 go_wp2
 go_ret
 exact ⟨_, rfl, hd5, bt hb2 (bt hb3 (bt hb4 hb5))⟩

theorem digs10 (k n : Nat) (h : k < 10) : (ByteArray.extract { data := #[48, 49, 50, 51, 52, 53, 54, 55, 56, 57] } k (k + 1)).size = 1 := by
 rw [ByteArray.size_extract]
 show min (k + 1) 10 - k = 1
 omega

set_option maxHeartbeats 1600000 in
/-- the decimal digits of a number -/
theorem decimal_x (n : Nat) : ∀ (w : World), n < 10 ^ 12 → Calls Tryz.prog 194 #[.int .i64 (n : Int)] w fun e w' => ∃ t : ByteArray, e = .returned (.string t) ∧ 1 ≤ t.size ∧ (∀ d, n < 10 ^ (d + 1) → t.size ≤ d + 1) ∧ Below w.heap.size w w' := by
 induction n using Nat.strongRecOn with
 | ind n ih =>
  intro w hn
  by_cases h10 : n < 10
  ·have d1 : decide ((n : Int) < 0) = false := decide_eq_false (by omega)
   have d2 : decide ((n : Int) < 10) = true := decide_eq_true (by omega)
   have k1 : (0 : Int) ≤ (n : Int) := by omega
   have k2 : (n : Int) ≤ (n : Int) + 1 := by omega
   have k3 : (n : Int) + 1 ≤ 10 := by omega
   have HZ := Lib.hid (digs10 n n h10)
   clear ih h10 hn
   go_enter Tryz.func194, Tryz.ntmps194
   go_wp2
   go_ret
   refine ⟨_, rfl, ?_, fun d _ => ?_, Below.refl _ _⟩
   ·have := HZ.out; omega
   ·have := HZ.out; omega
  ·have d1 : decide ((n : Int) < 0) = false := decide_eq_false (by omega)
   have d2 : decide ((n : Int) < 10) = false := decide_eq_false (by omega)
   obtain ⟨q, hq⟩ : ∃ q, q = n / 10 := ⟨_, rfl⟩
   obtain ⟨r, hr⟩ : ∃ r, r = n % 10 := ⟨_, rfl⟩
   have hqn : q < n := by omega
   have HQ : Hid (q = n / 10) := hq
   have hr10 : r < 10 := by omega
   have HZ := Lib.hid (digs10 r n hr10)
   have hq12 : q < 10 ^ 12 := by omega
   have e1 : (n : Int) / 10 = (q : Int) := by omega
   have e2 : (n : Int) % 10 = (r : Int) := by omega
   have e3 : (n : Int).tdiv 10 = (q : Int) := by rw [Int.tdiv_eq_ediv_of_nonneg (by omega)]; exact e1
   have e4 : (n : Int).tmod 10 = (r : Int) := by rw [Int.tmod_eq_emod_of_nonneg (by omega)]; exact e2
   have k1 : (0 : Int) ≤ (r : Int) := by omega
   have k2 : (r : Int) ≤ (r : Int) + 1 := by omega
   have k3 : (r : Int) + 1 ≤ 10 := by omega
   have e5 : IntKind.i64.wrap ((r : Int) + 1) = (r : Int) + 1 := IntWalk.i64_in _ (by omega)
   have e6 : IntKind.i64.wrap (q : Int) = (q : Int) := IntWalk.i64_in _ (by omega)
   have HI := Lib.hid (fun w => ih q hqn w hq12)
   have h12 : (10 : Nat) ^ 12 = 1000000000000 := by decide
   have HQD : Hid (∀ d, n < 10 ^ (d + 1) → d ≠ 0 → q < 10 ^ (d - 1 + 1)) := fun d h h0 => by
    rw [HQ.out, show d - 1 + 1 = d by omega]
    rw [Nat.pow_succ] at h
    omega
   have HN10 : Hid (10 ≤ n) := by rw [Hid]; omega
   have HQ13 : Hid (q < 10 ^ (12 + 1)) := Nat.lt_of_lt_of_le hq12 (by decide)
   rw [h12] at hn hq12
   clear ih hq hr h12
   go_enter Tryz.func194, Tryz.ntmps194
   go_wp2_with fail
   go_region_with (go_at_call 194; (with_reducible refine (HI.out _).mono ?_); rintro e w2 ⟨t, rfl, ht1, ht2, hb2⟩; have ht3 := ht2 12 HQ13.out; have hno : ¬ 9223372036854775807 < t.size + (ByteArray.extract { data := #[48, 49, 50, 51, 52, 53, 54, 55, 56, 57] } r (r + 1)).size := (by have := HZ.out; omega))
   all_goals
    go_wp2
    go_ret
    refine ⟨_, rfl, ?_, fun d hd => ?_, (Below.drew (Below.refl _ _)).trans hb2⟩
    ·rw [ByteArray.size_append]; omega
    ·rw [ByteArray.size_append]
     have hz := HZ.out
     by_cases h0 : d = 0
     ·subst h0
      have := HN10.out
      omega
     ·have := ht2 (d - 1) (HQD.out d hd h0)
      omega
end Go.Proofs.YtehoiholhkfcpaaGreat
end

section
set_option linter.unusedVariables false
set_option linter.unusedSimpArgs false
set_option maxRecDepth 100000
namespace Go.Proofs.YtehoiholhkfcpaaGreat
open Go.RowKit Go.Shelf

def strLen : Value → Nat | .string t => t.size | _ => 0

set_option maxHeartbeats 800000 in
theorem canonical_x (s : ByteArray) (w : World) (hs : s.size ≤ 128) :
  Calls Tryz.prog 195 #[.string s] w fun e w' => ∃ t : ByteArray, e = .returned (.string t) ∧ vldB t = true ∧ t.size ≤ s.size ∧ w' = w := by
 go_enter Tryz.func195, Tryz.ntmps195
 go_wp2
 go_loop [0] (fun v => ∃ t : ByteArray, v = .string t ∧ t.size ≤ s.size) (fun v => strLen v)
 case atStart => exact ⟨s, rfl, Nat.le_refl _⟩
 case round =>
  obtain ⟨t, rfl, ht⟩ := hrel
  by_cases h0 : t.size = 0
  ·obtain rfl : t = ByteArray.empty := by apply ByteArray.ext; apply Array.eq_empty_of_size_eq_zero; exact h0
   go_wp2
   go_ret
   exact ⟨_, rfl, vldB_empty, ht, rfl⟩
  ·have hp : 0 < t.size := by omega
   have HV := Lib.hid (vldB_pos hp (by omega))
   have hi : (0 : Int) ≤ 1 := by omega
   have hj : (1 : Int) ≤ (t.size : Int) := by omega
   by_cases hx : (t[0].toNat : Int) = 0
   ·have hb : ((t[0].toNat : Int) == 0) = true := by simp [hx]
    clear hx
    go_wp2
    go_round
    case rel => exact ⟨t.extract 1 t.size, rfl, by rw [ByteArray.size_extract]; omega⟩
    case measure => simp [strLen, ByteArray.size_extract]; omega
   ·have hb : ((t[0].toNat : Int) == 0) = false := by rw [beq_eq_false_iff_ne]; exact hx
    have HX := Lib.hid hx
    clear hx
    go_wp2
    go_ret
    exact ⟨t, rfl, by rw [HV.out, bne_iff_ne]; exact HX.out, ht, rfl⟩

set_option maxHeartbeats 3200000 in
theorem attempt_x (hc : HCmp) (seed : ByteArray) (p a n : Nat) (w : World) (hk : seed.size ≤ 64) (h1 : p ≤ 2147483647) (h2 : a < 256) (h3 : 1 ≤ n) (h4 : n ≤ 512) :
  Calls Tryz.prog 162 #[.string seed, .int .i64 (p : Int), .int .i64 (a : Int), .int .i64 (n : Int)] w fun e w' => ∃ t : ByteArray, e = .returned (.string t) ∧ vldB t = true ∧ t.size ≤ 64 ∧ Below w.heap.size w w' := by
 have HM : Hid (∀ (s : ByteArray) (w : World), s.size ≤ 900 → Calls Tryz.prog 193 #[.string seed, .string s] w fun e w' => ∃ t : ByteArray, e = .returned (.string t) ∧ t.size = 32 ∧ Below w.heap.size w w') := fun s w h => mac_l hc seed s w hk h
 have HD : Hid (∀ (n : Nat) (w : World), n ≤ 2147483647 → Calls Tryz.prog 194 #[.int .i64 (n : Int)] w fun e w' => ∃ t : ByteArray, e = .returned (.string t) ∧ t.size ≤ 10 ∧ Below w.heap.size w w') := fun n w h => (decimal_x n w (by omega)).mono fun e w' ⟨t, h1, _, h2, h3⟩ => ⟨t, h1, h2 9 (by omega), h3⟩
 have HC : Hid (∀ (s : ByteArray) (w : World), s.size ≤ 128 → Calls Tryz.prog 195 #[.string s] w fun e w' => ∃ t : ByteArray, e = .returned (.string t) ∧ vldB t = true ∧ t.size ≤ s.size ∧ w' = w) := fun s w h => canonical_x s w h
 clear hc
 obtain ⟨z, hz⟩ : ∃ z, z = (n + 7) / 8 := ⟨_, rfl⟩
 have hz1 : 1 ≤ z := by omega
 have hz2 : z ≤ 64 := by omega
 have hz3 : n ≤ 8 * z := by omega
 have hz4 : 8 * z < n + 8 := by omega
 have e1 : ((n : Int) + 7) / 8 = (z : Int) := by omega
 have e2 : ((n : Int) + 7).tdiv 8 = (z : Int) := by rw [Int.tdiv_eq_ediv_of_nonneg (by omega)]; exact e1
 clear hz
 go_enter Tryz.func162, Tryz.ntmps162
 go_wp2
 go_loopw [10, 11] (fun v i wr => ∃ (t : ByteArray) (b : Nat), v = .string t ∧ i = .int .i64 (b : Int) ∧ t.size = 32 * b ∧ b ≤ 2 ∧ Below w.heap.size w wr) (fun v _ _ => z - strLen v)
 case atStart => exact ⟨_, 0, rfl, rfl, rfl, by omega, Below.refl _ _⟩
 case round =>
  obtain ⟨t, b, rfl, rfl, ht, hb2, hbr⟩ := hrel
  obtain ⟨wp, hwp⟩ : ∃ wp, wp = wr := ⟨_, rfl⟩
  subst hwp
  by_cases hlt : t.size < z
  ·have hd : decide ((t.size : Int) < (z : Int)) = true := decide_eq_true (by omega)
   have hb1 : b ≤ 1 := by omega
   go_wp2_with fail
   refine (HD.out p _ (by omega)).mono ?_
   rintro e wa ⟨d1, rfl, hd1, hba⟩
   have q1 : ¬ 9223372036854775807 < d1.size + 1 := by omega
   go_wp2_with fail
   refine (HD.out a _ (by omega)).mono ?_
   rintro e wb ⟨d2, rfl, hd2, hbb⟩
   have q2 : ¬ 9223372036854775807 < d1.size + 1 + d2.size := by omega
   have q3 : ¬ 9223372036854775807 < d1.size + 1 + d2.size + 1 := by omega
   go_wp2_with fail
   refine (HD.out b _ (by omega)).mono ?_
   rintro e wc ⟨d3, rfl, hd3, hbc⟩
   have q4 : ¬ 9223372036854775807 < d1.size + 1 + d2.size + 1 + d3.size := by omega
   have HSZ : Hid ((d1 ++ (⟨#[46]⟩ : ByteArray) ++ d2 ++ (⟨#[46]⟩ : ByteArray) ++ d3).size ≤ 900) := by
    rw [Hid, ByteArray.size_append, ByteArray.size_append, ByteArray.size_append, ByteArray.size_append]
    show d1.size + 1 + d2.size + 1 + d3.size ≤ 900
    omega
   go_wp2_with fail
   refine (HM.out _ _ HSZ.out).mono ?_
   rintro e wd ⟨u, rfl, hu, hbd⟩
   have q5 : ¬ 9223372036854775807 < t.size + u.size := by omega
   clear HSZ q1 q2 q3 q4
   go_wp2
   go_roundw
   case rel => exact ⟨t ++ u, b + 1, rfl, by go_num, by rw [ByteArray.size_append]; omega, by omega, bt hbr (bt hba (bt hbb (bt hbc hbd)))⟩
   case measure => simp [strLen, ByteArray.size_append]; omega
  ·have hd : decide ((t.size : Int) < (z : Int)) = false := decide_eq_false (by omega)
   have hp : 0 < t.size := by omega
   have hwb := wb t[0]
   have hlt0 := t[0].toNat_lt
   generalize hx : t[0].toNat = x at hwb hlt0
   have HX := Lib.hid hx
   clear hx
   obtain ⟨r, hr⟩ : ∃ r, r = 8 * z - n := ⟨_, rfl⟩
   have hr7 : r ≤ 7 := by omega
   have er : (8 : Int) * (z : Int) - (n : Int) = (r : Int) := by omega
   clear hr
   go_wp2
   go_loopw [12, 13] (fun f i wr => ∃ (y m : Nat), f = .int .i64 (y : Int) ∧ y ≤ 255 ∧ i = .int .i64 (m : Int) ∧ 7 - r ≤ m ∧ m ≤ 7 ∧ wr = wp) (fun _ i _ => (intOf i).toNat)
   case atStart => exact ⟨x, 7, by rw [HX.out, hwb], by omega, rfl, by omega, by omega, rfl⟩
   case round =>
    obtain ⟨y, m, rfl, hy, rfl, hm1, hm2, hwr⟩ := hrel
    subst hwr
    obtain ⟨wq, hwq⟩ : ∃ wq, wq = wr := ⟨_, rfl⟩
    subst hwq
    by_cases hj0 : 8 - r ≤ m
    ·have hm0 : 1 ≤ m := by omega
     have hd1 : decide (8 - (r : Int) ≤ (m : Int)) = true := decide_eq_true (by omega)
     have hsh : ∃ q : Nat, (2 : Int) ^ m = (q : Int) ∧ (2 : Nat) ^ m = q ∧ q ≤ 128 ∧ (1 : Int) * 2 ^ m = (q : Int) := by
      refine ⟨2 ^ m, by simp, rfl, Nat.le_trans (Nat.pow_le_pow_right (by decide) hm2) (by decide), by simp⟩
     obtain ⟨q, eq1, eq2, hq, eq3⟩ := hsh
     clear eq2
     by_cases hyq : q ≤ y
     ·go_wp2
      go_roundw
      case rel => exact ⟨y - q, m - 1, vi (by omega), by omega, vi (by omega), by omega, by omega, trivial⟩
      case measure => simp [intOf]; omega
     ·go_wp2
      go_roundw
      case rel => exact ⟨y, m - 1, rfl, by omega, vi (by omega), by omega, by omega, trivial⟩
      case measure => simp [intOf]; omega
    ·have hd1 : decide (8 - (r : Int) ≤ (m : Int)) = false := decide_eq_false (by omega)
     have hw8 : IntKind.u8.wrap (y : Int) = (y : Int) := by show ((y : Int) % 256) = y; omega
     have hB1 : Blk (wq.alloc (.cells #[.int .u8 (y : Int)] 5)).drew wq.heap.size 5 (u8s [UInt8.ofNat y]) := by
      have h := (Blk.new wq #[.int .u8 (y : Int)] 5).drew
      have e : u8s [UInt8.ofNat y] = [.int .u8 (y : Int)] := by
       show [Value.int .u8 ((UInt8.ofNat y).toNat : Int)] = _
       rw [UInt8.toNat_ofNat', Nat.mod_eq_of_lt (by omega)]
      rw [e]; exact h
     obtain ⟨u, hu, hcv⟩ : ∃ u : ByteArray, u.size = 1 ∧ (convert 132 9 (.slice (some ⟨wq.heap.size, 0, none⟩) 1 1)).run Tryz.prog (wq.alloc (.cells #[.int .u8 (y : Int)] 5)).drew = .ok (.string u) (wq.alloc (.cells #[.int .u8 (y : Int)] 5)).drew := ⟨_, rfl, row_str (l := [UInt8.ofNat y]) (c := 1) hB1.row⟩
     have hbW := (ba hbr (.cells #[.int .u8 (y : Int)] 5)).drew
     have f1 : (0 : Int) ≤ 1 := by omega
     have f2 : (1 : Int) ≤ (z : Int) := by omega
     have f3 : (z : Int) ≤ (t.size : Int) := by omega
     have HSZ : Hid ((u ++ t.extract 1 z).size ≤ 64) := by rw [Hid, ByteArray.size_append, ByteArray.size_extract]; omega
     have q1 : ¬ 9223372036854775807 < u.size + (t.extract 1 z).size := by rw [ByteArray.size_extract]; omega
     clear hB1 HM HD hm1 hm2 hwb
     go_wp2_with fail
     go_region_with (go_at_call 195; (with_reducible refine (HC.out _ _ (by have := HSZ.out; omega)).mono ?_); rintro e wx ⟨v, rfl, hv1, hv2, rfl⟩)
     all_goals
      go_wp2
      go_ret
      exact ⟨_, rfl, hv1, Nat.le_trans hv2 HSZ.out, hbW⟩
end Go.Proofs.YtehoiholhkfcpaaGreat
end

section
set_option linter.unusedVariables false
set_option linter.unusedSimpArgs false
set_option maxRecDepth 100000
namespace Go.Proofs.YtehoiholhkfcpaaGreat
open Go.RowKit Go.Shelf

/-- a tape of small numbers -/
def TpAt (w : World) (v : Value) : Prop := ∃ (u : Value) (V : List ByteArray) (sd : ByteArray) (ti : Int), v = .agg #[u, .string sd, .int .i64 ti] ∧ SsAt w u V ∧ V.length ≤ 100 ∧ (∀ x ∈ V, x.size ≤ 24) ∧ sd.size ≤ 60

theorem TpAt.after {w w' : World} {v : Value} (h : TpAt w v) (hb : Below w.heap.size w w') : TpAt w' v := by
 obtain ⟨u, V, sd, ti, h1, h2, h3⟩ := h
 exact ⟨u, V, sd, ti, h1, SsAt.after h2 hb, h3⟩

theorem ss_nil (w : World) : SsAt w (.slice none 0 0) [] := ⟨none, 0, rfl, .inl rfl⟩
theorem TpAt.zero (w : World) : TpAt w (.agg #[.slice none 0 0, .string ⟨#[]⟩, .int .i64 0]) := ⟨_, [], ⟨#[]⟩, 0, rfl, ss_nil w, by simp, by simp, by show (0 : Nat) ≤ 60; omega⟩

/-- a slice that does not lie in a block -/
def FarS (u : Value) (g : Nat) : Prop := ∀ b o n c, u = .slice (some ⟨b, o, none⟩) n c → n ≠ 0 → b ≠ g
/-- a tape whose numbers do not lie in the blocks below -/
def TFar (t : Value) (g : Nat) : Prop := ∀ u x y, t = .agg #[u, x, y] → ∀ b, b < g → FarS u b
theorem TFar.zero (g : Nat) (x y : Value) : TFar (.agg #[.slice none 0 0, x, y]) g := fun u x' y' h b hb b' o n c e _ => by
 injection h with h
 have h := congrArg (fun a => a[0]?) h
 simp at h
 subst h
 cases e
theorem TFar.of {u x y : Value} {g : Nat} (hf : ∀ b, b < g → FarS u b) : TFar (.agg #[u, x, y]) g := fun u' x' y' h b hb => by
 injection h with h
 have h := congrArg (fun a => a[0]?) h
 simp at h
 subst h
 exact hf b hb

def DrPost (w : World) (n : Nat) : Ending → World → Prop := fun e w' => ∃ (s : ByteArray) (t : Value) (k : Nat), e = .returned (.tuple #[.string s, t, .int .i64 (k : Int)]) ∧ TpAt w' t ∧ TFar t w.heap.size ∧ (k = 0 → ∃ x, x < n ∧ s = E x) ∧ Below w.heap.size w w'

set_option maxHeartbeats 3200000 in
theorem good_x (V : List ByteArray) (v : Value) (sd : ByteArray) (ti : Int) (w : World) (hn : V.length ≤ 100) (hs : ∀ x ∈ V, x.size ≤ 24) (hV : SsAt w v V) :
  Calls Tryz.prog 63 #[.agg #[v, .string sd, .int .i64 ti]] w fun e w' => ∃ b, e = .returned (.bool b) ∧ (b = true → V.all vldB = true ∧ 0 ≤ ti ∧ ti ≤ 2147483647) ∧ Below w.heap.size w w' := by
 have HVA : Hid (∀ k (h : k < V.length) (w : World), Calls Tryz.prog 27 #[.string (V[k]'h)] w fun e w' => e = .returned (.bool (vldB (V[k]'h))) ∧ w = w') := fun k h w => rvalid_c _ w (by have := hs _ (List.getElem_mem h); omega)
 obtain ⟨ao, c, rfl⟩ := RAt.form hV
 obtain ⟨n, hn'⟩ : ∃ n, n = V.length := ⟨_, rfl⟩
 have HN := Lib.hid hn'
 rw [← hn'] at hV hn ⊢
 clear hn' hs
 have hP := Blk.new w #[.slice ao n c, .string sd, .int .i64 ti] 33
 have hBW := b1 w (.cells #[.slice ao n c, .string sd, .int .i64 ti] 33)
 obtain ⟨hPc0, hPf0, hPc1, hPf1, hPc2, hPf2⟩ := hP.x3
 go_enter Tryz.func63, Tryz.ntmps63
 go_upto_region 2 with fail
 clear hPc0 hPf0 hPc1 hPf1 hPc2 hPf2
 replace hV := SsAt.after hV hBW
 generalize w.alloc (.cells #[.slice ao n c, .string sd, .int .i64 ti] 33) = w1 at hP hBW hV ⊢
 obtain ⟨g0, hg0⟩ : ∃ g, w.heap.size = g := ⟨_, rfl⟩
 rw [hg0] at hP ⊢
 replace hP : Blk w1 g0 33 [.slice ao n c, .string sd, .int .i64 ti] := hP
 have HG0 := Lib.hid hg0
 clear hg0
 go_loopw [3] (fun i wr => ∃ k : Nat, k ≤ n ∧ i = .int .i64 k ∧ Hid (∀ j (h : j < V.length), j < k → vldB (V[j]'h) = true) ∧ Below w1.heap.size w1 wr) (fun i _ => n - (intOf i).toNat)
 case atStart => exact ⟨0, by omega, rfl, fun j _ h => absurd h (Nat.not_lt_zero _), Below.refl _ _⟩
 case round =>
  obtain ⟨k, hk, rfl, HA, hbr⟩ := hrel
  obtain ⟨wp, hwp⟩ : ∃ wp, wp = wr := ⟨_, rfl⟩
  subst hwp
  have hV1 := SsAt.after hV hbr
  have hP1 := hP.after hbr
  by_cases hlt : k < n
  ·have hkl : k < V.length := by rw [← HN.out]; exact hlt
   obtain ⟨b, o, rfl, hbl, x1⟩ := SsAt.at_ hV1 hkl
   have HV := Lib.hid (HVA.out k hkl)
   have HX : Hid (vldB (V[k]'hkl) = true → ∀ j (h : j < V.length), j < k + 1 → vldB (V[j]'h) = true) := fun hv j h hj => by
    by_cases e : j = k
    ·subst e; exact hv
    ·exact HA.out j h (by omega)
   generalize vldB (V[k]'hkl) = bl at HV HX
   generalize (V[k]'hkl) = x at x1 HV
   have h0k : (0 : Int) ≤ (k : Int) := by omega
   have h1k : (k : Int) < (n : Int) := by omega
   cases bl
   ·have hbrr := hbr
    obtain ⟨hP1c0, hP1f0, hP1c1, hP1f1, hP1c2, hP1f2⟩ := hP1.x3
    go_wp2_with fail
    refine (HV.out _).mono ?_
    rintro e w2 ⟨rfl, rfl⟩
    go_wp2
    go_ret
    exact ⟨_, rfl, (fun h => nomatch h), bt hBW hbr⟩
   ·have HX2 := Lib.hid (HX.out rfl)
    clear HX
    obtain ⟨hP1c0, hP1f0, hP1c1, hP1f1, hP1c2, hP1f2⟩ := hP1.x3
    go_wp2_with fail
    refine (HV.out _).mono ?_
    rintro e w2 ⟨rfl, rfl⟩
    go_wp2
    go_roundw
    case rel => exact ⟨k + 1, by omega, by go_num, HX2, hbr⟩
    case measure => simp [intOf]; omega
  ·have HT : Hid (V.all vldB = true) := by
    rw [Hid, List.all_eq_true]
    intro x hx
    obtain ⟨j, hj, rfl⟩ := List.mem_iff_getElem.1 hx
    exact HA.out j hj (by rw [← HN.out] at hj; omega)
   obtain ⟨t1, ht1⟩ : ∃ t : Bool, t = decide (0 ≤ ti) := ⟨_, rfl⟩
   obtain ⟨t2, ht2⟩ : ∃ t : Bool, t = decide (ti ≤ 2147483647) := ⟨_, rfl⟩
   have HT1 := Lib.hid ht1
   have HT2 := Lib.hid ht2
   obtain ⟨hP1c0, hP1f0, hP1c1, hP1f1, hP1c2, hP1f2⟩ := hP1.x3
   cases t1
   ·have d1 := HT1.out.symm
    clear ht1 ht2
    go_wp2
    go_ret
    exact ⟨_, rfl, (fun h => nomatch h), bt hBW hbr⟩
   ·have d1 := HT1.out.symm
    have d2 := ht2.symm
    clear ht1 ht2
    go_wp2
    go_ret
    exact ⟨t2, rfl, fun h => ⟨HT.out, of_decide_eq_true d1, of_decide_eq_true (by rw [← HT2.out]; exact h)⟩, bt hBW hbr⟩
end Go.Proofs.YtehoiholhkfcpaaGreat
end
