import Derived.Test.YtecobjddpinonaaGreatSet3
import Derived.Test.YtecobjddpinonaaGreatStep
import Derived.Deep.DrawnRows
import Derived.Deep.RegionLaw
set_option linter.unusedVariables false
set_option linter.unusedSimpArgs false
set_option maxRecDepth 100000
namespace Go.Proofs.YtecobjddpinonaaGreat
open Go.RowKit Go.Shelf

theorem info_var : (Tryz.prog.info? 89).map (fun i => (i.zero, i.size, i.bytes)) = some (some (.agg #[.string { data := #[] }]), 1, 16) := by kernel_rfl
theorem info_term : (Tryz.prog.info? 81).map (fun i => (i.zero, i.size, i.bytes)) = some (some (.agg #[.string { data := #[] }, .int .i64 0, .bool false, .string { data := #[] }]), 4, 48) := by kernel_rfl

/-- the cells of terms with the coefficient 1 -/
def trm (B : List Nat) (k : Nat) : List Value := (List.range k).flatMap fun j => [.string (E (B.getD j 0)), .int .i64 (j : Int), .bool (sg 1), .string (E 1)]

theorem trm_succ (B : List Nat) (k : Nat) : trm B (k + 1) = trm B k ++ [.string (E (B.getD k 0)), .int .i64 (k : Int), .bool (sg 1), .string (E 1)] := by
  simp [trm, List.range_succ]

theorem own_keep {w w' : World} {base : Nat} {e : TypeId} {size : Nat} {v : Value} {n : Nat} {xs : List Value} (h : w.ownsRow base e size v n xs) (hk : ∀ g, v.ownBlock = some g → w'.heap[g]? = w.heap[g]?) : w'.ownsRow base e size v n xs := by
  refine ⟨h.1, ?_⟩
  rcases h.2 with h2 | ⟨g, cap, cur, rfl, h3, h4, h5⟩
  · exact .inl h2
  · exact .inr ⟨g, cap, cur, rfl, h3, by rw [hk g rfl]; exact h4, h5⟩

theorem own_lt {w : World} {base : Nat} {e : TypeId} {size : Nat} {v : Value} {n : Nat} {xs : List Value} (h : w.ownsRow base e size v n xs) {g : Nat} (hg : v.ownBlock = some g) : g < w.heap.size ∧ base ≤ g := by
  rcases h.2 with ⟨rfl, _⟩ | ⟨g', cap, cur, rfl, h3, h4, _⟩
  · simp [Value.ownBlock] at hg
  · have : g' = g := by simpa [Value.ownBlock] using hg
    subst this
    exact ⟨(Array.getElem?_eq_some_iff.1 h4).1, h3⟩

theorem own_after {w w' : World} {base : Nat} {e : TypeId} {size : Nat} {v : Value} {n : Nat} {xs : List Value} (h : w.ownsRow base e size v n xs) (hb : Below w.heap.size w w') : w'.ownsRow base e size v n xs :=
  own_keep h fun g hg => hb.block g (own_lt h hg).1

theorem own_ne {w : World} {base : Nat} {e T : TypeId} {size g : Nat} {v : Value} {n : Nat} {xs cs : List Value} (h : w.ownsRow base e size v n xs) (hg : Blk w g T cs) (hne : e ≠ T) : v.ownBlock ≠ some g := by
  intro hv
  rcases h.2 with ⟨rfl, _⟩ | ⟨g', cap, cur, rfl, h3, h4, _⟩
  · simp [Value.ownBlock] at hv
  · have : g' = g := by simpa [Value.ownBlock] using hv
    subst this
    rw [show w.heap[g']? = some (.cells cs.toArray T (0, 0)) from hg] at h4
    injection h4 with h4
    injection h4 with _ h4
    exact hne h4.symm

theorem own_ne2 {w : World} {b1 b2 : Nat} {e1 e2 : TypeId} {s1 s2 n1 n2 : Nat} {v1 v2 : Value} {x1 x2 : List Value} (h : w.ownsRow b1 e1 s1 v1 n1 x1) (k : w.ownsRow b2 e2 s2 v2 n2 x2) (hne : e1 ≠ e2) {g : Nat} (h1 : v1.ownBlock = some g) : v2.ownBlock ≠ some g := by
  intro h2
  rcases h.2 with ⟨rfl, _⟩ | ⟨g', cap, cur, rfl, _, h4, _⟩
  · simp [Value.ownBlock] at h1
  · rcases k.2 with ⟨rfl, _⟩ | ⟨g2, cap2, cur2, rfl, _, k4, _⟩
    · simp [Value.ownBlock] at h2
    · have e1 : g' = g := by simpa [Value.ownBlock] using h1
      have e2 : g2 = g := by simpa [Value.ownBlock] using h2
      subst e1; subst e2
      rw [h4] at k4
      injection k4 with k4
      injection k4 with _ k4
      exact hne k4

theorem Blk.grown {w w' : World} {g : Nat} {T : TypeId} {cs : List Value} {row : Option Nat} (h : Blk w g T cs) (hg : w.grownBy w' row) (hne : row ≠ some g) : Blk w' g T cs := by
  unfold Blk; rw [hg.block g h.lt (fun e => hne e.symm)]; exact h

theorem StrsAt.grown {w w' : World} {ao : Option Addr} {C : List ByteArray} {row : Option Nat} {B : Nat} (h : StrsAt w ao C) (hl : ∀ b, ao = some ⟨b, 0, none⟩ → b < B) (hg : w.grownBy w' row) (hr : ∀ g, row = some g → B ≤ g) : StrsAt w' ao C := by
  rcases h with h | ⟨b, h1, h2, h3⟩
  · exact .inl h
  · exact .inr ⟨b, h1, Nat.lt_of_lt_of_le h2 hg.size, fun j hj => (World.cell?_of_block (hg.block b h2 (fun e => by have := hr b e.symm; have := hl b h1; omega))).trans (h3 j hj)⟩

/-- between two rounds of 'statement' -/
structure SRel (w : World) (ao : Option Addr) (p q t : Nat) (B : List Nat) (g1 b6 b7 b8 : Nat) (k k4 : Nat) (v2 v4 : Value) (wr : World) : Prop where
  s : StrsAt wr ao (B.map E)
  g : Blk wr g1 24 [.string (E p), .string (E q)]
  r : Blk wr b6 33 [.slice none 0 0, .slice none 0 0, .slice none 0 0]
  q : Blk wr b7 79 [.int .i64 0, .string (E t), v4]
  m : Blk wr b8 33 [.slice (some ⟨g1, 0, none⟩) 1 1, v2, .slice none 0 0]
  o2 : wr.ownsRow w.heap.size 89 1 v2 k (List.replicate k (.string { data := #[] }))
  o4 : wr.ownsRow w.heap.size 81 4 v4 k4 (trm B k4)
  below : Below w.heap.size w wr

theorem StrsAt.set {w : World} {ao : Option Addr} {C : List ByteArray} {g i : Nat} {v : Value} (h : StrsAt w ao C) (hl : ∀ b, ao = some ⟨b, 0, none⟩ → b < g) : StrsAt (w.setCell ⟨g, i, none⟩ v) ao C := by
  rcases h with h | ⟨b, h1, h2, h3⟩
  · exact .inl h
  · refine .inr ⟨b, h1, by rw [World.size_setCell]; exact h2, fun j hj => ?_⟩
    rw [World.cell?_setCell_other _ _ _ _ (fun e => by have h5 := congrArg Addr.block e; have h6 := hl b h1; simp only at h5; omega)]
    exact h3 j hj

theorem own_set {w : World} {base : Nat} {e : TypeId} {size : Nat} {v : Value} {n : Nat} {xs : List Value} {g i : Nat} {u : Value} (h : w.ownsRow base e size v n xs) (hne : v.ownBlock ≠ some g) : (w.setCell ⟨g, i, none⟩ u).ownsRow base e size v n xs :=
  own_keep h fun b hb => heap_setCell_other w ⟨g, i, none⟩ b u (fun e => hne (by rw [hb, e]))

section
variable {w : World} {ao : Option Addr} {p q t : Nat} {B : List Nat} {g1 b6 b7 b8 k k4 : Nat} {v2 v4 : Value} {wr : World}

theorem SRel.after {wx : World} (h : SRel w ao p q t B g1 b6 b7 b8 k k4 v2 v4 wr) (hb : Below wr.heap.size wr wx) : SRel w ao p q t B g1 b6 b7 b8 k k4 v2 v4 wx :=
  ⟨h.s.after hb, h.g.after hb, h.r.after hb, h.q.after hb, h.m.after hb, own_after h.o2 hb, own_after h.o4 hb, bt h.below hb⟩

theorem SRel.step2 {wx : World} {v : Value} (h : SRel w ao p q t B g1 b6 b7 b8 k k4 v2 v4 wr) (hao : ∀ b, ao = some ⟨b, 0, none⟩ → b < w.heap.size) (x1 : w.heap.size < b6) (x2 : b6 < b7) (x3 : b7 < g1) (x4 : g1 < b8)
    (hg : wr.grownBy wx v2.ownBlock) (ho : wx.ownsRow w.heap.size 89 1 v (k + 1) (List.replicate (k + 1) (.string { data := #[] }))) :
    SRel w ao p q t B g1 b6 b7 b8 (k + 1) k4 v v4 (wx.setCell ⟨b8, 1, none⟩ v) := by
  have hr : ∀ g, v2.ownBlock = some g → w.heap.size ≤ g := fun g hg => (own_lt h.o2 hg).2
  have hm := h.m.grown hg (own_ne h.o2 h.m (by decide))
  have ho4 : wx.ownsRow w.heap.size 81 4 v4 k4 (trm B k4) := own_keep h.o4 fun g hv => hg.block g (own_lt h.o4 hv).1 (fun e => own_ne2 h.o4 h.o2 (by decide) hv e.symm)
  refine ⟨?_, ?_, ?_, ?_, hm.set 1 v, own_set ho (own_ne ho hm (by decide)), own_set ho4 (own_ne ho4 hm (by decide)), ?_⟩
  · exact StrsAt.set (h.s.grown hao hg hr) (fun b hb => by have := hao b hb; omega)
  · exact (h.g.grown hg (own_ne h.o2 h.g (by decide))).other _ _ (by simp; omega)
  · exact (h.r.grown hg (own_ne h.o2 h.r (by decide))).other _ _ (by simp; omega)
  · exact (h.q.grown hg (own_ne h.o2 h.q (by decide))).other _ _ (by simp; omega)
  · exact (h.below.grown hg h.below.size hr).setCell (by simp; omega) _

theorem SRel.step4 {wx : World} {v : Value} (h : SRel w ao p q t B g1 b6 b7 b8 k k4 v2 v4 wr) (hao : ∀ b, ao = some ⟨b, 0, none⟩ → b < w.heap.size) (x1 : w.heap.size < b6) (x2 : b6 < b7) (x3 : b7 < g1) (x4 : g1 < b8)
    (hg : wr.grownBy wx v4.ownBlock) (ho : wx.ownsRow w.heap.size 81 4 v (k4 + 1) (trm B (k4 + 1))) :
    SRel w ao p q t B g1 b6 b7 b8 k (k4 + 1) v2 v (wx.setCell ⟨b7, 2, none⟩ v) := by
  have hr : ∀ g, v4.ownBlock = some g → w.heap.size ≤ g := fun g hg => (own_lt h.o4 hg).2
  have hq := h.q.grown hg (own_ne h.o4 h.q (by decide))
  have ho2 : wx.ownsRow w.heap.size 89 1 v2 k (List.replicate k (.string { data := #[] })) := own_keep h.o2 fun g hv => hg.block g (own_lt h.o2 hv).1 (fun e => own_ne2 h.o2 h.o4 (by decide) hv e.symm)
  refine ⟨?_, ?_, ?_, hq.set 2 v, ?_, own_set ho2 (own_ne ho2 hq (by decide)), own_set ho (own_ne ho hq (by decide)), ?_⟩
  · exact StrsAt.set (h.s.grown hao hg hr) (fun b hb => by have := hao b hb; omega)
  · exact (h.g.grown hg (own_ne h.o4 h.g (by decide))).other _ _ (by simp; omega)
  · exact (h.r.grown hg (own_ne h.o4 h.r (by decide))).other _ _ (by simp; omega)
  · exact (h.m.grown hg (own_ne h.o4 h.m (by decide))).other _ _ (by simp; omega)
  · exact (h.below.grown hg h.below.size hr).setCell (by simp; omega) _
end

theorem own_cellS {w : World} {base g n c size : Nat} {e : TypeId} {xs : List Value} (h : w.ownsRow base e size (.slice (some ⟨g, 0, none⟩) n c) n xs) (j : Nat) (u : Value) (hj : xs[j]? = some u) : w.cell? ⟨g, j, none⟩ = some u := by
  have := h.cells (g := g) rfl j u hj
  rwa [Addr.add_lit, Nat.zero_add] at this

theorem trm_len (B : List Nat) (k : Nat) : (trm B k).length = k * 4 := by
  induction k with
  | zero => rfl
  | succ k ih => rw [trm_succ, List.length_append, ih]; simp; omega

theorem trm_get (B : List Nat) (k j i : Nat) (hj : j < k) (hi : i < 4) : (trm B k)[j * 4 + i]? = [Value.string (E (B.getD j 0)), .int .i64 (j : Int), .bool (sg 1), .string (E 1)][i]? := by
  induction k with
  | zero => omega
  | succ k ih =>
    rw [trm_succ]
    by_cases hjk : j < k
    · rw [List.getElem?_append_left (by rw [trm_len]; omega), ih hjk]
    · obtain rfl : j = k := by omega
      rw [List.getElem?_append_right (by rw [trm_len]; omega), trm_len, show j * 4 + i - j * 4 = i by omega]

theorem own_cap {w : World} {base g n c size : Nat} {e : TypeId} {xs : List Value} (h : w.ownsRow base e size (.slice (some ⟨g, 0, none⟩) n c) n xs) : g < w.heap.size ∧ n ≤ c := by
  rcases h.2 with ⟨h1, _⟩ | ⟨g', cap, cur, hv, h3, h4, h5, _⟩
  · cases h1
  · cases hv
    exact ⟨(Array.getElem?_eq_some_iff.1 h4).1, h5⟩

theorem stm_of {w W : World} {g1 ga g3 gc ca cc p q t k : Nat} {B : List Nat} (hn : B.length = k) (hg : Blk W g1 24 [.string (E p), .string (E q)])
    (h2 : W.ownsRow w.heap.size 89 1 (.slice (some ⟨ga, 0, none⟩) k ca) k (List.replicate k (.string { data := #[] })))
    (h4 : W.ownsRow w.heap.size 81 4 (.slice (some ⟨gc, 0, none⟩) k cc) k (trm B k))
    (h3 : Blk W g3 79 [.int .i64 0, .string (E t), .slice (some ⟨gc, 0, none⟩) k cc]) : Stm W g1 ga g3 gc cc p q t B where
  l1 := hg.lt
  l2 := (own_cap h2).1
  l3 := h3.lt
  l4 := (own_cap h4).1
  m0 := hg.cell 0
  m1 := hg.cell 1
  vs := fun j hj => own_cellS h2 j _ (by rw [List.getElem?_replicate, if_pos (by omega)])
  e0 := h3.cell 0
  e1 := h3.cell 1
  e2 := by rw [hn]; exact h3.cell 2
  t0 := fun j hj => own_cellS h4 (j * 4) _ (by have := trm_get B k j 0 (by omega) (by omega); rw [Nat.add_zero] at this; rw [this, List.getD_eq_getElem?_getD, List.getElem?_eq_getElem hj]; rfl)
  t1 := fun j hj => own_cellS h4 (j * 4 + 1) _ (by rw [trm_get B k j 1 (by omega) (by omega)]; rfl)
  t2 := fun j hj => own_cellS h4 (j * 4 + 2) _ (by rw [trm_get B k j 2 (by omega) (by omega)]; rfl)
  t3 := fun j hj => own_cellS h4 (j * 4 + 3) _ (by rw [trm_get B k j 3 (by omega) (by omega)]; rfl)
  cap := by rw [hn]; exact (own_cap h4).2

set_option maxHeartbeats 8000000 in
theorem statement_c (p q g h t n : Nat) (B : List Nat) (ao : Option Addr) (w : World) (hn : B.length = n) (hn1 : n ≤ 1000) (h0 : 0 < n) (hC : StrsAt w ao (B.map E)) :
    Calls Tryz.prog 34 #[.agg #[.string (E p), .string (E q), .string (E g), .string (E h)], .string (E t), .slice ao n n] w (StmPost w p q t B) := by
  obtain ⟨i2, hi2, hz20, hz21, hz22⟩ := info_parts info_var
  obtain ⟨i4, hi4, hz40, hz41, hz42⟩ := info_parts info_term
  have HI2 := Lib.hid hi2
  have HA2 := Lib.hid hz20
  have HB2 := Lib.hid hz21
  have HC2 := Lib.hid hz22
  have HI4 := Lib.hid hi4
  have HA4 := Lib.hid hz40
  have HB4 := Lib.hid hz41
  have HC4 := Lib.hid hz42
  clear hi2 hz20 hz21 hz22 hi4 hz40 hz41 hz42
  have HN := Lib.hid hn
  have HO := Lib.hid (fun w => iof_c 1 w (by decide) (by decide))
  clear hn
  go_enter Tryz.func34, Tryz.ntmps34
  go_wp2
  have hS : SRel w ao p q t B (w.heap.size + 1 + 1 + 1) (w.heap.size + 1) (w.heap.size + 1 + 1) (w.heap.size + 1 + 1 + 1 + 1) 0 0 (.slice none 0 0) (.slice none 0 0) (((((w.alloc (.cells #[Value.string (E p), Value.string (E q), Value.string (E g), Value.string (E h)] 26)).alloc (.cells #[Value.slice none 0 0, Value.slice none 0 0, Value.slice none 0 0] 33)).alloc (.cells #[Value.int .i64 0, Value.string (E t), Value.slice none 0 0] 79)).alloc (.cells #[Value.string (E p), Value.string (E q)] 24)).alloc (.cells #[Value.slice (some ⟨w.heap.size + 1 + 1 + 1, 0, none⟩) 1 1, Value.slice none 0 0, Value.slice none 0 0] 33)) := by
    have hbw : Below w.heap.size w (((((w.alloc (.cells #[Value.string (E p), Value.string (E q), Value.string (E g), Value.string (E h)] 26)).alloc (.cells #[Value.slice none 0 0, Value.slice none 0 0, Value.slice none 0 0] 33)).alloc (.cells #[Value.int .i64 0, Value.string (E t), Value.slice none 0 0] 79)).alloc (.cells #[Value.string (E p), Value.string (E q)] 24)).alloc (.cells #[Value.slice (some ⟨w.heap.size + 1 + 1 + 1, 0, none⟩) 1 1, Value.slice none 0 0, Value.slice none 0 0] 33)) := ba (ba (ba (b2 _ _ _) _) _) _
    refine ⟨hC.after hbw, ?_, ?_, ?_, ?_, World.ownsRow_nil _ _ _ _, World.ownsRow_nil _ _ _ _, hbw⟩
    · exact (Blk.newAt (by simp)).alloc _
    · exact (((Blk.newAt (by simp)).alloc _).alloc _).alloc _
    · exact ((Blk.newAt (by simp)).alloc _).alloc _
    · exact Blk.newAt (by simp)
  generalize (((((w.alloc (.cells #[Value.string (E p), Value.string (E q), Value.string (E g), Value.string (E h)] 26)).alloc (.cells #[Value.slice none 0 0, Value.slice none 0 0, Value.slice none 0 0] 33)).alloc (.cells #[Value.int .i64 0, Value.string (E t), Value.slice none 0 0] 79)).alloc (.cells #[Value.string (E p), Value.string (E q)] 24)).alloc (.cells #[Value.slice (some ⟨w.heap.size + 1 + 1 + 1, 0, none⟩) 1 1, Value.slice none 0 0, Value.slice none 0 0] 33)) = w1 at hS
  have hao : ∀ b, ao = some ⟨b, 0, none⟩ → b < w.heap.size := by
    intro b hb
    rcases hC with h | ⟨b', h1, h2, _⟩
    · rw [List.length_map] at h; have := HN.out; omega
    · rw [h1] at hb; injection hb with hb; injection hb with hb; omega
  have HAO := Lib.hid hao
  clear hao hC
  obtain ⟨g1, hg1⟩ : ∃ g1, w.heap.size + 1 + 1 + 1 = g1 := ⟨_, rfl⟩
  obtain ⟨b6, hb6⟩ : ∃ b6, w.heap.size + 1 = b6 := ⟨_, rfl⟩
  obtain ⟨b7, hb7⟩ : ∃ b7, b6 + 1 = b7 := ⟨_, rfl⟩
  obtain ⟨b8, hb8⟩ : ∃ b8, g1 + 1 = b8 := ⟨_, rfl⟩
  rw [hb6, hb7] at hg1
  rw [hb6, hb7, hg1, hb8] at hS ⊢
  have hle : w.heap.size < b6 ∧ b6 < b7 ∧ b7 < g1 ∧ g1 < b8 := by omega
  clear hg1 hb6 hb7 hb8
  obtain ⟨x1, x2, x3, x4⟩ := hle
  go_loopw [19] (fun i wr => ∃ (k : Nat) (v2 v4 : Value), k ≤ n ∧ i = .int .i64 k ∧ SRel w ao p q t B g1 b6 b7 b8 k k v2 v4 wr) (fun i _ => n - (intOf i).toNat)
  case atStart => exact ⟨0, _, _, by omega, rfl, hS⟩
  case round =>
    clear hS
    obtain ⟨k, v2, v4, hk, rfl, hS⟩ := hrel
    obtain ⟨wp, hwp⟩ : ∃ wp, wp = wr := ⟨_, rfl⟩
    subst hwp
    by_cases hlt : k < n
    · have hkl : k < B.length := by rw [HN.out]; exact hlt
      obtain ⟨b, rfl, hcb, hcx⟩ := hS.s.nat_lt hkl
      have hbw := HAO.out b rfl
      have HGD : Hid (B.getD k 0 = B[k]) := by rw [Hid, List.getD_eq_getElem?_getD, List.getElem?_eq_getElem hkl]; rfl
      generalize hbk : B[k] = bk at hcx HGD
      clear hbk
      have hm := hS.m
      have hmc0 := hm.cell 0
      have hmf0 := hm.free 0
      have hmc1 := hm.cell 1
      have hmf1 := hm.free 1
      have hmc2 := hm.cell 2
      have hmf2 := hm.free 2
      have hsz := hS.below.size
      have hnm : v2.ownBlock ≠ some b8 := own_ne hS.o2 hm (by decide)
      go_wp2_with (at_builtin; refine wpList_append_lies _ rfl (.tmp 25) (.tmp 27) _ rfl w.heap.size 89 i2 _ 1 16 Tryz.underlying30 HI2.out HA2.out HB2.out HC2.out rfl (by omega) v2 k _ rfl (own_after hS.o2 (b1 _ (.cells #[.string { data := #[] }] 89))) ⟨wp.heap.size, 0, none⟩ 1 1 [.string { data := #[] }] rfl rfl (Blk.new wp #[.string { data := #[] }] 89).cells (by simp [Value.oneCell']) (by omega) (by simp only [maxLen]; omega) (by omega) (by rw [World.size_alloc]; omega) (wp.heap.size + 1) (by simp) ?_; intro ga ca wa hown2 hgrow2 hat2 hlt2; have hma := (hm.alloc (.cells #[.string { data := #[] }] 89)).grown hgrow2 hnm; have m0 := hma.cell 1; have m1 := hma.free 1)
      have hS2 := (hS.after (b1 _ (.cells #[.string { data := #[] }] 89))).step2 HAO.out x1 x2 x3 x4 hgrow2 (by rw [List.replicate_succ']; exact hown2)
      clear hmc0 hmf0 hmc1 hmf1 hmc2 hmf2
      clear hm hnm hma m0 m1 hown2 hgrow2 hat2 hlt2 hS hcx hcb hsz
      generalize wa.setCell ⟨b8, 1, none⟩ (.slice (some ⟨ga, 0, none⟩) (k + 1) ca) = wb at hS2
      generalize (Value.slice (some ⟨ga, 0, none⟩) (k + 1) ca) = v2' at hS2
      have hq := hS2.q
      have hqc0 := hq.cell 0
      have hqf0 := hq.free 0
      have hqc1 := hq.cell 1
      have hqf1 := hq.free 1
      have hqc2 := hq.cell 2
      have hqf2 := hq.free 2
      have hql : b7 < wb.heap.size := hq.lt
      have hqs := hS2.below.size
      have HEN := Lib.hid (enters_of Tryz.func62 (by kernel_rfl) rfl)
      go_region_law (first | (refine step_call1 (by rfl) 62 (.const (.int .i64 1)) 2 (by rfl) HEN.out (.int .i64 1) (by rfl) (HO.out _) ?_; intro wf hbf; have hSf := hS2.after (Below.drew (Below.refl _ _) |>.trans hbf); have hqf := hSf.q; have u0 := hqf.cell 2; have u1 := hqf.free 2; have hqfl : b7 < wf.heap.size := hqf.lt) | (refine step_append_lies _ (by rfl) (.tmp 31) (.tmp 36) _ (by rfl) w.heap.size 81 i4 _ 4 48 Tryz.underlying77 HI4.out HA4.out HB4.out HC4.out rfl (by omega) v4 k _ (by rfl) (own_after hSf.o4 (b1 _ (.cells #[.string (E bk), .int .i64 k, .bool (sg 1), .string (E 1)] 81))) ⟨wf.heap.size, 0, none⟩ 1 1 [.string (E bk), .int .i64 k, .bool (sg 1), .string (E 1)] (by rfl) rfl (Blk.new wf #[.string (E bk), .int .i64 k, .bool (sg 1), .string (E 1)] 81).cells (by simp [Value.oneCell']) (by omega) (by simp only [maxLen]; omega) (by omega) (by rw [World.size_alloc]; have := hSf.below.size; omega) (wf.heap.size + 1) (by simp) ?_; intro gc cc wd hown4 hgrow4 hat4 hlt4; have hqd := (hqf.alloc (.cells #[.string (E bk), .int .i64 k, .bool (sg 1), .string (E 1)] 81)).grown hgrow4 (own_ne hSf.o4 hqf (by decide)); have s0 := hqd.cell 2; have s1 := hqd.free 2))
      all_goals
        have hS4 := (hSf.after (b1 _ (.cells #[.string (E bk), .int .i64 k, .bool (sg 1), .string (E 1)] 81))).step4 HAO.out x1 x2 x3 x4 hgrow4 (by rw [trm_succ, HGD.out]; exact hown4)
        go_wp2
        go_roundw
        case rel => exact ⟨k + 1, _, _, by omega, by go_num, hS4⟩
        case measure => simp [intOf]; omega
    · obtain rfl : k = n := by omega
      have hq := hS.q
      have hm := hS.m
      have hr := hS.r
      obtain ⟨ga, ca, rfl, hga1, hga2⟩ := hS.o2.form h0
      obtain ⟨gc, cc, rfl, hgc1, hgc2⟩ := hS.o4.form h0
      have n1 : g1 < wp.heap.size := hS.g.lt
      have n2 : b6 < wp.heap.size := hr.lt
      have n3 : b7 < wp.heap.size := hq.lt
      have n4 : b8 < wp.heap.size := hm.lt
      have hqc0 := hq.cell 0
      have hqf0 := hq.free 0
      have hqc1 := hq.cell 1
      have hqf1 := hq.free 1
      have hqc2 := hq.cell 2
      have hqf2 := hq.free 2
      have hmc0 := hm.cell 0
      have hmf0 := hm.free 0
      have hmc1 := hm.cell 1
      have hmf1 := hm.free 1
      have hmc2 := hm.cell 2
      have hmf2 := hm.free 2
      have hrc0 := hr.cell 0
      have hrf0 := hr.free 0
      have hrc1 := hr.cell 1
      have hrf1 := hr.free 1
      have hrc2 := hr.cell 2
      have hrf2 := hr.free 2
      go_wp2
      refine bodyPost_ret (v := .agg #[.slice (some ⟨g1, 0, none⟩) 1 1, .slice (some ⟨ga, 0, none⟩) k ca, .slice (some ⟨wp.heap.size, 0, none⟩) 1 1]) ?_ rfl ⟨g1, ga, wp.heap.size, gc, 1, ca, 1, cc, by rw [HN.out], ?_, ⟨by omega, hga1, by have := hS.below.size; omega, hgc1⟩, ?_⟩
      · simp [results, Tryz.results34, go_sem, hrc0, hrc1, hrc2, n1, n2, n3, n4]
      · have a2 := own_ne hS.o2 hm (by decide)
        have a3 := own_ne hS.o2 hr (by decide)
        have a4 := own_ne hS.o4 hm (by decide)
        have a5 := own_ne hS.o4 hr (by decide)
        have f2 := own_after (own_set (g := b6) (i := 2) (u := .slice (some ⟨wp.heap.size, 0, none⟩) 1 1) (own_set (g := b6) (i := 1) (u := .slice (some ⟨ga, 0, none⟩) k ca) (own_set (g := b6) (i := 0) (u := .slice (some ⟨g1, 0, none⟩) 1 1) (own_set (g := b8) (i := 2) (u := .slice (some ⟨wp.heap.size, 0, none⟩) 1 1) hS.o2 a2) a3) a3) a3) (b1 _ (.cells #[.int .i64 0, .string (E t), .slice (some ⟨gc, 0, none⟩) k cc] 79))
        have f4 := own_after (own_set (g := b6) (i := 2) (u := .slice (some ⟨wp.heap.size, 0, none⟩) 1 1) (own_set (g := b6) (i := 1) (u := .slice (some ⟨ga, 0, none⟩) k ca) (own_set (g := b6) (i := 0) (u := .slice (some ⟨g1, 0, none⟩) 1 1) (own_set (g := b8) (i := 2) (u := .slice (some ⟨wp.heap.size, 0, none⟩) 1 1) hS.o4 a4) a5) a5) a5) (b1 _ (.cells #[.int .i64 0, .string (E t), .slice (some ⟨gc, 0, none⟩) k cc] 79))
        have fg := ((((hS.g.other ⟨b8, 2, none⟩ (.slice (some ⟨wp.heap.size, 0, none⟩) 1 1) (by simp; omega)).other ⟨b6, 0, none⟩ (.slice (some ⟨g1, 0, none⟩) 1 1) (by simp; omega)).other ⟨b6, 1, none⟩ (.slice (some ⟨ga, 0, none⟩) k ca) (by simp; omega)).other ⟨b6, 2, none⟩ (.slice (some ⟨wp.heap.size, 0, none⟩) 1 1) (by simp; omega)).alloc (.cells #[.int .i64 0, .string (E t), .slice (some ⟨gc, 0, none⟩) k cc] 79)
        exact stm_of HN.out fg f2 f4 (Blk.newAt (by simp))
      · exact ba ((((hS.below.setCell (by simp; omega) _).setCell (by simp; omega) _).setCell (by simp; omega) _).setCell (by simp; omega) _) _

end Go.Proofs.YtecobjddpinonaaGreat
