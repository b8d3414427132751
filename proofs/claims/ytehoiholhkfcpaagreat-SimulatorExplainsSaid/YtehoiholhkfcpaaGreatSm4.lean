import Derived.Test.YtehoiholhkfcpaaGreatSig7
import Derived.Test.YtehoiholhkfcpaaGreatLck6
import Derived.Test.YtehoiholhkfcpaaGreatImg4
import Derived.Test.YtehoiholhkfcpaaGreatPwr
section
/- Differences of two proofs, in bytes: both sides return the same error, or there are numbers. -/
set_option linter.unusedVariables false
set_option linter.unusedSimpArgs false
set_option maxRecDepth 100000
namespace Go.Proofs.YtehoiholhkfcpaaGreat
open Go.RowKit Go.Shelf

theorem numk {s : ByteArray} {k : Nat} (h : s.size ≤ k) (hv : vldB s = true) : ∃ n, n < 256 ^ k ∧ s = E n := by
 obtain ⟨n, _, rfl⟩ := of_vldB hv
 exact ⟨n, lt_of_size h, rfl⟩

/-- a small statement has small sizes -/
theorem few_ssm {S : Sta} (h : fewB S = true) : SSm S := by
 simp only [fewB, gszB, vszB, eszB, tszB, Bool.and_eq_true, decide_eq_true_eq, List.all_eq_true] at h
 obtain ⟨⟨⟨⟨⟨l1, l2⟩, l3⟩, hg⟩, hv⟩, he⟩ := h
 exact ⟨by omega, by omega, by omega, fun x hx => by have := hg x hx; omega, fun x hx => by have := hv x hx; omega, fun x hx => ⟨by have := (he x hx).1.2; omega, by have := (he x hx).1.1; omega, fun t ht => by have := (he x hx).2 t ht; omega⟩⟩

/-- a rule and a statement: both sides refuse with one error, or they are numbers with masks -/
theorem bnd_two (S : Sta) (C K : ByteArray) (v1 v2 v3 : Value) (w : World) (hC : C.size ≤ 8) (hK : K.size ≤ 8) (hf : fewB S = true) (hS : StAt w v1 v2 v3 S) :
  (∃ k : Nat, k ≠ 0 ∧ (∀ w', Below w.heap.size w w' → Calls Tryz.prog 50 #[.agg #[.string C, .string K], .agg #[v1, v2, v3]] w' fun e w'' => e = .returned (.tuple #[.slice none 0 0, .int .i64 k]) ∧ Below w'.heap.size w' w'') ∧
   (∀ w', Below w.heap.size w w' → Calls Tryz.prog 26 #[.agg #[.string C, .string K], .agg #[v1, v2, v3]] w' fun e w'' => e = .returned (.tuple #[.slice none 0 0, .slice none 0 0, .int .i64 k]) ∧ Below w'.heap.size w' w'')) ∨
  (∃ (N : NSta) (c k : Nat), C = E c ∧ K = E k ∧ c < 256 ^ 8 ∧ k < 256 ^ 8 ∧ S = N.s ∧ NOk N ∧ N.chk = 0 ∧ 2 ≤ c ∧ 2 ≤ k ∧ (N.vars.any vz = true → c ≤ N.ord)) := by
 have hss := few_ssm hf
 cases hr : (vldB C && vldB K)
 ·exact .inl ⟨3, by decide, fun w' hb => bounds_rule C K v1 v2 v3 w' (by omega) (by omega) hr, fun w' hb => rbounds_rule C K v1 v2 v3 w' (by omega) (by omega) hr⟩
 ·simp only [Bool.and_eq_true] at hr
  obtain ⟨c, hc, rfl⟩ := numk hC hr.1
  obtain ⟨k, hk, rfl⟩ := numk hK hr.2
  cases hfm : formB S
  ·exact .inl ⟨3, by decide, fun w' hb => bounds_chk c k v1 v2 v3 3 w' hc hk (by decide) (fun w2 hb2 => check_bad S v1 v2 v3 w2 hss (hS.after (bt hb hb2)) hfm),
    fun w' hb => rbounds_chk c k v1 v2 v3 3 w' hc hk (by decide) (fun w2 hb2 => rCheck_bad S v1 v2 v3 w2 hss (hS.after (bt hb hb2)) hfm)⟩
  ·obtain ⟨N, rfl, hm⟩ := to_num S hfm hf
   by_cases h0 : N.chk = 0
   ·by_cases h2 : c < 2 ∨ k < 2
    ·exact .inl ⟨2, by decide, fun w' hb => bounds_two N c k v1 v2 v3 w' hc hk h2 hm (hS.after hb) h0, fun w' hb => rbounds_two N c k v1 v2 v3 w' hc hk h2 hm (hS.after hb) h0⟩
    ·by_cases h3 : N.vars.any vz = true ∧ N.ord < c
     ·exact .inl ⟨2, by decide, fun w' hb => bounds_ord N c k v1 v2 v3 w' hc hk (by omega) (by omega) h3.1 h3.2 hm (hS.after hb) h0, fun w' hb => rbounds_ord N c k v1 v2 v3 w' hc hk (by omega) (by omega) h3.1 h3.2 hm (hS.after hb) h0⟩
     ·exact .inr ⟨N, c, k, rfl, rfl, hc, hk, rfl, hm, h0, by omega, by omega, fun hv => by
       apply Classical.byContradiction
       intro hn
       exact h3 ⟨hv, by omega⟩⟩
   ·exact .inl ⟨N.chk, h0, fun w' hb => bounds_chk c k v1 v2 v3 N.chk w' hc hk h0 (fun w2 hb2 => check_c N v1 v2 v3 w2 hm (hS.after (bt hb hb2))),
     fun w' hb => rbounds_chk c k v1 v2 v3 N.chk w' hc hk h0 (fun w2 hb2 => rCheck_c N v1 v2 v3 w2 hm (hS.after (bt hb hb2)))⟩

theorem nums_lift (F : List ByteArray) (n : Nat) (h1 : ∀ x ∈ F, vldB x = true) (h2 : ∀ x ∈ F, x.size ≤ n) : ∃ G : List Nat, G.map E = F ∧ ∀ x ∈ G, x < 256 ^ n :=
 list_lift E (fun x => x < 256 ^ n) F fun x hx => by
  obtain ⟨m, hm, rfl⟩ := numk (h2 x hx) (h1 x hx)
  exact ⟨m, rfl, hm⟩
theorem ints_lift (R : List (Bool × ByteArray)) (n : Nat) (h1 : ∀ x ∈ R, ivB x.1 x.2 = true) (h2 : ∀ x ∈ R, x.2.size ≤ n) : ∃ Z : List Int, Z.map zI = R ∧ ∀ z ∈ Z, z.natAbs < 256 ^ n :=
 list_lift zI (fun z => z.natAbs < 256 ^ n) R fun x hx => by
  obtain ⟨z, _, e1, e2⟩ := of_ivB (h1 x hx)
  have h3 := h2 x hx
  rw [e2] at h3
  exact ⟨z, by rw [zI, ← e1, ← e2], lt_of_size h3⟩

/-- one proof: both sides refuse with one error, or it is numbers and both accept -/
theorem ver_two (N : NSta) (C K : Nat) (ch : ByteArray) (F : List ByteArray) (R : List (Bool × ByteArray)) (v1 v2 v3 f rs : Value) (w : World) (hC : C < 256 ^ 8) (hK : K < 256 ^ 8) (hm : NOk N) (hS : NAt w v1 v2 v3 N) (hc : N.chk = 0)
  (h2 : 2 ≤ C) (h3 : 2 ≤ K) (hv : N.vars.any vz = true → C ≤ N.ord) (hn1 : F.length ≤ 12) (hs1 : ∀ x ∈ F, x.size ≤ 9) (hn2 : R.length ≤ 12) (hs2 : ∀ x ∈ R, x.2.size ≤ 40) (hsc : ch.size ≤ 16) (hFs : SsAt w f F) (hIs : IsAt w rs R) :
  (∃ k : Nat, k ≠ 0 ∧ (∀ w', Below w.heap.size w w' → Calls Tryz.prog 33 #[.agg #[.string (E C), .string (E K)], .agg #[v1, v2, v3], .agg #[f, .string ch, rs]] w' fun e w'' => e = .returned (.int .i64 k) ∧ Below w'.heap.size w' w'') ∧
   (∀ w', Below w.heap.size w w' → Calls Tryz.prog 40 #[.agg #[.string (E C), .string (E K)], .agg #[v1, v2, v3], .agg #[f, .string ch, rs]] w' fun e w'' => e = .returned (.int .i64 k) ∧ Below w'.heap.size w' w'')) ∨
  (∃ (G : List Nat) (c : Nat) (Z : List Int), G.map E = F ∧ ch = E c ∧ Z.map zI = R ∧ (∀ x ∈ G, x < 256 ^ 9) ∧ c < 256 ^ 16 ∧ (∀ z ∈ Z, z.natAbs < 256 ^ 40) ∧ N.ver C K G c Z = 0 ∧
   (∀ w', Below w.heap.size w w' → Calls Tryz.prog 33 #[.agg #[.string (E C), .string (E K)], .agg #[v1, v2, v3], .agg #[f, .string ch, rs]] w' fun e w'' => e = .returned (.int .i64 0) ∧ Below w'.heap.size w' w'') ∧
   (∀ w', Below w.heap.size w w' → Calls Tryz.prog 40 #[.agg #[.string (E C), .string (E K)], .agg #[v1, v2, v3], .agg #[f, .string ch, rs]] w' fun e w'' => e = .returned (.int .i64 0) ∧ Below w'.heap.size w' w'')) := by
 cases hp : prB F ch R
 ·refine .inl ⟨3, by decide, fun w' hb => ?_, fun w' hb => ?_⟩
  ·refine verify_form (E C) (E K) ch v1 v2 v3 f rs F R w' (fun w2 hb2 => (bounds_ok N C K v1 v2 v3 w2 hC hK h2 h3 hv hm (hS.after (bt hb hb2)) hc).mono ?_) (by omega) (fun x hx => by have := hs1 x hx; omega) (by omega) (fun x hx => by have := hs2 x hx; omega) (by omega) (SsAt.after hFs hb) (IsAt.after hIs hb) hp
   rintro e w3 ⟨v, rfl, _, hb3⟩
   exact ⟨v, rfl, hb3⟩
  ·refine rverify_form (E C) (E K) ch v1 v2 v3 f rs F R w' (fun w2 hb2 => (rbounds_ok N C K v1 v2 v3 w2 hC hK h2 h3 hv hm (hS.after (bt hb hb2)) hc).mono ?_) (by omega) (fun x hx => by have := hs1 x hx; omega) (by omega) (fun x hx => by have := hs2 x hx; omega) (by omega) (SsAt.after hFs hb) (IsAt.after hIs hb) hp
   rintro e w3 ⟨v, u, rfl, _, _, hb3⟩
   exact ⟨v, u, rfl, hb3⟩
 ·simp only [prB, Bool.and_eq_true, List.all_eq_true] at hp
  obtain ⟨⟨p1, p2⟩, p3⟩ := hp
  obtain ⟨G, rfl, hG⟩ := nums_lift F 9 p1 hs1
  obtain ⟨c, hcc, rfl⟩ := numk hsc p2
  obtain ⟨Z, rfl, hZ⟩ := ints_lift R 40 p3 hs2
  have hg : G.length ≤ 1000 := by simp at hn1; omega
  have hz : Z.length ≤ 1000 := by simp at hn2; omega
  have hG2 : ∀ x ∈ G, x < 256 ^ 128 := fun x hx => Nat.lt_of_lt_of_le (hG x hx) (Nat.pow_le_pow_right (by decide) (by decide))
  have hZ2 : ∀ z ∈ Z, z.natAbs < 256 ^ 64 := fun x hx => Nat.lt_of_lt_of_le (hZ x hx) (Nat.pow_le_pow_right (by decide) (by decide))
  have hc2 : c < 256 ^ 128 := Nat.lt_of_lt_of_le hcc (Nat.pow_le_pow_right (by decide) (by decide))
  have hA := fun w' (hb : Below w.heap.size w w') => verify_num N C K c G Z v1 v2 v3 f rs w' hC hK hm (hS.after hb) hc (fun w2 hb2 => bounds_ok N C K v1 v2 v3 w2 hC hK h2 h3 hv hm (hS.after (bt hb hb2)) hc) (SsAt.after hFs hb) (ZsAt.after hIs hb) hg hG2 hc2 hz hZ2
  have hB := fun w' (hb : Below w.heap.size w w') => rverify_num N C K c G Z v1 v2 v3 f rs w' hC hK hm (hS.after hb) hc (fun w2 hb2 => rbounds_ok N C K v1 v2 v3 w2 hC hK h2 h3 hv hm (hS.after (bt hb hb2)) hc) (SsAt.after hFs hb) (ZsAt.after hIs hb) hg hG2 hc2 hz hZ2
  by_cases h0 : N.ver C K G c Z = 0
  ·rw [h0] at hA hB
   exact .inr ⟨G, c, Z, rfl, rfl, rfl, hG, hcc, hZ, h0, hA, hB⟩
  ·exact .inl ⟨N.ver C K G c Z, h0, hA, hB⟩

/-- what an accepted proof tells -/
theorem ver_inv {N : NSta} {C K c : Nat} {F : List Nat} {Z : List Int} (h : N.ver C K F c Z = 0) : F.length = N.eqs.length ∧ Z.length = N.vars.length ∧ c < C ∧ ra N.vars.length (blJ N C K Z) = true := by
 unfold NSta.ver at h
 split at h
 ·omega
 ·rename_i h1
  split at h
  ·omega
  ·rename_i h2
   split at h
   ·omega
   ·rename_i h3
    refine ⟨by omega, by omega, by omega, by simpa using h3⟩

end Go.Proofs.YtehoiholhkfcpaaGreat
end

section
set_option linter.unusedVariables false
set_option linter.unusedSimpArgs false
set_option maxRecDepth 100000
namespace Go.Proofs.YtehoiholhkfcpaaGreat
open Go.RowKit Go.Shelf

/-- a row stays where another row grows -/
theorem own_keep2 {w w' : World} {b : Nat} {e : TypeId} {s n : Nat} {v : Value} {x : List Value} {o : Option Nat} (h : w.ownsRow b e s v n x) (hg : w.grownBy w' o) (hd : ∀ g, v.ownBlock = some g → o ≠ some g) : w'.ownsRow b e s v n x :=
 own_keep h fun g hv => hg.block g (own_lt h hv).1 (fun e' => hd g hv e'.symm)

set_option maxHeartbeats 4000000 in
theorem sBounds_c (N : NSta) (C K : Nat) (v1 v2 v3 : Value) (w : World) (hl6 : N.vars.length ≤ 12)
  (hb : ∀ w', Below w.heap.size w w' → Calls Tryz.prog 50 #[.agg #[.string (E C), .string (E K)], .agg #[v1, v2, v3]] w' (BPost w' (N.lims C K))) :
  Calls Tryz.prog 20 #[.agg #[.string (E C), .string (E K)], .agg #[v1, v2, v3]] w (B2Post w (N.lims C K)) := by
 obtain ⟨i0, hi0, hz00, hz01, hz02⟩ := info_parts info_nat
 have HI0 := Lib.hid hi0
 have HA0 := Lib.hid hz00
 have HB0 := Lib.hid hz01
 have HC0 := Lib.hid hz02
 clear hi0 hz00 hz01 hz02
 have HB := Lib.hid hb
 have hR := blk2a w #[.string (E C), .string (E K)] #[v1, v2, v3] 24 29
 have hP := blk2b w #[.string (E C), .string (E K)] #[v1, v2, v3] 24 29
 have hBW := b2 w (.cells #[.string (E C), .string (E K)] 24) (.cells #[v1, v2, v3] 29)
 clear hb
 obtain ⟨hRc0, hRf0, hRc1, hRf1⟩ := hR.x2
 obtain ⟨hPc0, hPf0, hPc1, hPf1, hPc2, hPf2⟩ := hP.x3
 go_enter Tryz.func20, Tryz.ntmps20
 go_wp2_with fail
 refine (HB.out _ hBW).mono ?_
 rintro e wF ⟨lv, rfl, hLO, hbF⟩
 clear hRc0 hRf0 hRc1 hRf1
 clear hPc0 hPf0 hPc1 hPf1 hPc2 hPf2
 replace hBW := bt hBW hbF
 clear hbF hR hP
 obtain ⟨la, lc, rfl⟩ := hLO.form
 obtain ⟨n, hn⟩ : ∃ n, n = (N.lims C K).length := ⟨_, rfl⟩
 have HN := Lib.hid hn
 have HNV : Hid (n = N.vars.length) := by rw [Hid, hn, NSta.lims, List.length_map]
 have hn6 : n ≤ 12 := by have := HNV.out; omega
 rw [← hn] at hLO ⊢
 clear hn
 go_wp2
 go_loopw [9, 10, 24] (fun v9 v10 i wr => ∃ k : Nat, k ≤ n ∧ i = .int .i64 k ∧ RRel wF ((N.lims C K).take k) v9 v10 wr) (fun _ _ i _ => n - (intOf i).toNat)
 case atStart => exact ⟨0, by omega, rfl, ⟨World.ownsRow_nil _ _ _ _, World.ownsRow_nil _ _ _ _, fun g h => by simp [Value.ownBlock] at h, Below.refl _ _⟩⟩
 case round =>
  obtain ⟨k, hk, rfl, hI⟩ := hrel
  obtain ⟨wq, hwq⟩ : ∃ wq, wq = wr := ⟨_, rfl⟩
  subst hwq
  have hbr := hI.b
  by_cases hlt : k < n
  ·have hkl : k < N.vars.length := by rw [← HNV.out]; exact hlt
   have hkL : k < (N.lims C K).length := by rw [← HN.out]; exact hlt
   have HST := Lib.hid (lims_step N C K k hkl)
   have HLE := Lib.hid (lims_at N C K k hkl hkL)
   obtain ⟨bl, rfl, hbl, x1, x2⟩ := (LmOwn.after hLO hbr).at_ hkL
   rw [HLE.out] at x1 x2
   have h0k : (0 : Int) ≤ (k : Int) := by omega
   have h1k : (k : Int) < (n : Int) := by omega
   obtain ⟨l1', hl1⟩ : ∃ x, x = (lim N.ord C K N.vars[k]).1 := ⟨_, rfl⟩
   obtain ⟨l2', hl2⟩ : ∃ x, x = (lim N.ord C K N.vars[k]).2 := ⟨_, rfl⟩
   have HST1 : Hid (((N.lims C K).take (k + 1)).map (·.1) = ((N.lims C K).take k).map (·.1) ++ [l1']) := by rw [Hid, HST.out, List.map_append, hl1]; rfl
   have HST2 : Hid (((N.lims C K).take (k + 1)).map (·.2) = ((N.lims C K).take k).map (·.2) ++ [l2']) := by rw [Hid, HST.out, List.map_append, hl2]; rfl
   rw [← hl1] at x1
   rw [← hl2] at x2
   clear hl1 hl2 HST HLE
   have hla : (((N.lims C K).take k).map (·.1)).length = k := by rw [List.length_map, List.length_take, NSta.lims, List.length_map]; omega
   have hlb : (((N.lims C K).take k).map (·.2)).length = k := by rw [List.length_map, List.length_take, NSta.lims, List.length_map]; omega
   have hOA0 : wq.ownsRow wF.heap.size 22 1 u9 k (strs (((N.lims C K).take k).map (·.1))) := by have h : wq.ownsRow _ _ _ _ _ _ := hI.a; rw [hla] at h; exact h
   have hOB0 : wq.ownsRow wF.heap.size 22 1 u10 k (strs (((N.lims C K).take k).map (·.2))) := by have h : wq.ownsRow _ _ _ _ _ _ := hI.z; rw [hlb] at h; exact h
   have HDJ := Lib.hid hI.d
   have HLA := Lib.hid hla
   have HLB := Lib.hid hlb
   clear hI hla hlb
   generalize ((N.lims C K).take k).map (·.1) = LA at hOA0 HST1 HLA
   generalize ((N.lims C K).take k).map (·.2) = LB at hOB0 HST2 HLB
   have hT := Blk.new wq #[.string (E l1'), .string (E l2')] 100
   have hbq := b1 wq (.cells #[.string (E l1'), .string (E l2')] 100)
   have hOA := own_after hOA0 hbq
   have hOB := own_after hOB0 hbq
   have hBx := bt hbr hbq
   go_upto_region 8 with fail
   clear x1 x2 hbl hOA0 hOB0 hbr hbq hLO
   generalize wq.alloc (.cells #[.string (E l1'), .string (E l2')] 100) = wv at hT hOA hOB hBx ⊢
   obtain ⟨g12, hg12⟩ : ∃ g, wq.heap.size = g := ⟨_, rfl⟩
   rw [hg12] at hT ⊢
   clear hg12
   replace hT : Blk wv g12 100 [.string (E l1'), .string (E l2')] := hT
   have hC : CA wv [(⟨g12, 0, none⟩, .string (E l1')), (⟨g12, 1, none⟩, .string (E l2'))] := CA.cons hT.lt (hT.cell 0) (CA.cons hT.lt (hT.cell 1) (CA.nil _))
   have hsx := hBx.size
   have HNA : Hid (∀ x ∈ ([(⟨g12, 0, none⟩, .string (E l1')), (⟨g12, 1, none⟩, .string (E l2'))] : List (Addr × Value)), u9.ownBlock ≠ some x.1.block) := by
    have q1 := own_ne hOA hT (by decide)
    intro x hx
    simp only [List.mem_cons, List.not_mem_nil, or_false] at hx
    rcases hx with rfl | rfl
    ·exact q1
    ·exact q1
   have HNB : Hid (∀ x ∈ ([(⟨g12, 0, none⟩, .string (E l1')), (⟨g12, 1, none⟩, .string (E l2'))] : List (Addr × Value)), u10.ownBlock ≠ some x.1.block) := by
    have q1 := own_ne hOB hT (by decide)
    intro x hx
    simp only [List.mem_cons, List.not_mem_nil, or_false] at hx
    rcases hx with rfl | rfl
    ·exact q1
    ·exact q1
   clear hT
   go_region_held3 (fun w' => w'.cell? ⟨g12, 0, none⟩ = some (.string (E l1')) ∧ w'.cell? ⟨g12, 1, none⟩ = some (.string (E l2'))) ((refine CA.k2 ?_; repeat (first | (with_reducible exact hCb) | (with_reducible exact hCa) | (with_reducible exact hC) | (with_reducible refine CA.drew ?_) | (with_reducible refine CA.alloc ?_ _))))
    (first | (refine step_append_lies _ (by rfl) (.tmp 28) (.tmp 31) _ (by rfl) wF.heap.size 22 i0 _ 1 16 Tryz.underlying31 HI0.out HA0.out HB0.out HC0.out rfl (by omega) u9 k (strs LA) (by rfl) (by repeat (first | (with_reducible exact hOA) | (with_reducible refine World.ownsRow.drew ?_) | (with_reducible refine World.ownsRow.alloc ?_ _))) _ 1 1 [.string (E l1')] (by rfl) rfl (Blk.cells (T := 22) (by first | exact blkN (by simp) | exact (blkN (by simp)).alloc _)) (by simp [Value.oneCell']) (by omega) (by simp only [maxLen]; omega) (by omega) (by simp; omega) _ rfl ?_; intro ga ca wa hownA hgrowA hatA hltA; have hOBa : wa.ownsRow wF.heap.size 22 1 u10 k (strs LB) := own_keep2 (by repeat (first | (with_reducible exact hOB) | (with_reducible refine World.ownsRow.drew ?_) | (with_reducible refine World.ownsRow.alloc ?_ _))) hgrowA (fun g hv e => HDJ.out g e hv); have hCa : CA wa [(⟨g12, 0, none⟩, .string (E l1')), (⟨g12, 1, none⟩, .string (E l2'))] := CA.grown (by repeat (first | (with_reducible exact hC) | (with_reducible refine CA.drew ?_) | (with_reducible refine CA.alloc ?_ _))) hgrowA HNA.out; have hBa : Below wF.heap.size wF wa := Below.grown (by repeat (first | (with_reducible exact hBx) | (with_reducible refine Below.drew ?_) | (with_reducible refine Below.alloc ?_ (by first | omega | (simp; omega)) _))) hgrowA (by simp; omega) (fun g hg => (own_lt hOA hg).2); have hsa := hgrowA.size; have hsb := hBa.size; have HDA : Hid (∀ g, u10.ownBlock = some g → g ≠ ga) := (fun g hg e => by subst e; rcases hatA with h | h; exact HDJ.out _ h hg; exact absurd (own_lt hOB hg).1 (by first | omega | (simp at h; omega))); (try (have hLB0 : Blk wa wv.heap.size 22 [.string (E l2')] := Blk.grown (by first | exact (blkN (by simp)).alloc _) hgrowA (fun e => by have := (own_lt hOA e).1; omega))); (try (have hLB1 : Blk wa (wv.heap.size + 1) 22 [.string (E l2')] := Blk.grown (by first | exact blkN (by simp)) hgrowA (fun e => by have := (own_lt hOA e).1; omega)))) | (refine step_append_lies _ (by rfl) (.tmp 33) (.tmp 36) _ (by rfl) wF.heap.size 22 i0 _ 1 16 Tryz.underlying31 HI0.out HA0.out HB0.out HC0.out rfl (by omega) u10 k (strs LB) (by rfl) (by repeat (first | (with_reducible exact hOBa) | (with_reducible refine World.ownsRow.drew ?_) | (with_reducible refine World.ownsRow.alloc ?_ _))) _ 1 1 [.string (E l2')] (by rfl) rfl (Blk.cells (T := 22) (by first | exact blkN (by simp) | exact hLB0 | exact hLB1)) (by simp [Value.oneCell']) (by omega) (by simp only [maxLen]; omega) (by omega) (by have := hBa.size; simp; omega) _ rfl ?_; intro gb cb wb hownB hgrowB hatB hltB; have hAb : wb.ownsRow wF.heap.size 22 1 (.slice (some ⟨ga, 0, none⟩) (k + 1) ca) (k + 1) (strs LA ++ [.string (E l1')]) := own_keep2 (by repeat (first | (with_reducible exact hownA) | (with_reducible refine World.ownsRow.drew ?_) | (with_reducible refine World.ownsRow.alloc ?_ _))) hgrowB (fun g hv e => HDA.out g e (by have e1 : ga = g := (by simpa [Value.ownBlock] using hv); exact e1.symm)); have hCb : CA wb [(⟨g12, 0, none⟩, .string (E l1')), (⟨g12, 1, none⟩, .string (E l2'))] := CA.grown (by repeat (first | (with_reducible exact hCa) | (with_reducible refine CA.drew ?_) | (with_reducible refine CA.alloc ?_ _))) hgrowB HNB.out; have hBb : Below wF.heap.size wF wb := Below.grown (by repeat (first | (with_reducible exact hBa) | (with_reducible refine Below.drew ?_) | (with_reducible refine Below.alloc ?_ (by have := hBa.size; first | omega | (simp; omega)) _))) hgrowB (by have := hBa.size; simp; omega) (fun g hg => (own_lt hOBa hg).2)))
   all_goals
    have HDB : Hid (∀ g, (Value.slice (some ⟨ga, 0, none⟩) (k + 1) ca).ownBlock = some g → (Value.slice (some ⟨gb, 0, none⟩) (k + 1) cb).ownBlock ≠ some g) := by
     intro g h1 h2
     have e1 : ga = g := by simpa [Value.ownBlock] using h1
     have e2 : gb = g := by simpa [Value.ownBlock] using h2
     have hlA := (own_lt hownA h1).1
     rcases hatB with h | h
     ·exact HDA.out gb h (e2.trans e1.symm)
     ·first | omega | (simp at h; omega)
    have hRA : NOwn wb wF.heap.size (.slice (some ⟨ga, 0, none⟩) (k + 1) ca) (LA ++ [l1']) := by rw [NOwn, List.length_append, HLA.out, ← strs_app]; exact hAb
    have hRB : NOwn wb wF.heap.size (.slice (some ⟨gb, 0, none⟩) (k + 1) cb) (LB ++ [l2']) := by rw [NOwn, List.length_append, HLB.out, ← strs_app]; exact hownB
    rw [show LA ++ [l1'] = ((N.lims C K).take (k + 1)).map (·.1) by rw [HST1.out]] at hRA
    rw [show LB ++ [l2'] = ((N.lims C K).take (k + 1)).map (·.2) by rw [HST2.out]] at hRB
    clear hAb hownB hownA hatA hatB hgrowA hgrowB hltA hltB hCa hCb
    go_wp2
    go_roundw
    case rel => exact ⟨k + 1, by omega, by go_num, ⟨hRA, hRB, HDB.out, hBb⟩⟩
    case measure => simp [intOf]; omega
  ·obtain rfl : n = k := by omega
   have HTK : Hid ((N.lims C K).take n = N.lims C K) := List.take_of_length_le (by rw [← HN.out]; omega)
   rw [HTK.out] at hI
   have hszF := hBW.size
   go_wp2
   go_ret3
   exact ⟨_, _, rfl, own_mono hI.a hszF, own_mono hI.z hszF, bt hBW hI.b⟩
end Go.Proofs.YtehoiholhkfcpaaGreat
end

section
/- Powers of powers in a group, for exponents of either sign. Plain Lean. -/
set_option linter.unusedVariables false
set_option linter.unusedSimpArgs false
namespace Go.Proofs.YtehoiholhkfcpaaGreat

theorem pow_one_of (y q k p : Nat) (h : y ^ q % p = 1 % p) : (y ^ k % p) ^ q % p = 1 % p := by
 rw [← Nat.pow_mod, ← Nat.pow_mul, Nat.mul_comm, Nat.pow_mul, Nat.pow_mod, h, ← Nat.pow_mod, Nat.one_pow]

theorem inv_pow_one (b y q p : Nat) (hb : b ^ q % p = 1 % p) (hy : b * y % p = 1 % p) : y ^ q % p = 1 % p := by
 have h1 : (b * y) ^ q % p = 1 % p := by rw [Nat.pow_mod, hy, ← Nat.pow_mod, Nat.one_pow]
 rw [Nat.mul_pow, Nat.mul_mod, hb, ← Nat.mul_mod, Nat.one_mul] at h1
 exact h1

theorem hasB_of {p q x : Nat} (hq : 0 < q) (hp : 2 ≤ p) (hx : x < p) (h : x ^ q % p = 1 % p) : hasB p q x = true := by
 unfold hasB
 rw [if_neg (by omega), decide_eq_true_iff]
 refine ⟨?_, hx, h⟩
 rintro rfl
 rw [Nat.zero_pow hq, Nat.zero_mod, Nat.mod_eq_of_lt (show 1 < p by omega)] at h
 omega

theorem hasB_pow1 {p q x : Nat} (hq : 0 < q) (h : hasB p q x = true) : x ^ q % p = 1 % p := by
 unfold hasB at h
 rw [if_neg (by omega), decide_eq_true_iff] at h
 exact h.2.2

theorem has_powI {p q x : Nat} (z : Int) (hp : 2 ≤ p) (hq : 0 < q) (h : hasB p q x = true) : hasB p q (powI x z p) = true := by
 have h1 := hasB_pow1 hq h
 have hlt := has_lt h
 unfold powI
 split
 ·refine hasB_of hq hp (Nat.mod_lt _ (by omega)) (pow_one_of _ _ _ _ ?_)
  rw [Nat.mod_eq_of_lt hlt]
  exact inv_pow_one x _ q p h1 (invN_spec x p (by omega) (has_coprime hp h))
 ·exact hasB_of hq hp (Nat.mod_lt _ (by omega)) (pow_one_of _ _ _ _ h1)

theorem unit_pow {u v p : Nat} (k : Nat) (h : u * v % p = 1 % p) : u ^ k * v ^ k % p = 1 % p := by
 rw [← Nat.mul_pow, Nat.pow_mod, h, ← Nat.pow_mod, Nat.one_pow]

theorem unit_coprime {u v p : Nat} (hp : 2 ≤ p) (h : u * v % p = 1 % p) : Nat.gcd u p = 1 := by
 have h2 : Nat.gcd u p ∣ u * v % p := (Nat.dvd_mod_iff (Nat.gcd_dvd_right u p)).2 (Nat.dvd_trans (Nat.gcd_dvd_left u p) (Nat.dvd_mul_right _ _))
 rw [h, Nat.mod_eq_of_lt (by omega)] at h2
 exact Nat.dvd_one.1 h2

theorem inv_pow {u v p : Nat} (k : Nat) (hp : 2 ≤ p) (h : u * v % p = 1 % p) : invN (u ^ k % p % p) p = v ^ k % p := by
 have h1 : u ^ k % p % p * (v ^ k % p) % p = 1 % p := by rw [Nat.mod_mod, ← Nat.mul_mod]; exact unit_pow k h
 exact (inv_eq _ p _ (by omega) (unit_coprime hp h1) (Nat.mod_lt _ (by omega)) h1).symm

theorem pow_pow_mod (u a b p : Nat) : (u ^ a % p) ^ b % p = u ^ (a * b) % p := by
 rw [← Nat.pow_mod, Nat.pow_mul]

theorem powI_powI {p x : Nat} (a b : Int) (hp : 2 ≤ p) (hx : x < p) (hg : Nat.gcd x p = 1) : powI (powI x a p) b p = powI x (a * b) p := by
 have hi : x * invN x p % p = 1 % p := invN_spec x p (by omega) hg
 have hi2 : invN x p * x % p = 1 % p := by rw [Nat.mul_comm]; exact hi
 have e0 : x % p = x := Nat.mod_eq_of_lt hx
 have en : (a * b).natAbs = a.natAbs * b.natAbs := Int.natAbs_mul a b
 by_cases ha : a < 0
 ·by_cases hb : b < 0
  ·have hab : ¬ a * b < 0 := by have := Int.mul_pos_of_neg_of_neg ha hb; omega
   unfold powI
   rw [if_pos ha, if_pos hb, if_neg hab, e0, inv_pow _ hp hi2, pow_pow_mod, en]
  ·by_cases hb0 : b = 0
   ·subst hb0
    rw [Int.mul_zero]
    unfold powI
    simp
   ·have hab : a * b < 0 := Int.mul_neg_of_neg_of_pos ha (by omega)
    unfold powI
    rw [if_pos ha, if_neg hb, if_pos hab, e0, pow_pow_mod, en]
 ·by_cases hb : b < 0
  ·by_cases ha0 : a = 0
   ·subst ha0
    have h1 : invN (1 % p) p = 1 % p := by
     have := inv_pow (u := x) 0 hp hi
     simpa using this
    rw [Int.zero_mul]
    have e1 : powI x 0 p = 1 % p := by unfold powI; rw [if_neg (by decide)]; rfl
    rw [e1]
    unfold powI
    rw [if_pos hb, Nat.mod_mod, h1, ← Nat.pow_mod, Nat.one_pow]
   ·have hab : a * b < 0 := Int.mul_neg_of_pos_of_neg (by omega) hb
    unfold powI
    rw [if_neg ha, if_pos hb, if_pos hab, e0, inv_pow _ hp hi, pow_pow_mod, en]
  ·have hab : ¬ a * b < 0 := by have := Int.mul_nonneg (show 0 ≤ a by omega) (show 0 ≤ b by omega); omega
   unfold powI
   rw [if_neg ha, if_neg hb, if_neg hab, pow_pow_mod, en]

/-- powers stay in the group, also where the order is not known -/
theorem has_powIq {p q x : Nat} (z : Int) (hp : 2 ≤ p) (h : hasB p q x = true) : hasB p q (powI x z p) = true := by
 by_cases hq : q = 0
 ·subst hq
  have hg := has_coprime hp h
  have hx := has_lt h
  have e := powI_powI z (-1) hp hx hg
  have hu : Nat.gcd (powI x z p) p = 1 := by
   have hi : x * invN x p % p = 1 % p := invN_spec x p (by omega) hg
   unfold powI
   rw [Nat.mod_eq_of_lt hx]
   split
   ·have : invN x p ^ z.natAbs % p * (x ^ z.natAbs % p) % p = 1 % p := by rw [← Nat.mul_mod]; exact unit_pow _ (by rw [Nat.mul_comm]; exact hi)
    exact unit_coprime hp this
   ·have : x ^ z.natAbs % p * (invN x p ^ z.natAbs % p) % p = 1 % p := by rw [← Nat.mul_mod]; exact unit_pow _ hi
    exact unit_coprime hp this
  have hl : powI x z p < p := by unfold powI; split <;> exact Nat.mod_lt _ (by omega)
  unfold hasB
  rw [if_pos rfl, decide_eq_true_iff]
  refine ⟨fun h0 => ?_, hl, hu⟩
  rw [h0, Nat.gcd_zero_left] at hu
  omega
 ·exact has_powI z hp (by omega) h

theorem has_mulq {p q x y : Nat} (hp : 2 ≤ p) (hx : hasB p q x = true) (hy : hasB p q y = true) : hasB p q (x * y % p) = true := by
 have hl : x * y % p < p := Nat.mod_lt _ (by omega)
 by_cases hq : q = 0
 ·subst hq
  have h1 : x * invN x p % p = 1 % p := invN_spec x p (by omega) (has_coprime hp hx)
  have h2 : y * invN y p % p = 1 % p := invN_spec y p (by omega) (has_coprime hp hy)
  have h3 : x * y % p * (invN x p * invN y p) % p = 1 % p := by
   rw [Nat.mod_mul_mod, Nat.mul_mul_mul_comm, Nat.mul_mod, h1, h2, ← Nat.mul_mod, Nat.one_mul]
  have hu := unit_coprime hp h3
  unfold hasB
  rw [if_pos rfl, decide_eq_true_iff]
  refine ⟨fun h0 => ?_, hl, hu⟩
  rw [h0, Nat.gcd_zero_left] at hu
  omega
 ·refine hasB_of (by omega) hp hl ?_
  rw [← Nat.pow_mod, Nat.mul_pow, Nat.mul_mod, hasB_pow1 (by omega) hx, hasB_pow1 (by omega) hy, ← Nat.mul_mod, Nat.one_mul]

/-- the product of the first powers -/
def prodK (p : Nat) (L : List Nat) (X : List Int) (k : Nat) : Nat := pw (prs p (L.take k) (X.take k)) 0 % p

theorem prodK_one {p x : Nat} {z : Int} {L : List Nat} {X : List Int} (hx : x < p) : prodK p (x :: L) (z :: X) 1 = powI x z p := by
 unfold prodK
 simp only [List.take_succ_cons, List.take_zero]
 exact pw1_eq z hx

theorem prodK_step {p k : Nat} {L : List Nat} {X : List Int} (h1 : k < L.length) (h2 : k < X.length) (hx : L[k] < p) : prodK p L X k * powI L[k] X[k] p % p = prodK p L X (k + 1) := prodI_step p L X k h1 h2 hx

theorem has_one {p q : Nat} (hp : 2 ≤ p) : hasB p q 1 = true := by
 unfold hasB
 split
 ·rw [decide_eq_true_iff]; exact ⟨by decide, by omega, Nat.gcd_one_left p⟩
 ·rw [decide_eq_true_iff]; exact ⟨by decide, by omega, by rw [Nat.one_pow]⟩

theorem prodK_has {p q : Nat} {L : List Nat} {X : List Int} (hp : 2 ≤ p) (hl : X.length = L.length) (hx : ∀ x ∈ L, hasB p q x = true) : ∀ k, k ≤ L.length → hasB p q (prodK p L X k) = true := by
 intro k
 induction k with
 | zero =>
  intro _
  have : prodK p L X 0 = 1 := by
   unfold prodK
   simp only [List.take_zero, prs, List.zipWith_nil_left, pw]
   exact Nat.mod_eq_of_lt (by omega)
  rw [this]
  exact has_one hp
 | succ k ih =>
  intro h
  have hk : k < L.length := by omega
  have hb := hx _ (List.getElem_mem hk)
  rw [← prodK_step hk (by omega) (has_lt hb)]
  exact has_mulq hp (ih (by omega)) (has_powIq _ hp hb)

theorem prodK_end {p k : Nat} {L : List Nat} {X : List Int} (h1 : L.length ≤ k) (h2 : X.length ≤ k) : prodK p L X k = pw (prs p L X) 0 % p := by
 unfold prodK
 rw [List.take_of_length_le h1, List.take_of_length_le h2]

/-- the message of an equation for a challenge and responses -/
def msgX (c : Nat) (Z : List Int) (q : NEqn) : List Int := -(c : Int) :: imgX Z q
def msgB (q : NEqn) : List Nat := q.tgt :: imgB q
def msgQ (N : NSta) (c : Nat) (Z : List Int) (q : NEqn) : Nat := pw (prs (N.gp q).1 (msgB q) (msgX c Z q)) 0 % (N.gp q).1
def NSta.msgs (N : NSta) (c : Nat) (Z : List Int) : List Nat := N.eqs.map (msgQ N c Z)

theorem msgs_step (N : NSta) (c : Nat) (Z : List Int) (k : Nat) (h : k < N.eqs.length) : (N.msgs c Z).take (k + 1) = (N.msgs c Z).take k ++ [msgQ N c Z N.eqs[k]] := by
 unfold NSta.msgs
 rw [← List.map_take, List.take_succ_eq_append_getElem h, List.map_append, List.map_take]; rfl
theorem msg_len (c : Nat) (Z : List Int) (q : NEqn) : (msgX c Z q).length = (msgB q).length := by simp [msgX, msgB, imgX, imgB]
theorem msg_stepK {p c k : Nat} {Z : List Int} {q : NEqn} (hk : k < q.trms.length) (hp : 2 ≤ p) (hx : q.trms[k].base < p) (hg : Nat.gcd q.trms[k].base p = 1) :
  prodK p (msgB q) (msgX c Z q) (k + 1) * powI (powI q.trms[k].base q.trms[k].coef p) (Z.getD q.trms[k].var 0) p % p = prodK p (msgB q) (msgX c Z q) (k + 2) := by
 have h1 : k + 1 < (msgB q).length := by simp [msgB, imgB]; omega
 have h2 : k + 1 < (msgX c Z q).length := by simp [msgX, imgX]; omega
 have e1 : (msgB q)[k + 1] = q.trms[k].base := by simp [msgB, imgB]
 have e2 : (msgX c Z q)[k + 1] = q.trms[k].coef * Z.getD q.trms[k].var 0 := by simp [msgX, imgX]
 rw [powI_powI _ _ hp hx hg, ← e1, ← e2]
 exact prodK_step h1 h2 (by rw [e1]; exact hx)
end Go.Proofs.YtehoiholhkfcpaaGreat
end

section
set_option linter.unusedVariables false
set_option linter.unusedSimpArgs false
set_option maxRecDepth 100000
namespace Go.Proofs.YtehoiholhkfcpaaGreat
open Go.RowKit Go.Shelf

set_option maxHeartbeats 1600000 in
theorem idx_sin (l : List (Bool × ByteArray)) (p : (Bool × ByteArray) → Bool) (v : Value) (w : World) (hn : l.length ≤ 1000) (hR : IsAt w v l)
  (hf : ∀ k (hk : k < l.length) (w' : World), Below w.heap.size w w' → Calls Tryz.prog 52 #[.agg #[.bool (l[k]'hk).1, .string (l[k]'hk).2]] w' fun e w'' => e = .returned (.bool (p (l[k]'hk))) ∧ Below w'.heap.size w' w'') :
  Calls Tryz.prog 103 #[v, .func (.func 52) #[] #[]] w (IPost (l.any p) w) := by
 obtain ⟨ao, c, rfl⟩ := RAt.form hR
 obtain ⟨n, hn'⟩ : ∃ n, n = l.length := ⟨_, rfl⟩
 have HN := Lib.hid hn'
 rw [← hn'] at hR hn ⊢
 clear hn'
 have HF := Lib.hid hf
 clear hf
 go_enter Tryz.func103, Tryz.ntmps103
 go_wp2
 go_loopw [8] (fun i wr => ∃ k : Nat, k ≤ n ∧ i = .int .i64 k ∧ Hid ((l.take k).any p = false) ∧ Below w.heap.size w wr) (fun i _ => n - (intOf i).toNat)
 case atStart => exact ⟨0, by omega, rfl, rfl, Below.refl _ _⟩
 case round =>
  obtain ⟨k, hk, rfl, HA, hbr⟩ := hrel
  obtain ⟨wp, hwp⟩ : ∃ wp, wp = wr := ⟨_, rfl⟩
  subst hwp
  replace hR := IsAt.after hR hbr
  by_cases hlt : k < n
  ·have hkl : k < l.length := by rw [← HN.out]; exact hlt
   have HT := Lib.hid (any_take p l k hkl)
   have HB : Hid (p (l[k]'hkl) = true → l.any p = true) := any_hit p l k hkl
   obtain ⟨b, o, rfl, hbl, x1, x2⟩ := IsAt.at_ hR hkl
   have HC := Lib.hid (HF.out k hkl _ hbr)
   generalize p (l[k]'hkl) = pk at HT HB HC
   generalize (l[k]'hkl) = x at x1 x2 HC
   obtain ⟨y1, y2⟩ := x
   simp only [] at x1 x2 HC
   have h0k : (0 : Int) ≤ (k : Int) := by omega
   have h1k : (k : Int) < (n : Int) := by omega
   clear hR
   cases pk
   ·have HX : Hid ((l.take (k + 1)).any p = false) := by rw [Hid, HT.out, HA.out]; rfl
    clear HT HB
    go_wp2_with fail
    refine (HC.out).mono ?_
    rintro e w2 ⟨rfl, hb2⟩
    go_wp2
    go_roundw
    case rel => exact ⟨k + 1, by omega, by go_num, HX, bt hbr hb2⟩
    case measure => simp [intOf]; omega
   ·have HX : Hid (l.any p = true) := HB.out rfl
    clear HT HB
    go_wp2_with fail
    refine (HC.out).mono ?_
    rintro e w2 ⟨rfl, hb2⟩
    go_wp2
    go_ret
    exact ⟨(k : Int), rfl, by rw [HX.out]; exact decide_eq_true h0k, bt hbr hb2⟩
  ·have HX : Hid (l.any p = false) := any_end p l k (by rw [← HN.out]; omega) HA.out
   go_wp2
   go_ret
   exact ⟨-1, rfl, by rw [HX.out]; rfl, hbr⟩

set_option maxHeartbeats 800000 in
theorem cont_sin (l : List (Bool × ByteArray)) (p : (Bool × ByteArray) → Bool) (b : Bool) (v : Value) (w : World) (hn : l.length ≤ 1000) (hR : IsAt w v l) (hb : l.any p = b)
  (hf : ∀ k (hk : k < l.length) (w' : World), Below w.heap.size w w' → Calls Tryz.prog 52 #[.agg #[.bool (l[k]'hk).1, .string (l[k]'hk).2]] w' fun e w'' => e = .returned (.bool (p (l[k]'hk))) ∧ Below w'.heap.size w' w'') :
  Calls Tryz.prog 51 #[v, .func (.func 52) #[] #[]] w fun e w' => e = .returned (.bool b) ∧ Below w.heap.size w w' := by
 have HE := Lib.hid (idx_sin l p v w hn hR hf)
 rw [hb] at HE
 obtain ⟨ao, c, rfl⟩ := RAt.form hR
 generalize l.length = n at HE
 clear hn hR hf hb
 go_enter Tryz.func51, Tryz.ntmps51
 go_wp2_with fail
 refine HE.out.mono ?_
 rintro e w1 ⟨i, rfl, hi, hb1⟩
 have HI := Lib.hid hi
 clear hi
 cases b
 ·have hi : decide (0 ≤ i) = false := HI.out
  go_wp2
  go_ret
  exact ⟨rfl, hb1⟩
 ·have hi : decide (0 ≤ i) = true := HI.out
  go_wp2
  go_ret
  exact ⟨rfl, hb1⟩

set_option maxHeartbeats 800000 in
theorem sin1_c (b : Bool) (s : ByteArray) (w : World) (hm : s.size ≤ 1000) :
  Calls Tryz.prog 52 #[.agg #[.bool b, .string s]] w fun e w' => e = .returned (.bool (!ivB b s)) ∧ Below w.heap.size w w' := by
 have HV : Hid (∀ w, Calls Tryz.prog 53 #[.agg #[.bool b, .string s]] w fun e w' => e = .returned (.bool (ivB b s)) ∧ Below w.heap.size w w') := fun w => ivalid_c b s w (by omega)
 generalize ivB b s = r at HV
 clear hm
 go_enter Tryz.func52, Tryz.ntmps52
 go_wp2_with fail
 refine (HV.out _).mono ?_
 rintro e w1 ⟨rfl, hb1⟩
 cases r
 all_goals
  go_wp2
  go_ret
  exact ⟨rfl, bt (b1 _ _) hb1⟩

/-- all integers are canonical -/
def ivsB (l : List (Bool × ByteArray)) : Bool := l.all fun x => ivB x.1 x.2
theorem ivs_any (l : List (Bool × ByteArray)) : (l.any fun x => !ivB x.1 x.2) = !ivsB l := by
 unfold ivsB
 induction l with
 | nil => rfl
 | cons x t ih => simp only [List.any_cons, List.all_cons, ih, Bool.not_and]

set_option maxHeartbeats 800000 in
theorem sints_c (l : List (Bool × ByteArray)) (v : Value) (w : World) (hn : l.length ≤ 1000) (hs : ∀ x ∈ l, x.2.size ≤ 1000) (hR : IsAt w v l) :
  Calls Tryz.prog 22 #[v] w fun e w' => e = .returned (.bool (ivsB l)) ∧ Below w.heap.size w w' := by
 have HC := Lib.hid (cont_sin l (fun x => !ivB x.1 x.2) _ v w hn hR (ivs_any l) (fun k hk w' hb => sin1_c _ _ w' (hs _ (List.getElem_mem hk))))
 obtain ⟨ao, c, rfl⟩ := RAt.form hR
 generalize l.length = n at HC
 generalize ivsB l = r at HC
 clear hn hs hR
 go_enter Tryz.func22, Tryz.ntmps22
 go_wp2_with fail
 refine HC.out.mono ?_
 rintro e w1 ⟨rfl, hb1⟩
 cases r
 all_goals
  go_wp2
  go_ret
  exact ⟨rfl, hb1⟩

theorem sints_num (Z : List Int) (h : ∀ z ∈ Z, z.natAbs < 256 ^ 128) : ivsB (Z.map zI) = true := by
 unfold ivsB
 rw [List.all_eq_true]
 intro x hx
 obtain ⟨z, hz, rfl⟩ := List.mem_map.1 hx
 exact ivB_I z (h z hz)

set_option maxHeartbeats 1600000 in
theorem admits_c (vb bd : Nat) (z : Int) (w : World) (hb : bd < 256 ^ 128) (hz : z.natAbs < 256 ^ 128) :
  Calls Tryz.prog 24 #[.agg #[.string (E vb)], .string (E bd), .agg #[.bool (sg (z)), .string (E (z).natAbs)]] w fun e w' => e = .returned (.bool (blw vb z bd)) ∧ Below w.heap.size w w' := by
 have HC : Hid (∀ w, Calls Tryz.prog 23 #[.string (E z.natAbs), .string (E bd)] w fun e w' => e = .returned (.int .i64 (cmpN z.natAbs bd)) ∧ w = w') := fun w => cmp_c _ _ w hz hb
 have hA := blk2a w #[.string (E vb)] #[.bool (sg z), .string (E z.natAbs)] 64 53
 have hB := blk2b w #[.string (E vb)] #[.bool (sg z), .string (E z.natAbs)] 64 53
 have hBW := b2 w (.cells #[.string (E vb)] 64) (.cells #[.bool (sg z), .string (E z.natAbs)] 53)
 obtain ⟨q1, hq1⟩ : ∃ q : Int, q = cmpN z.natAbs bd := ⟨_, rfl⟩
 rw [← hq1] at HC
 by_cases hl : z.natAbs < bd
 ·have hd1 : decide (q1 < 0) = true := decide_eq_true (by rw [hq1]; exact cmp_neg _ _ hl)
  clear hq1
  by_cases hv : vb = 0
  ·have HR : Hid (blw vb z bd = !(sg z)) := by rw [Hid, hv]; exact blw_zero hl
   have hzv := zE hv
   rw [HR.out]
   obtain ⟨s, hs⟩ : ∃ s, s = sg z := ⟨_, rfl⟩
   rw [← hs] at hB hBW ⊢
   clear hl hb hz hv HR hs
   obtain ⟨hAc0, hAf0⟩ := hA.x1
   obtain ⟨hBc0, hBf0, hBc1, hBf1⟩ := hB.x2
   go_enter Tryz.func24, Tryz.ntmps24
   go_wp2_with fail
   refine (HC.out _).mono ?_
   rintro e w' ⟨rfl, rfl⟩
   cases s
   all_goals
    go_wp2
    go_ret
    exact ⟨rfl, hBW⟩
  ·have HR : Hid (blw vb z bd = true) := blw_pos hl (Nat.pos_of_ne_zero hv)
   have hzv := nzE (Nat.pos_of_ne_zero hv)
   rw [HR.out]
   clear hl hb hz hv HR
   obtain ⟨hAc0, hAf0⟩ := hA.x1
   obtain ⟨hBc0, hBf0, hBc1, hBf1⟩ := hB.x2
   go_enter Tryz.func24, Tryz.ntmps24
   go_wp2_with fail
   refine (HC.out _).mono ?_
   rintro e w' ⟨rfl, rfl⟩
   go_wp2
   go_ret
   exact ⟨rfl, hBW⟩
 ·have hd1 : decide (q1 < 0) = false := decide_eq_false (by rw [hq1]; exact cmp_nneg _ _ (by omega))
  have HR : Hid (blw vb z bd = false) := blw_ge (by omega)
  rw [HR.out]
  clear hq1 hl hb hz HR
  obtain ⟨hAc0, hAf0⟩ := hA.x1
  obtain ⟨hBc0, hBf0, hBc1, hBf1⟩ := hB.x2
  go_enter Tryz.func24, Tryz.ntmps24
  go_wp2_with fail
  refine (HC.out _).mono ?_
  rintro e w' ⟨rfl, rfl⟩
  go_wp2
  go_ret
  exact ⟨rfl, hBW⟩

set_option maxHeartbeats 1600000 in
theorem sBounds_err (C K : ByteArray) (v1 v2 v3 : Value) (k : Nat) (w : World) (hk : k ≠ 0)
  (hch : ∀ w', Below w.heap.size w w' → Calls Tryz.prog 50 #[.agg #[.string C, .string K], .agg #[v1, v2, v3]] w' fun e w'' => e = .returned (.tuple #[.slice none 0 0, .int .i64 k]) ∧ Below w'.heap.size w' w'') :
  Calls Tryz.prog 20 #[.agg #[.string C, .string K], .agg #[v1, v2, v3]] w fun e w' => e = .returned (.tuple #[.slice none 0 0, .slice none 0 0, .int .i64 k]) ∧ Below w.heap.size w w' := by
 have HCH := Lib.hid hch
 have hkb : ((k : Int) != 0) = true := by rw [bne_iff_ne]; omega
 have hR := blk2a w #[.string C, .string K] #[v1, v2, v3] 24 29
 have hP := blk2b w #[.string C, .string K] #[v1, v2, v3] 24 29
 have hBW := b2 w (.cells #[.string C, .string K] 24) (.cells #[v1, v2, v3] 29)
 clear hch hk
 obtain ⟨hRc0, hRf0, hRc1, hRf1⟩ := hR.x2
 obtain ⟨hPc0, hPf0, hPc1, hPf1, hPc2, hPf2⟩ := hP.x3
 go_enter Tryz.func20, Tryz.ntmps20
 go_wp2_with fail
 refine (HCH.out _ hBW).mono ?_
 rintro e w2 ⟨rfl, hb2⟩
 go_wp2
 go_ret3
 exact ⟨rfl, bt hBW hb2⟩

end Go.Proofs.YtehoiholhkfcpaaGreat
end

section
set_option linter.unusedVariables false
set_option linter.unusedSimpArgs false
set_option maxRecDepth 100000
namespace Go.Proofs.YtehoiholhkfcpaaGreat
open Go.RowKit Go.Shelf

theorem msgX_lt {N : NSta} (hm : NOk N) (c : Nat) (Z : List Int) (hc : c < 256 ^ 128) (hz : ∀ z ∈ Z, z.natAbs < 256 ^ 64) (q : NEqn) (hq : q ∈ N.eqs) : ∀ z ∈ msgX c Z q, z.natAbs < 256 ^ 128 := by
 intro z hzz
 rcases List.mem_cons.1 hzz with h | h
 ·rw [h, Int.natAbs_neg, Int.natAbs_natCast]; exact hc
 ·exact imgX_lt hm Z hz q hq z h

theorem negN (c : Nat) (w : World) (hc : c < 256 ^ 128) : Calls Tryz.prog 56 #[.agg #[.bool false, .string (E c)]] w fun e w' => e = .returned (.agg #[.bool (sg (-(c : Int))), .string (E c)]) ∧ Below w.heap.size w w' := by
 have h := inegS_c (c : Int) w (by rw [Int.natAbs_natCast]; exact hc)
 rwa [Int.natAbs_natCast, sg_nat] at h

theorem fromN (c : Nat) (w : World) (hc : c < 256 ^ 128) : Calls Tryz.prog 36 #[.string (E c)] w fun e w' => e = .returned (.agg #[.bool false, .string (E c)]) ∧ Below w.heap.size w w' := by
 have h := ifrom_c c w hc
 rwa [Int.natAbs_natCast, sg_nat] at h

theorem expN (p q x c : Nat) (w : World) (hp : p < 256 ^ 8) (hq : q < 256 ^ 128) (he : grpE p q = 0) (hx : hasB p q x = true) (hc : c < 256 ^ 128) :
  Calls Tryz.prog 55 #[.agg #[.string (E p), .string (E q)], .string (E x), .agg #[.bool (sg (-(c : Int))), .string (E c)]] w fun e w' => e = .returned (.tuple #[.string (E (powI x (-(c : Int)) p)), .int .i64 0]) ∧ Below w.heap.size w w' := by
 have h := pexp_c p q x (-(c : Int)) w hp hq he hx (by rw [Int.natAbs_neg, Int.natAbs_natCast]; exact hc)
 rwa [Int.natAbs_neg, Int.natAbs_natCast] at h

set_option maxHeartbeats 8000000 in
theorem messages_c (N : NSta) (c : Nat) (Z : List Int) (v1 v2 v3 v4 : Value) (w : World) (hm : NOk N) (hS : NAt w v1 v2 v3 N) (hZ : ZsAt w v4 Z) (hz : ∀ z ∈ Z, z.natAbs < 256 ^ 64) (hl : Z.length = N.vars.length) (hc : N.chk = 0) (hcc : c < 256 ^ 128) :
  Calls Tryz.prog 25 #[.agg #[v1, v2, v3], .string (E c), v4] w fun e w' => ∃ v, e = .returned v ∧ NOwn w' w.heap.size v (N.msgs c Z) ∧ Below w.heap.size w w' := by
 obtain ⟨i0, hi0, hz00, hz01, hz02⟩ := info_parts info_nat
 have HI0 := Lib.hid hi0
 have HA0 := Lib.hid hz00
 have HB0 := Lib.hid hz01
 have HC0 := Lib.hid hz02
 clear hi0 hz00 hz01 hz02
 obtain ⟨a4, c4, rfl⟩ := hZ.form
 have HZZ := Lib.hid hz
 have HL := Lib.hid hl
 have HCK := Lib.hid hc
 have HCC := Lib.hid hcc
 have HFR : Hid (∀ w, Calls Tryz.prog 36 #[.string (E c)] w fun e w' => e = .returned (.agg #[.bool false, .string (E c)]) ∧ Below w.heap.size w w') := fun w => fromN c w hcc
 obtain ⟨sn, hsn⟩ : ∃ s, s = sg (-(c : Int)) := ⟨_, rfl⟩
 have HNE : Hid (∀ w, Calls Tryz.prog 56 #[.agg #[.bool false, .string (E c)]] w fun e w' => e = .returned (.agg #[.bool sn, .string (E c)]) ∧ Below w.heap.size w w') := fun w => by rw [hsn]; exact negN c w hcc
 have HSN := Lib.hid hsn
 rw [hl] at hZ ⊢
 clear hz hl hc hcc hsn
 obtain ⟨a1, c1, a2, c2, a3, c3, rfl, rfl, rfl⟩ := hS.forms
 obtain ⟨n1, hn1⟩ : ∃ n, n = N.grps.length := ⟨_, rfl⟩
 obtain ⟨n2, hn2⟩ : ∃ n, n = N.vars.length := ⟨_, rfl⟩
 obtain ⟨n3, hn3⟩ : ∃ n, n = N.eqs.length := ⟨_, rfl⟩
 have HN1 := Lib.hid hn1
 have HN2 := Lib.hid hn2
 have HN3 := Lib.hid hn3
 have l1 : n1 ≤ 10 := by rw [hn1]; exact hm.ng
 have l2 : n2 ≤ 12 := by rw [hn2]; exact hm.nv
 have l3 : n3 ≤ 12 := by rw [hn3]; exact hm.ne
 have HM := Lib.hid hm
 rw [← hn1, ← hn2, ← hn3] at hS ⊢
 clear hm hn1 hn2 hn3
 rw [← HN2.out] at hZ
 have hP := Blk.new w #[.slice a1 n1 c1, .slice a2 n2 c2, .slice a3 n3 c3] 29
 have hBW := b1 w (.cells #[.slice a1 n1 c1, .slice a2 n2 c2, .slice a3 n3 c3] 29)
 replace hS := hS.after hBW
 replace hZ := hZ.after hBW
 obtain ⟨hPc0, hPf0, hPc1, hPf1, hPc2, hPf2⟩ := hP.x3
 go_enter Tryz.func25, Tryz.ntmps25
 go_wp2
 clear hPc0 hPf0 hPc1 hPf1 hPc2 hPf2
 generalize hw1 : w.alloc (.cells #[.slice a1 n1 c1, .slice a2 n2 c2, .slice a3 n3 c3] 29) = w1 at hP hBW hS hZ
 replace hP : Blk w1 w.heap.size 29 [.slice a1 n1 c1, .slice a2 n2 c2, .slice a3 n3 c3] := hP
 clear hw1
 go_loopw [7, 20] (fun v7 i wr => ∃ k : Nat, k ≤ n3 ∧ i = .int .i64 k ∧ NOwn wr w1.heap.size v7 ((N.msgs c Z).take k) ∧ Below w1.heap.size w1 wr) (fun _ i _ => n3 - (intOf i).toNat)
 case atStart => exact ⟨0, by omega, rfl, World.ownsRow_nil _ _ _ _, Below.refl _ _⟩
 case round =>
  obtain ⟨k, hk, rfl, hO, hbr⟩ := hrel
  obtain ⟨wp, hwp⟩ : ∃ wp, wp = wr := ⟨_, rfl⟩
  subst hwp
  have hS1 := hS.after hbr
  have hP1 := hP.after hbr
  have hZ1 := hZ.after hbr
  have hBW1 := bt hBW hbr
  by_cases hlt : k < n3
  ·have hkl : k < N.eqs.length := by rw [← HN3.out]; exact hlt
   have HSZ := Lib.hid (HM.out.e _ (List.getElem_mem hkl))
   have HCE := Lib.hid (chk_elem HCK.out k hkl HSZ.out.1)
   have HXL := Lib.hid (msgX_lt HM.out c Z HCC.out HZZ.out _ (List.getElem_mem hkl))
   have HST := Lib.hid (msgs_step N c Z k hkl)
   obtain ⟨b, o, tv, rfl, hbl, x1, x2, x3, hTs⟩ := hS1.eat hkl
   generalize (N.eqs[k]'hkl) = q at x1 x2 x3 hTs HSZ HCE HXL HST
   have hgl := HSZ.out.1
   have hgn : q.grp < n1 := by rw [HN1.out]; exact hgl
   have HGP := Lib.hid (gp_at N q hgl)
   have HGZ := Lib.hid (HM.out.g _ (List.getElem_mem hgl))
   have HMV : Hid (msgQ N c Z q = pw (prs (N.grps[q.grp]'hgl).1 (msgB q) (msgX c Z q)) 0 % (N.grps[q.grp]'hgl).1) := by rw [Hid, msgQ, HGP.out]
   obtain ⟨b', o', rfl, hbl', y1, y2⟩ := hS1.gat hgl
   generalize (N.grps[q.grp]'hgl) = gg at y1 y2 HGZ HCE HMV
   clear hgl HGP
   obtain ⟨p, qq⟩ := gg
   simp only [] at y1 y2
   obtain ⟨to_, tc, rfl⟩ := hTs.form
   obtain ⟨n4, hn4⟩ : ∃ n, n = q.trms.length := ⟨_, rfl⟩
   have HN4 := Lib.hid hn4
   have l4 : n4 ≤ 12 := by rw [hn4]; exact HSZ.out.2.2.1
   rw [← hn4] at x3 hTs
   clear hn4
   have HP2 : Hid (2 ≤ p) := grp_gt HCE.out.1
   have HXI : Hid (prodK p (msgB q) (msgX c Z q) 1 = powI q.tgt (-(c : Int)) p) := prodK_one (has_lt HCE.out.2.1)
   have HPH : Hid (∀ j, j ≤ n4 → hasB p qq (prodK p (msgB q) (msgX c Z q) (j + 1)) = true) := fun j hj => prodK_has HP2.out (msg_len c Z q)
    (fun x hx => (List.mem_cons.1 hx).elim (fun h => h ▸ HCE.out.2.1) (fun h => HCE.out.2.2 x h)) _ (by rw [HN4.out] at hj; simp [msgB, imgB]; omega)
   have HPE : Hid (prodK p (msgB q) (msgX c Z q) (n4 + 1) = msgQ N c Z q) := by
    rw [Hid, HMV.out]; exact prodK_end (by rw [HN4.out]; simp [msgB, imgB]) (by rw [HN4.out]; simp [msgX, imgX])
   have HEX : Hid (∀ w, Calls Tryz.prog 55 #[.agg #[.string (E p), .string (E qq)], .string (E q.tgt), .agg #[.bool sn, .string (E c)]] w fun e w' => e = .returned (.tuple #[.string (E (prodK p (msgB q) (msgX c Z q) 1)), .int .i64 0]) ∧ Below w.heap.size w w') := fun w => by
    rw [HSN.out, HXI.out]; exact expN p qq q.tgt c w HGZ.out.1 (lt128 HGZ.out.2) HCE.out.1 HCE.out.2.1 HCC.out
   obtain ⟨qg, hqg⟩ : ∃ g, g = q.grp := ⟨_, rfl⟩
   obtain ⟨qt, hqt⟩ : ∃ g, g = q.tgt := ⟨_, rfl⟩
   rw [← hqg] at x1 y1 y2 hgn
   rw [← hqt] at x2 HEX
   clear hqg hqt HMV HXI
   have h0k : (0 : Int) ≤ (k : Int) := by omega
   have h1k : (k : Int) < (n3 : Int) := by omega
   have h0g : (0 : Int) ≤ (qg : Int) := by omega
   have h1g : (qg : Int) < (n1 : Int) := by omega
   have hB := blk2a wp #[.int .i64 (qg : Int), .string (E qt), .slice to_ n4 tc] #[.string (E p), .string (E qq)] 95 90
   have hG := blk2b wp #[.int .i64 (qg : Int), .string (E qt), .slice to_ n4 tc] #[.string (E p), .string (E qq)] 95 90
   have hb9 := b2 wp (.cells #[.int .i64 (qg : Int), .string (E qt), .slice to_ n4 tc] 95) (.cells #[.string (E p), .string (E qq)] 90)
   have hz1 := ((b1 wp (.cells #[.int .i64 (qg : Int), .string (E qt), .slice to_ n4 tc] 95)).cell (p := ⟨b', o' + qg * 2, none⟩) hbl').trans y1
   have hz2 := ((b1 wp (.cells #[.int .i64 (qg : Int), .string (E qt), .slice to_ n4 tc] 95)).cell (p := ⟨b', o' + qg * 2 + 1, none⟩) hbl').trans y2
   have hP1l := hP1.lt
   obtain ⟨hP1c0, hP1f0, hP1c1, hP1f1, hP1c2, hP1f2⟩ := hP1.x3
   go_upto_region 6 with fail
   clear hP1c0 hP1f0 hP1c1 hP1f1 hP1c2 hP1f2
   clear hP1l
   have hO1 := own_after hO hb9
   have hZ2 := hZ1.after hb9
   have hT2 := hTs.after hb9
   have hb10 := bt hbr hb9
   clear x1 x2 x3 y1 y2 hz1 hz2 hbl hbl' hS1 hO hP1 hZ1 hTs
   generalize (wp.alloc (.cells #[.int .i64 (qg : Int), .string (E qt), .slice to_ n4 tc] 95)).alloc (.cells #[.string (E p), .string (E qq)] 90) = wa at hB hG hb9 hO1 hZ2 hT2 hb10 ⊢
   obtain ⟨ge, hge⟩ : ∃ g, wp.heap.size = g := ⟨_, rfl⟩
   rw [hge] at hB hG ⊢
   clear hge hb9
   replace hB : Blk wa ge 95 [.int .i64 (qg : Int), .string (E qt), .slice to_ n4 tc] := hB
   replace hG : Blk wa (ge + 1) 90 [.string (E p), .string (E qq)] := hG
   have hBl := hB.lt
   have hGl := hG.lt
   obtain ⟨hBc0, hBf0, hBc1, hBf1, hBc2, hBf2⟩ := hB.x3
   obtain ⟨hGc0, hGf0, hGc1, hGf1⟩ := hG.x2
   have hBg0 := hB.gcell 0
   have hBg1 := hB.gcell 1
   have hBg2 := hB.gcell 2
   have hGg0 := hG.gcell 0
   have hGg1 := hG.gcell 1
   go_wp2_with fail
   refine wp_region_gw (by kernel_rfl) (by kernel_rfl) ?_
   repeat (go_big_quiet_step (first | (go_at_call 36; exact gw_of (HFR.out _)) | (go_at_call 56; exact gw_of (HNE.out _)) | (go_at_call 55; exact gw_of (HEX.out _))))
   refine wpQuiet_nil ?_
   rintro w9 ⟨xw9, rfl⟩
   have hb9 := gw_below xw9
   generalize gw xw9 = w9 at hb9
   clear hBc0 hBf0 hBc1 hBf1 hBc2 hBf2
   clear hGc0 hGf0 hGc1 hGf1
   clear hBg0 hBg1 hBg2
   clear hGg0 hGg1
   clear HEX hBl hGl
   replace hB := hB.after hb9
   replace hG := hG.after hb9
   replace hO1 := own_after hO1 hb9
   replace hZ2 := hZ2.after hb9
   replace hT2 := hT2.after hb9
   replace hb10 := bt hb10 hb9
   clear hb9
   obtain ⟨hBc0, hBf0, hBc1, hBf1, hBc2, hBf2⟩ := hB.x3
   go_wp2
   clear hBc0 hBf0 hBc1 hBf1 hBc2 hBf2
   go_loopw [11, 43] (fun v11 i wr => ∃ j : Nat, j ≤ n4 ∧ i = .int .i64 j ∧ v11 = .string (E (prodK p (msgB q) (msgX c Z q) (j + 1))) ∧ Below w9.heap.size w9 wr) (fun _ i _ => n4 - (intOf i).toNat)
   case atStart => exact ⟨0, by omega, rfl, rfl, Below.refl _ _⟩
   case round =>
    obtain ⟨j, hj, rfl, rfl, hbs⟩ := hrel
    obtain ⟨wu, hwu⟩ : ∃ wu, wu = wr := ⟨_, rfl⟩
    subst hwu
    have hG1 := hG.after hbs
    by_cases hlj : j < n4
    ·have hjl : j < q.trms.length := by rw [← HN4.out]; exact hlj
     have HTE := Lib.hid (HSZ.out.2.2.2 _ (List.getElem_mem hjl))
     have HTB : Hid (hasB p qq (q.trms[j]'hjl).base = true) := HCE.out.2.2 _ (List.mem_map_of_mem (List.getElem_mem hjl))
     have HSK : Hid (prodK p (msgB q) (msgX c Z q) (j + 1) * powI (powI (q.trms[j]'hjl).base (q.trms[j]'hjl).coef p) (Z.getD (q.trms[j]'hjl).var 0) p % p = prodK p (msgB q) (msgX c Z q) (j + 2)) := msg_stepK hjl HP2.out (has_lt HTB.out) (has_coprime HP2.out HTB.out)
     have hvl : (q.trms[j]'hjl).var < Z.length := by rw [HL.out]; exact HTE.out.2.1
     obtain ⟨bt_, ot, rfl, hbt, t1, t2, t3, t4⟩ := (hT2.after hbs).at_ hjl
     obtain ⟨bz, oz, rfl, hbz, z1, z2⟩ := (hZ2.after hbs).at_ hvl
     have hvn : (q.trms[j]'hjl).var < n2 := by rw [HN2.out, ← HL.out]; exact hvl
     have HZL : Hid ((Z[(q.trms[j]'hjl).var]'hvl).natAbs < 256 ^ 128) := lt64 (HZZ.out _ (List.getElem_mem hvl))
     have HZG : Hid (Z.getD (q.trms[j]'hjl).var 0 = Z[(q.trms[j]'hjl).var]'hvl) := by rw [Hid, List.getD_eq_getElem?_getD, List.getElem?_eq_getElem hvl]; rfl
     rw [HZG.out] at HSK
     generalize Z[(q.trms[j]'hjl).var]'hvl = zr at z1 z2 HZL HSK
     clear HZG hvl
     generalize (q.trms[j]'hjl) = tt at t1 t2 t3 t4 HTE HTB HSK hvn z1 z2
     obtain ⟨tb, tv, tz⟩ := tt
     simp only [] at t1 t2 t3 t4 HTE HTB HSK hvn z1 z2
     have HY1 : Hid (∀ w, Calls Tryz.prog 55 #[.agg #[.string (E p), .string (E qq)], .string (E tb), .agg #[.bool (sg (tz)), .string (E (tz).natAbs)]] w fun e w' => e = .returned (.tuple #[.string (E (powI tb tz p)), .int .i64 0]) ∧ Below w.heap.size w w') := fun w => pexp_c p qq tb tz w HGZ.out.1 (lt128 HGZ.out.2) HCE.out.1 HTB.out (Nat.lt_of_lt_of_le HTE.out.2.2 (Nat.pow_le_pow_right (by decide) (by decide)))
     have HB1 : Hid (hasB p qq (powI tb tz p) = true) := has_powIq tz HP2.out HTB.out
     generalize powI tb tz p = ya at HY1 HB1 HSK
     have HY2 : Hid (∀ w, Calls Tryz.prog 55 #[.agg #[.string (E p), .string (E qq)], .string (E ya), .agg #[.bool (sg (zr)), .string (E (zr).natAbs)]] w fun e w' => e = .returned (.tuple #[.string (E (powI ya zr p)), .int .i64 0]) ∧ Below w.heap.size w w') := fun w => pexp_c p qq ya zr w HGZ.out.1 (lt128 HGZ.out.2) HCE.out.1 HB1.out HZL.out
     have HB2 : Hid (hasB p qq (powI ya zr p) = true) := has_powIq zr HP2.out HB1.out
     generalize powI ya zr p = yb at HY2 HB2 HSK
     have HMU : Hid (∀ w, Calls Tryz.prog 57 #[.agg #[.string (E p), .string (E qq)], .string (E (prodK p (msgB q) (msgX c Z q) (j + 1))), .string (E yb)] w fun e w' => e = .returned (.tuple #[.string (E (prodK p (msgB q) (msgX c Z q) (j + 1 + 1))), .int .i64 0]) ∧ Below w.heap.size w w') := fun w => by
      rw [show j + 1 + 1 = j + 2 from rfl, ← HSK.out]; exact pmul_c p qq _ yb w HGZ.out.1 (lt128 HGZ.out.2) HCE.out.1 (HPH.out j (by omega)) HB2.out
     clear HSK HB1 HB2 HTB HTE HZL
     obtain ⟨xb, hxb⟩ : ∃ x, x = prodK p (msgB q) (msgX c Z q) (j + 1 + 1) := ⟨_, rfl⟩
     have HXB := Lib.hid hxb
     rw [← hxb] at HMU
     clear hxb
     generalize prodK p (msgB q) (msgX c Z q) (j + 1) = xa at HMU
     have h0j : (0 : Int) ≤ (j : Int) := by omega
     have h1j : (j : Int) < (n4 : Int) := by omega
     have h0v : (0 : Int) ≤ (tv : Int) := by omega
     have h1v : (tv : Int) < (n2 : Int) := by omega
     have hT := Blk.new wu #[.string (E tb), .int .i64 (tv : Int), .bool (sg tz), .string (E tz.natAbs)] 92
     have hbT := b1 wu (.cells #[.string (E tb), .int .i64 (tv : Int), .bool (sg tz), .string (E tz.natAbs)] 92)
     have hG2 := hG1.after hbT
     obtain ⟨hTc0, hTf0, hTc1, hTf1, hTc2, hTf2, hTc3, hTf3⟩ := hT.x4
     obtain ⟨hG2c0, hG2f0, hG2c1, hG2f1⟩ := hG2.x2
     go_wp2_with fail
     refine (HY1.out _).mono ?_
     rintro e w2 ⟨rfl, hb2⟩
     clear hTc0 hTf0 hTc1 hTf1 hTc2 hTf2 hTc3 hTf3
     clear hG2c0 hG2f0 hG2c1 hG2f1
     have hbT2 := bt hbT hb2
     have hT3 := hT.after hb2
     have hG3 := hG2.after hb2
     have zz1 := (hbT2.cell (p := ⟨bz, oz + tv * 2, none⟩) hbz).trans z1
     have zz2 := (hbT2.cell (p := ⟨bz, oz + tv * 2 + 1, none⟩) hbz).trans z2
     have hbz2 := Nat.lt_of_lt_of_le hbz hbT2.size
     have g1 := gcl (a := ⟨bz, oz + tv * 2, none⟩) hbz2 zz1
     have g2 := gcl (a := ⟨bz, oz + tv * 2 + 1, none⟩) hbz2 zz2
     have hT3l := hT3.lt
     have hG3l := hG3.lt
     clear hT hG2 hb2 hbT t1 t2 t3 t4 z1 z2 hbt hbz HY1
     obtain ⟨hT3c0, hT3f0, hT3c1, hT3f1, hT3c2, hT3f2, hT3c3, hT3f3⟩ := hT3.x4
     obtain ⟨hG3c0, hG3f0, hG3c1, hG3f1⟩ := hG3.x2
     have hT3g0 := hT3.gcell 0
     have hT3g1 := hT3.gcell 1
     have hT3g2 := hT3.gcell 2
     have hT3g3 := hT3.gcell 3
     have hG3g0 := hG3.gcell 0
     have hG3g1 := hG3.gcell 1
     go_upto_region 11 with fail
     go_wp2_with fail
     refine wp_region_gw (by kernel_rfl) (by kernel_rfl) ?_
     repeat (go_big_quiet_step (first | (go_at_call 55; exact gw_of (HY2.out _))))
     refine wpQuiet_nil ?_
     rintro w4 ⟨xw4, rfl⟩
     have hb4 := gw_below xw4
     generalize gw xw4 = w4 at hb4
     clear hT3c0 hT3f0 hT3c1 hT3f1 hT3c2 hT3f2 hT3c3 hT3f3
     clear hG3c0 hG3f0 hG3c1 hG3f1
     clear hT3g0 hT3g1 hT3g2 hT3g3
     clear hG3g0 hG3g1
     clear g1 g2 zz1 zz2 hbz2 hT3l hG3l
     have hG4 := hG3.after hb4
     obtain ⟨hG4c0, hG4f0, hG4c1, hG4f1⟩ := hG4.x2
     go_wp2_with fail
     refine (HMU.out _).mono ?_
     rintro e w5 ⟨rfl, hb5⟩
     clear hG4c0 hG4f0 hG4c1 hG4f1
     have hbe := bt (bt (bt hbs hbT2) hb4) hb5
     clear hG4 hG3 hT3 hG1 HMU HY2
     go_wp2
     go_roundw
     case rel => exact ⟨j + 1, by omega, by go_num, by rw [← HXB.out], hbe⟩
     case measure => simp [intOf]; omega
    ·obtain rfl : n4 = j := by omega
     have hO2 := own_after hO1 hbs
     have hbr2 := bt hb10 hbs
     rw [HPE.out]
     have hLE : Hid (((N.msgs c Z).take k).length = k) := by rw [Hid, List.length_take, NSta.msgs, List.length_map]; omega
     rw [hLE.out] at hO2
     have HIM := Lib.hid HST.out
     clear HPH HPE hG1 hB hG hZ2 hT2 hO1 hb10 HST HCE HXL hbs
     generalize msgQ N c Z q = iv at HIM ⊢
     generalize (N.msgs c Z).take k = LI at hO2 HIM hLE
     have hO3 : wu.ownsRow w1.heap.size 22 1 u7 k (strs LI) := hO2
     clear hO2
     have hsz3 := hbr2.size
     go_wp2_with (at_builtin; refine wpList_append_lies _ rfl (.tmp 75) (.tmp 77) _ rfl w1.heap.size 22 i0 _ 1 16 Tryz.underlying31 HI0.out HA0.out HB0.out HC0.out rfl (by omega) u7 k (strs LI) rfl (own_after hO3 (b1 _ (.cells #[.string (E iv)] 22))) ⟨wu.heap.size, 0, none⟩ 1 1 [.string (E iv)] rfl rfl (Blk.new wu #[.string (E iv)] 22).cells (by simp [Value.oneCell']) (by omega) (by simp only [maxLen]; omega) (by omega) (by rw [World.size_alloc]; omega) (wu.heap.size + 1) (by simp) ?_; intro ga ca wz hown hgrow hat hlt2)
     have hOA : NOwn wz w1.heap.size (.slice (some ⟨ga, 0, none⟩) (k + 1) ca) (LI ++ [iv]) := by rw [NOwn, List.length_append, hLE.out, ← strs_app]; exact hown
     rw [← HIM.out] at hOA
     have hbA := (ba hbr2 (.cells #[.string (E iv)] 22)).grown hgrow (by rw [World.size_alloc]; omega) (fun x hx => (own_lt hO3 hx).2)
     clear hown hgrow hat hlt2 hO3 hbr2
     go_wp2
     go_roundw
     case rel => exact ⟨k + 1, by omega, by go_num, hOA, hbA⟩
     case measure => simp [intOf]; omega
  ·have HTK : Hid ((N.msgs c Z).take k = N.msgs c Z) := List.take_of_length_le (by rw [NSta.msgs, List.length_map, ← HN3.out]; omega)
   rw [HTK.out] at hO
   have hs1 := hBW.size
   obtain ⟨hP1c0, hP1f0, hP1c1, hP1f1, hP1c2, hP1f2⟩ := hP1.x3
   go_wp2
   go_ret
   exact ⟨_, rfl, own_mono hO hs1, hBW1⟩
end Go.Proofs.YtehoiholhkfcpaaGreat
end

section
set_option linter.unusedVariables false
set_option linter.unusedSimpArgs false
set_option maxRecDepth 100000
namespace Go.Proofs.YtehoiholhkfcpaaGreat
open Go.RowKit Go.Shelf

/-- what a function returns that returns a list of numbers or an error -/
def FPost (w : World) (k : Nat) (L : List Nat) (e : Ending) (w' : World) : Prop := ∃ v, e = .returned (.tuple #[v, .int .i64 k]) ∧ NOwn w' w.heap.size v L ∧ Below w.heap.size w w'
theorem fpost_err {w w' : World} {k : Nat} {L : List Nat} (hL : L = []) (h : Below w.heap.size w w') : FPost w k L (.returned (.tuple #[.slice none 0 0, .int .i64 k])) w' := ⟨_, rfl, by rw [hL]; exact World.ownsRow_nil _ _ _ _, h⟩

/-- the masks are within their bounds -/
def blM (N : NSta) (C K : Nat) (Z : List Int) (j : Nat) : Bool := blw (N.vars.getD j 0) (Z.getD j 0) (lim N.ord C K (N.vars.getD j 0)).1
theorem blM_at (N : NSta) (C K : Nat) (Z : List Int) (j : Nat) (h : j < N.vars.length) (h2 : j < Z.length) : blM N C K Z j = blw N.vars[j] Z[j] (lim N.ord C K N.vars[j]).1 := by
 unfold blM; simp only [List.getD_eq_getElem?_getD, List.getElem?_eq_getElem h, List.getElem?_eq_getElem h2, Option.getD_some]

/-- the error of First -/
def NSta.fir (N : NSta) (C K c : Nat) (Z : List Int) : Nat := if C ≤ c then 2 else if Z.length ≠ N.vars.length then 6 else if ra N.vars.length (blJ N C K Z) = false then 2 else 0
def NSta.firL (N : NSta) (C K c : Nat) (Z : List Int) : List Nat := if N.fir C K c Z = 0 then N.msgs c Z else []
theorem fir_a {N : NSta} {C K c : Nat} {Z : List Int} (h : C ≤ c) : N.fir C K c Z = 2 ∧ N.firL C K c Z = [] := by
 have : N.fir C K c Z = 2 := by unfold NSta.fir; rw [if_pos h]
 exact ⟨this, by unfold NSta.firL; rw [this]; rfl⟩
theorem fir_b {N : NSta} {C K c : Nat} {Z : List Int} (h : c < C) (h2 : Z.length ≠ N.vars.length) : N.fir C K c Z = 6 ∧ N.firL C K c Z = [] := by
 have : N.fir C K c Z = 6 := by unfold NSta.fir; rw [if_neg (by omega), if_pos h2]
 exact ⟨this, by unfold NSta.firL; rw [this]; rfl⟩
theorem fir_c {N : NSta} {C K c : Nat} {Z : List Int} (h : c < C) (h2 : Z.length = N.vars.length) (h3 : ra N.vars.length (blJ N C K Z) = false) : N.fir C K c Z = 2 ∧ N.firL C K c Z = [] := by
 have : N.fir C K c Z = 2 := by unfold NSta.fir; rw [if_neg (by omega), if_neg (by omega), if_pos h3]
 exact ⟨this, by unfold NSta.firL; rw [this]; rfl⟩
theorem fir_d {N : NSta} {C K c : Nat} {Z : List Int} (h : c < C) (h2 : Z.length = N.vars.length) (h3 : ra N.vars.length (blJ N C K Z) = true) : N.fir C K c Z = 0 ∧ N.firL C K c Z = N.msgs c Z := by
 have : N.fir C K c Z = 0 := by unfold NSta.fir; rw [if_neg (by omega), if_neg (by omega), if_neg (by rw [h3]; decide)]
 exact ⟨this, by unfold NSta.firL; rw [this]; rfl⟩

theorem ra_succ (n : Nat) (p : Nat → Bool) : ra (n + 1) p = (ra n p && p n) := by
 unfold ra; rw [List.range_succ, List.all_append]; simp

theorem lims_lt {N : NSta} (hm : NOk N) {C K : Nat} (hC : C < 256 ^ 8) (hK : K < 256 ^ 8) (k : Nat) (hk : k < N.vars.length) : (lim N.ord C K N.vars[k]).1 < 256 ^ 64 ∧ (lim N.ord C K N.vars[k]).2 < 256 ^ 64 := by
 unfold lim
 split
 ·exact ⟨Nat.lt_of_lt_of_le (ord_lt hm) (Nat.pow_le_pow_right (by decide) (by decide)), Nat.lt_of_lt_of_le (ord_lt hm) (Nat.pow_le_pow_right (by decide) (by decide))⟩
 ·have h := Nat.lt_of_lt_of_le (lt_mul3 hC hK (hm.v _ (List.getElem_mem hk))).2 (show 256 ^ 32 ≤ 256 ^ 64 from Nat.pow_le_pow_right (by decide) (by decide))
  exact ⟨h, Nat.lt_of_le_of_lt (Nat.sub_le _ _) h⟩

set_option maxHeartbeats 8000000 in
theorem sfirst_num (N : NSta) (C K c : Nat) (Z : List Int) (v1 v2 v3 v4 : Value) (w : World) (hC : C < 256 ^ 8) (hK : K < 256 ^ 8) (hcc : c < 256 ^ 128) (hm : NOk N) (hS : NAt w v1 v2 v3 N) (h0 : N.chk = 0) (hZ : ZsAt w v4 Z) (hz : ∀ z ∈ Z, z.natAbs < 256 ^ 64) (hzl : Z.length ≤ 1000)
  (hch : ∀ w', Below w.heap.size w w' → Calls Tryz.prog 20 #[.agg #[.string (E C), .string (E K)], .agg #[v1, v2, v3]] w' (B2Post w' (N.lims C K))) :
  Calls Tryz.prog 8 #[.agg #[.string (E C), .string (E K)], .agg #[v1, v2, v3], .string (E c), v4] w (FPost w (N.fir C K c Z) (N.firL C K c Z)) := by
 obtain ⟨r, hr⟩ : ∃ r : Nat, r = N.fir C K c Z := ⟨_, rfl⟩
 obtain ⟨rl, hrl⟩ : ∃ r, r = N.firL C K c Z := ⟨_, rfl⟩
 have HRES := Lib.hid hr
 have HRL := Lib.hid hrl
 rw [← hr, ← hrl]
 clear hr hrl
 have HCH := Lib.hid hch
 have HIN : Hid (∀ w', Below w.heap.size w w' → Calls Tryz.prog 22 #[v4] w' fun e w'' => e = .returned (.bool true) ∧ Below w'.heap.size w' w'') := fun w' hb => by
  have h := sints_c (Z.map zI) v4 w' (by simpa using hzl) (by
   intro x hx
   obtain ⟨z, hz1, rfl⟩ := List.mem_map.1 hx
   have := sz z.natAbs (lt64 (hz z hz1))
   simp only [zI]; omega) (hZ.after hb)
  rwa [sints_num Z (fun z hz1 => lt64 (hz z hz1))] at h
 have HME : Hid (Z.length = N.vars.length → ∀ w', Below w.heap.size w w' → Calls Tryz.prog 25 #[.agg #[v1, v2, v3], .string (E c), v4] w' fun e w'' => ∃ v, e = .returned v ∧ NOwn w'' w'.heap.size v (N.msgs c Z) ∧ Below w'.heap.size w' w'') := fun hl w' hb => messages_c N c Z v1 v2 v3 v4 w' hm (hS.after hb) (hZ.after hb) hz hl h0 hcc
 have HVL : Hid (∀ w, Calls Tryz.prog 21 #[.string (E c)] w fun e w' => e = .returned (.bool true) ∧ w = w') := fun w => validE_c c w hcc
 have HCM : Hid (∀ w, Calls Tryz.prog 23 #[.string (E c), .string (E C)] w fun e w' => e = .returned (.int .i64 (cmpN c C)) ∧ w = w') := fun w => cmp_c c C w hcc (lt128 hC)
 obtain ⟨q1, hq1⟩ : ∃ q : Int, q = cmpN c C := ⟨_, rfl⟩
 rw [← hq1] at HCM
 have HQ1 := Lib.hid hq1
 have HLM := Lib.hid (lims_lt hm hC hK)
 have HZZ := Lib.hid hz
 obtain ⟨a4, c4, rfl⟩ := hZ.form
 obtain ⟨nz, hnz⟩ : ∃ n, n = Z.length := ⟨_, rfl⟩
 have HNZ := Lib.hid hnz
 rw [← hnz] at hZ hzl HIN HME ⊢
 obtain ⟨a1, c1, a2, c2, a3, c3, rfl, rfl, rfl⟩ := hS.forms
 obtain ⟨n1, hn1⟩ : ∃ n, n = N.grps.length := ⟨_, rfl⟩
 obtain ⟨n2, hn2⟩ : ∃ n, n = N.vars.length := ⟨_, rfl⟩
 obtain ⟨n3, hn3⟩ : ∃ n, n = N.eqs.length := ⟨_, rfl⟩
 have HN2 := Lib.hid hn2
 have l2 : n2 ≤ 12 := by rw [hn2]; exact hm.nv
 rw [← hn1, ← hn2, ← hn3] at hS HCH HME ⊢
 clear hm hn1 hn2 hn3 hC hK hcc h0 hz hch hnz hq1
 have hR := blk2a w #[.string (E C), .string (E K)] #[.slice a1 n1 c1, .slice a2 n2 c2, .slice a3 n3 c3] 24 29
 have hP := blk2b w #[.string (E C), .string (E K)] #[.slice a1 n1 c1, .slice a2 n2 c2, .slice a3 n3 c3] 24 29
 have hBW := b2 w (.cells #[.string (E C), .string (E K)] 24) (.cells #[.slice a1 n1 c1, .slice a2 n2 c2, .slice a3 n3 c3] 29)
 replace hS := hS.after hBW
 replace hZ := hZ.after hBW
 obtain ⟨hRc0, hRf0, hRc1, hRf1⟩ := hR.x2
 obtain ⟨hPc0, hPf0, hPc1, hPf1, hPc2, hPf2⟩ := hP.x3
 go_enter Tryz.func8, Tryz.ntmps8
 go_wp2_with fail
 refine (HCH.out _ hBW).mono ?_
 rintro e w2 ⟨mv, uv, rfl, hMO, hUO, hb2⟩
 clear hRc0 hRf0 hRc1 hRf1
 clear hPc0 hPf0 hPc1 hPf1 hPc2 hPf2
 have hUs := hUO.ss
 clear hMO hUO
 obtain ⟨a6, c6, rfl⟩ := RAt.form hUs
 have HUL : Hid ((((N.lims C K).map (·.2)).map E).length = n2) := by rw [Hid, List.length_map, List.length_map, NSta.lims, List.length_map, HN2.out]
 rw [HUL.out] at hUs ⊢
 replace hR := hR.after hb2
 replace hP := hP.after hb2
 replace hS := hS.after hb2
 replace hZ := hZ.after hb2
 replace hBW := bt hBW hb2
 clear hb2
 go_wp2_with fail
 refine (HVL.out _).mono ?_
 rintro e w' ⟨rfl, rfl⟩
 go_wp2_with fail
 refine (HIN.out _ hBW).mono ?_
 rintro e w3 ⟨rfl, hb3⟩
 replace hR := hR.after hb3
 replace hP := hP.after hb3
 replace hS := hS.after hb3
 replace hZ := hZ.after hb3
 replace hUs := SsAt.after hUs hb3
 replace hBW := bt hBW hb3
 clear hb3 HIN HVL
 obtain ⟨hRc0, hRf0, hRc1, hRf1⟩ := hR.x2
 go_wp2_with fail
 refine (HCM.out _).mono ?_
 rintro e w' ⟨rfl, rfl⟩
 clear hRc0 hRf0 hRc1 hRf1
 clear HCM
 by_cases hcl : C ≤ c
 ·have hd1 : decide (0 ≤ q1) = true := decide_eq_true (by rw [HQ1.out]; have := cmp_nneg c C hcl; omega)
  have HX := Lib.hid (fir_a (N := N) (K := K) (Z := Z) hcl)
  clear hcl
  go_wp2
  go_ret2
  rw [HRES.out, HRL.out, HX.out.1, HX.out.2]
  exact fpost_err rfl hBW
 ·have hd1 : decide (0 ≤ q1) = false := decide_eq_false (by rw [HQ1.out]; have := cmp_neg c C (by omega); omega)
  have HCL : Hid (c < C) := by rw [Hid]; omega
  clear hcl
  by_cases hln : nz = n2
  ·have HLN : Hid (Z.length = N.vars.length) := by rw [Hid, ← HNZ.out, ← HN2.out]; exact hln
   subst hln
   have hM := HME.out rfl
   have HMM := Lib.hid hM
   clear hM HME
   obtain ⟨hPc0, hPf0, hPc1, hPf1, hPc2, hPf2⟩ := hP.x3
   go_wp2
   clear hPc0 hPf0 hPc1 hPf1 hPc2 hPf2
   go_loopw [47] (fun i wr => ∃ k : Nat, k ≤ nz ∧ i = .int .i64 k ∧ Hid (ra k (blJ N C K Z) = true) ∧ Below w3.heap.size w3 wr) (fun i _ => nz - (intOf i).toNat)
   case atStart => exact ⟨0, by omega, rfl, rfl, Below.refl _ _⟩
   case round =>
    obtain ⟨k, hk, rfl, HAL, hbr⟩ := hrel
    obtain ⟨wp, hwp⟩ : ∃ wp, wp = wr := ⟨_, rfl⟩
    subst hwp
    have hBW1 := bt hBW hbr
    have hP1 := hP.after hbr
    by_cases hlt : k < nz
    ·have hkl : k < N.vars.length := by rw [← HN2.out]; exact hlt
     have hkZ : k < Z.length := by rw [← HNZ.out]; exact hlt
     have hkU : k < (((N.lims C K).map (·.2)).map E).length := by rw [HUL.out]; exact hlt
     obtain ⟨bv, ov, rfl, hbv, x1⟩ := (hS.after hbr).vat hkl
     obtain ⟨bz, oz, rfl, hbz, z1, z2⟩ := (hZ.after hbr).at_ hkZ
     obtain ⟨bu, ou, rfl, hbu, y1⟩ := SsAt.at_ (SsAt.after hUs hbr) hkU
     rw [show (((N.lims C K).map (·.2)).map E)[k] = E (lim N.ord C K (N.vars[k]'hkl)).2 by simp [NSta.lims]] at y1
     have HAD : Hid (∀ w, Calls Tryz.prog 24 #[.agg #[.string (E (N.vars[k]'hkl))], .string (E (lim N.ord C K (N.vars[k]'hkl)).2), .agg #[.bool (sg (Z[k]'hkZ)), .string (E (Z[k]'hkZ).natAbs)]] w fun e w' => e = .returned (.bool (blJ N C K Z k)) ∧ Below w.heap.size w w') := fun w => by
      rw [blJ_at N C K Z k hkl hkZ]; exact admits_c _ _ _ w (lt64 (HLM.out k hkl).2) (lt64 (HZZ.out _ (List.getElem_mem hkZ)))
     have HRS : Hid (ra (k + 1) (blJ N C K Z) = blJ N C K Z k) := by rw [Hid, ra_succ, HAL.out]; rfl
     have HRB : Hid (blJ N C K Z k = false → ra N.vars.length (blJ N C K Z) = false) := fun h => ra_false hkl h
     generalize (lim N.ord C K (N.vars[k]'hkl)).2 = mk at y1 HAD
     generalize (N.vars[k]'hkl) = vb at x1 HAD
     generalize (Z[k]'hkZ) = lz at z1 z2 HAD
     generalize blJ N C K Z k = bl at HAD HRS HRB
     have h0k : (0 : Int) ≤ (k : Int) := by omega
     have h1k : (k : Int) < (nz : Int) := by omega
     have hV := Blk.new wp #[.string (E vb)] 64
     have hbV := b1 wp (.cells #[.string (E vb)] 64)
     have zz1 := (hbV.cell (p := ⟨bz, oz + k * 2, none⟩) hbz).trans z1
     have zz2 := (hbV.cell (p := ⟨bz, oz + k * 2 + 1, none⟩) hbz).trans z2
     have yy1 := (hbV.cell (p := ⟨bu, ou + k, none⟩) hbu).trans y1
     have g1 := gcl (a := ⟨bz, oz + k * 2, none⟩) (Nat.lt_of_lt_of_le hbz hbV.size) zz1
     have g2 := gcl (a := ⟨bz, oz + k * 2 + 1, none⟩) (Nat.lt_of_lt_of_le hbz hbV.size) zz2
     have g3 := gcl (a := ⟨bu, ou + k, none⟩) (Nat.lt_of_lt_of_le hbu hbV.size) yy1
     have hbz2 := Nat.lt_of_lt_of_le hbz hbV.size
     have hbu2 := Nat.lt_of_lt_of_le hbu hbV.size
     obtain ⟨hP1c0, hP1f0, hP1c1, hP1f1, hP1c2, hP1f2⟩ := hP1.x3
     go_upto_region 13 with fail
     clear hP1c0 hP1f0 hP1c1 hP1f1 hP1c2 hP1f2
     clear x1 y1 z1 z2 hbv
     generalize wp.alloc (.cells #[.string (E vb)] 64) = wv at hV hbV zz1 zz2 yy1 g1 g2 g3 hbz2 hbu2 ⊢
     obtain ⟨gv, hgv⟩ : ∃ g, wp.heap.size = g := ⟨_, rfl⟩
     have hbx := bt hbr hbV
     clear hbV hbz hbu
     rw [hgv] at hV ⊢
     clear hgv
     replace hV : Blk wv gv 64 [.string (E vb)] := hV
     have hVl := hV.lt
     obtain ⟨hVc0, hVf0⟩ := hV.x1
     have hVg0 := hV.gcell 0
     go_wp2_with fail
     refine wp_region_gw (by kernel_rfl) (by kernel_rfl) ?_
     repeat (go_big_quiet_step (first | (go_at_call 24; exact gw_of (HAD.out _))))
     refine wpQuiet_nil ?_
     rintro w9 ⟨xw9, rfl⟩
     have hb9 := gw_below xw9
     generalize gw xw9 = w9 at hb9
     clear hVc0 hVf0
     clear hVg0
     clear g1 g2 g3 zz1 zz2 yy1 hbz2 hbu2 hVl hV HAD
     have hbe := bt hbx hb9
     cases bl
     ·have HX := Lib.hid (fir_c HCL.out HLN.out (HRB.out rfl))
      go_wp2
      go_ret2
      rw [HRES.out, HRL.out, HX.out.1, HX.out.2]
      exact fpost_err rfl (bt hBW hbe)
     ·go_wp2
      go_roundw
      case rel => exact ⟨k + 1, by omega, by go_num, HRS, hbe⟩
      case measure => simp [intOf]; omega
    ·obtain rfl : nz = k := by omega
     have HX := Lib.hid (fir_d HCL.out HLN.out (by rw [← HN2.out]; exact HAL.out))
     obtain ⟨hP1c0, hP1f0, hP1c1, hP1f1, hP1c2, hP1f2⟩ := hP1.x3
     go_wp2_with fail
     refine (HMM.out _ hBW1).mono ?_
     rintro e w4 ⟨mo, rfl, hMO, hb4⟩
     clear hP1c0 hP1f0 hP1c1 hP1f1 hP1c2 hP1f2
     have hs4 := hBW1.size
     go_wp2
     go_ret2
     rw [HRES.out, HRL.out, HX.out.1, HX.out.2]
     exact ⟨_, rfl, own_mono hMO hs4, bt hBW1 hb4⟩
  ·have hln2 : ¬ (nz : Int) = (n2 : Int) := by omega
   have HX := Lib.hid (fir_b (K := K) HCL.out (show Z.length ≠ N.vars.length by rw [← HNZ.out, ← HN2.out]; exact hln))
   clear HME
   obtain ⟨hPc0, hPf0, hPc1, hPf1, hPc2, hPf2⟩ := hP.x3
   go_wp2
   go_ret2
   rw [HRES.out, HRL.out, HX.out.1, HX.out.2]
   exact fpost_err rfl hBW
end Go.Proofs.YtehoiholhkfcpaaGreat
end

section
set_option linter.unusedVariables false
set_option linter.unusedSimpArgs false
set_option maxRecDepth 100000
namespace Go.Proofs.YtehoiholhkfcpaaGreat
open Go.RowKit Go.Shelf

theorem up65 {x : Nat} (h : x < 256 ^ 65) : x < 256 ^ 128 := Nat.lt_of_lt_of_le h (Nat.pow_le_pow_right (by decide) (by decide))
theorem add65 {z : Int} {m : Nat} (hz : z.natAbs < 256 ^ 64) (hm : m < 256 ^ 64) : (z + (m : Int)).natAbs < 256 ^ 65 := by
 have : (256 : Nat) ^ 64 + 256 ^ 64 ≤ 256 ^ 65 := by decide
 omega
theorem sub1_65 {z : Int} (hz : z.natAbs < 256 ^ 65) : (z - 1).natAbs < 256 ^ 128 := by
 have : (256 : Nat) ^ 65 + 1 ≤ 256 ^ 128 := by decide
 omega

def coinN (b l : Nat) (z : Int) : Nat := if b = 0 then z.natAbs else (z + (l : Int) - 1).natAbs
def coinJ (N : NSta) (C K : Nat) (Z : List Int) (j : Nat) : Nat := coinN (N.vars.getD j 0) (lim N.ord C K (N.vars.getD j 0)).1 (Z.getD j 0)
def NSta.coinL (N : NSta) (C K : Nat) (Z : List Int) : List Nat := (List.range N.vars.length).map (coinJ N C K Z)
theorem coin_step (N : NSta) (C K : Nat) (Z : List Int) (k : Nat) (h : k < N.vars.length) (h2 : k < Z.length) : (N.coinL C K Z).take (k + 1) = (N.coinL C K Z).take k ++ [coinN N.vars[k] (lim N.ord C K N.vars[k]).1 Z[k]] := by
 unfold NSta.coinL
 rw [← List.map_take, List.take_succ_eq_append_getElem (by simpa using h), List.map_append, List.map_take]
 simp only [List.getElem_range, List.map_cons, List.map_nil, coinJ, List.getD_eq_getElem?_getD, List.getElem?_eq_getElem h, List.getElem?_eq_getElem h2, Option.getD_some]
/-- the error of Coins -/
def NSta.coi (N : NSta) (C K : Nat) (Z : List Int) : Nat := if Z.length ≠ N.vars.length then 6 else if ra N.vars.length (blM N C K Z) = false then 2 else 0
def NSta.coins (N : NSta) (C K : Nat) (Z : List Int) : List Nat := if N.coi C K Z = 0 then N.coinL C K Z else []
theorem coi_b {N : NSta} {C K : Nat} {Z : List Int} (h2 : Z.length ≠ N.vars.length) : N.coi C K Z = 6 ∧ N.coins C K Z = [] := by
 have : N.coi C K Z = 6 := by unfold NSta.coi; rw [if_pos h2]
 exact ⟨this, by unfold NSta.coins; rw [this]; rfl⟩
theorem coi_c {N : NSta} {C K : Nat} {Z : List Int} (h2 : Z.length = N.vars.length) (h3 : ra N.vars.length (blM N C K Z) = false) : N.coi C K Z = 2 ∧ N.coins C K Z = [] := by
 have : N.coi C K Z = 2 := by unfold NSta.coi; rw [if_neg (by omega), if_pos h3]
 exact ⟨this, by unfold NSta.coins; rw [this]; rfl⟩
theorem coi_d {N : NSta} {C K : Nat} {Z : List Int} (h2 : Z.length = N.vars.length) (h3 : ra N.vars.length (blM N C K Z) = true) : N.coi C K Z = 0 ∧ N.coins C K Z = N.coinL C K Z := by
 have : N.coi C K Z = 0 := by unfold NSta.coi; rw [if_neg (by omega), if_neg (by rw [h3]; decide)]
 exact ⟨this, by unfold NSta.coins; rw [this]; rfl⟩

set_option maxHeartbeats 8000000 in
theorem scoins_num (N : NSta) (C K : Nat) (Z : List Int) (v1 v2 v3 v4 : Value) (w : World) (hC : C < 256 ^ 8) (hK : K < 256 ^ 8) (hm : NOk N) (hS : NAt w v1 v2 v3 N) (hZ : ZsAt w v4 Z) (hz : ∀ z ∈ Z, z.natAbs < 256 ^ 64) (hzl : Z.length ≤ 1000)
  (hch : ∀ w', Below w.heap.size w w' → Calls Tryz.prog 20 #[.agg #[.string (E C), .string (E K)], .agg #[v1, v2, v3]] w' (B2Post w' (N.lims C K))) :
  Calls Tryz.prog 15 #[.agg #[.string (E C), .string (E K)], .agg #[v1, v2, v3], v4] w (FPost w (N.coi C K Z) (N.coins C K Z)) := by
 obtain ⟨i0, hi0, hz00, hz01, hz02⟩ := info_parts info_nat
 have HI0 := Lib.hid hi0
 have HA0 := Lib.hid hz00
 have HB0 := Lib.hid hz01
 have HC0 := Lib.hid hz02
 clear hi0 hz00 hz01 hz02
 obtain ⟨r, hr⟩ : ∃ r : Nat, r = N.coi C K Z := ⟨_, rfl⟩
 obtain ⟨rl, hrl⟩ : ∃ r, r = N.coins C K Z := ⟨_, rfl⟩
 have HRES := Lib.hid hr
 have HRL := Lib.hid hrl
 rw [← hr, ← hrl]
 clear hr hrl
 have HCH := Lib.hid hch
 have HIN : Hid (∀ w', Below w.heap.size w w' → Calls Tryz.prog 22 #[v4] w' fun e w'' => e = .returned (.bool true) ∧ Below w'.heap.size w' w'') := fun w' hb => by
  have h := sints_c (Z.map zI) v4 w' (by simpa using hzl) (by
   intro x hx
   obtain ⟨z, hz1, rfl⟩ := List.mem_map.1 hx
   have := sz z.natAbs (lt64 (hz z hz1))
   simp only [zI]; omega) (hZ.after hb)
  rwa [sints_num Z (fun z hz1 => lt64 (hz z hz1))] at h
 have HLM := Lib.hid (lims_lt hm hC hK)
 have HZZ := Lib.hid hz
 obtain ⟨a4, c4, rfl⟩ := hZ.form
 obtain ⟨nz, hnz⟩ : ∃ n, n = Z.length := ⟨_, rfl⟩
 have HNZ := Lib.hid hnz
 rw [← hnz] at hZ hzl HIN ⊢
 obtain ⟨a1, c1, a2, c2, a3, c3, rfl, rfl, rfl⟩ := hS.forms
 obtain ⟨n1, hn1⟩ : ∃ n, n = N.grps.length := ⟨_, rfl⟩
 obtain ⟨n2, hn2⟩ : ∃ n, n = N.vars.length := ⟨_, rfl⟩
 obtain ⟨n3, hn3⟩ : ∃ n, n = N.eqs.length := ⟨_, rfl⟩
 have HN2 := Lib.hid hn2
 have l2 : n2 ≤ 12 := by rw [hn2]; exact hm.nv
 rw [← hn1, ← hn2, ← hn3] at hS HCH ⊢
 clear hm hn1 hn2 hn3 hC hK hz hch hnz
 have hR := blk2a w #[.string (E C), .string (E K)] #[.slice a1 n1 c1, .slice a2 n2 c2, .slice a3 n3 c3] 24 29
 have hP := blk2b w #[.string (E C), .string (E K)] #[.slice a1 n1 c1, .slice a2 n2 c2, .slice a3 n3 c3] 24 29
 have hBW := b2 w (.cells #[.string (E C), .string (E K)] 24) (.cells #[.slice a1 n1 c1, .slice a2 n2 c2, .slice a3 n3 c3] 29)
 replace hS := hS.after hBW
 replace hZ := hZ.after hBW
 obtain ⟨hRc0, hRf0, hRc1, hRf1⟩ := hR.x2
 obtain ⟨hPc0, hPf0, hPc1, hPf1, hPc2, hPf2⟩ := hP.x3
 go_enter Tryz.func15, Tryz.ntmps15
 go_wp2_with fail
 refine (HCH.out _ hBW).mono ?_
 rintro e w2 ⟨mv, uv, rfl, hMO, hUO, hb2⟩
 clear hRc0 hRf0 hRc1 hRf1
 clear hPc0 hPf0 hPc1 hPf1 hPc2 hPf2
 have hUs := hMO.ss
 clear hMO hUO
 obtain ⟨a6, c6, rfl⟩ := RAt.form hUs
 have HUL : Hid ((((N.lims C K).map (·.1)).map E).length = n2) := by rw [Hid, List.length_map, List.length_map, NSta.lims, List.length_map, HN2.out]
 rw [HUL.out] at hUs ⊢
 clear hR
 replace hP := hP.after hb2
 replace hS := hS.after hb2
 replace hZ := hZ.after hb2
 replace hBW := bt hBW hb2
 clear hb2
 go_wp2_with fail
 refine (HIN.out _ hBW).mono ?_
 rintro e w3 ⟨rfl, hb3⟩
 replace hP := hP.after hb3
 replace hS := hS.after hb3
 replace hZ := hZ.after hb3
 replace hUs := SsAt.after hUs hb3
 replace hBW := bt hBW hb3
 clear hb3 HIN
 by_cases hln : nz = n2
 ·have HLN : Hid (Z.length = N.vars.length) := by rw [Hid, ← HNZ.out, ← HN2.out]; exact hln
  subst hln
  obtain ⟨hPc0, hPf0, hPc1, hPf1, hPc2, hPf2⟩ := hP.x3
  go_wp2
  clear hPc0 hPf0 hPc1 hPf1 hPc2 hPf2
  go_loopw [11, 37] (fun v11 i wr => ∃ k : Nat, k ≤ nz ∧ i = .int .i64 k ∧ Hid (ra k (blM N C K Z) = true) ∧ NOwn wr w3.heap.size v11 ((N.coinL C K Z).take k) ∧ Below w3.heap.size w3 wr) (fun _ i _ => nz - (intOf i).toNat)
  case atStart => exact ⟨0, by omega, rfl, rfl, World.ownsRow_nil _ _ _ _, Below.refl _ _⟩
  case round =>
   obtain ⟨k, hk, rfl, HAL, hO, hbr⟩ := hrel
   obtain ⟨wp, hwp⟩ : ∃ wp, wp = wr := ⟨_, rfl⟩
   subst hwp
   have hBW1 := bt hBW hbr
   have hP1 := hP.after hbr
   by_cases hlt : k < nz
   ·have hkl : k < N.vars.length := by rw [← HN2.out]; exact hlt
    have hkZ : k < Z.length := by rw [← HNZ.out]; exact hlt
    have hkU : k < (((N.lims C K).map (·.1)).map E).length := by rw [HUL.out]; exact hlt
    have HST := Lib.hid (coin_step N C K Z k hkl hkZ)
    obtain ⟨bv, ov, rfl, hbv, x1⟩ := (hS.after hbr).vat hkl
    obtain ⟨bz, oz, rfl, hbz, z1, z2⟩ := (hZ.after hbr).at_ hkZ
    obtain ⟨bu, ou, rfl, hbu, y1⟩ := SsAt.at_ (SsAt.after hUs hbr) hkU
    rw [show (((N.lims C K).map (·.1)).map E)[k] = E (lim N.ord C K (N.vars[k]'hkl)).1 by simp [NSta.lims]] at y1
    have HZL := Lib.hid (HZZ.out _ (List.getElem_mem hkZ))
    have HML := Lib.hid (HLM.out k hkl).1
    have HAD : Hid (∀ w, Calls Tryz.prog 24 #[.agg #[.string (E (N.vars[k]'hkl))], .string (E (lim N.ord C K (N.vars[k]'hkl)).1), .agg #[.bool (sg (Z[k]'hkZ)), .string (E (Z[k]'hkZ).natAbs)]] w fun e w' => e = .returned (.bool (blM N C K Z k)) ∧ Below w.heap.size w w') := fun w => by
     rw [blM_at N C K Z k hkl hkZ]; exact admits_c _ _ _ w (lt64 HML.out) (lt64 HZL.out)
    have HRS : Hid (ra (k + 1) (blM N C K Z) = blM N C K Z k) := by rw [Hid, ra_succ, HAL.out]; rfl
    have HRB : Hid (blM N C K Z k = false → ra N.vars.length (blM N C K Z) = false) := fun h => ra_false hkl h
    generalize (lim N.ord C K (N.vars[k]'hkl)).1 = mk at y1 HAD HML HST
    generalize (N.vars[k]'hkl) = vb at x1 HAD HST
    generalize (Z[k]'hkZ) = lz at z1 z2 HAD HZL HST
    generalize blM N C K Z k = bl at HAD HRS HRB
    have HLE : Hid (((N.coinL C K Z).take k).length = k) := by rw [Hid, List.length_take, NSta.coinL, List.length_map, List.length_range]; omega
    have h0k : (0 : Int) ≤ (k : Int) := by omega
    have h1k : (k : Int) < (nz : Int) := by omega
    have hV := Blk.new wp #[.string (E vb)] 64
    have hbV := b1 wp (.cells #[.string (E vb)] 64)
    have zz1 := (hbV.cell (p := ⟨bz, oz + k * 2, none⟩) hbz).trans z1
    have zz2 := (hbV.cell (p := ⟨bz, oz + k * 2 + 1, none⟩) hbz).trans z2
    have yy1 := (hbV.cell (p := ⟨bu, ou + k, none⟩) hbu).trans y1
    have hbz2 := Nat.lt_of_lt_of_le hbz hbV.size
    have hbu2 := Nat.lt_of_lt_of_le hbu hbV.size
    have g1 := gcl (a := ⟨bz, oz + k * 2, none⟩) hbz2 zz1
    have g2 := gcl (a := ⟨bz, oz + k * 2 + 1, none⟩) hbz2 zz2
    have g3 := gcl (a := ⟨bu, ou + k, none⟩) hbu2 yy1
    have hO1 := own_after hO hbV
    obtain ⟨hP1c0, hP1f0, hP1c1, hP1f1, hP1c2, hP1f2⟩ := hP1.x3
    go_upto_region 12 with fail
    clear hP1c0 hP1f0 hP1c1 hP1f1 hP1c2 hP1f2
    clear x1 y1 z1 z2 hbv hO
    generalize wp.alloc (.cells #[.string (E vb)] 64) = wv at hV hbV zz1 zz2 yy1 g1 g2 g3 hbz2 hbu2 hO1 ⊢
    obtain ⟨gv, hgv⟩ : ∃ g, wp.heap.size = g := ⟨_, rfl⟩
    have hbx := bt hbr hbV
    clear hbV hbz hbu
    rw [hgv] at hV ⊢
    clear hgv
    replace hV : Blk wv gv 64 [.string (E vb)] := hV
    have hVl := hV.lt
    obtain ⟨hVc0, hVf0⟩ := hV.x1
    have hVg0 := hV.gcell 0
    go_wp2_with fail
    refine wp_region_gw (by kernel_rfl) (by kernel_rfl) ?_
    repeat (go_big_quiet_step (first | (go_at_call 24; exact gw_of (HAD.out _))))
    refine wpQuiet_nil ?_
    rintro w9 ⟨xw9, rfl⟩
    have hb9 := gw_below xw9
    generalize gw xw9 = w9 at hb9
    clear hVc0 hVf0
    clear hVg0
    clear g1 g2 g3 hVl HAD
    have hbe := bt hbx hb9
    cases bl
    ·have HX := Lib.hid (coi_c HLN.out (HRB.out rfl))
     go_wp2
     go_ret2
     rw [HRES.out, HRL.out, HX.out.1, HX.out.2]
     exact fpost_err rfl (bt hBW hbe)
    ·have hV9 := hV.after hb9
     have hO9 := own_after hO1 hb9
     have q1 := (hb9.cell (p := ⟨bz, oz + k * 2, none⟩) hbz2).trans zz1
     have q2 := (hb9.cell (p := ⟨bz, oz + k * 2 + 1, none⟩) hbz2).trans zz2
     have q3 := (hb9.cell (p := ⟨bu, ou + k, none⟩) hbu2).trans yy1
     have hbz9 := Nat.lt_of_lt_of_le hbz2 hb9.size
     have hbu9 := Nat.lt_of_lt_of_le hbu2 hb9.size
     replace hO9 : w9.ownsRow w3.heap.size 22 1 u11 k (strs ((N.coinL C K Z).take k)) := by have h : w9.ownsRow _ _ _ _ _ _ := hO9; rw [HLE.out] at h; exact h
     clear hV hO1 zz1 zz2 yy1 hbz2 hbu2 hb9 hbx
     have hX := Blk.new w9 #[.bool (sg lz), .string (E lz.natAbs)] 53
     have hbX := b1 w9 (.cells #[.bool (sg lz), .string (E lz.natAbs)] 53)
     have hVX := hV9.after hbX
     have hVXl := hVX.lt
     by_cases hv0 : vb = 0
     ·have hzv := zE hv0
      have HCN : Hid (coinN vb mk lz = lz.natAbs) := if_pos hv0
      rw [HCN.out] at HST
      clear hv0 HCN
      obtain ⟨hVXc0, hVXf0⟩ := hVX.x1
      obtain ⟨hXc0, hXf0, hXc1, hXf1⟩ := hX.x2
      go_upto_region 18 with fail
      clear hVXc0 hVXf0
      clear hXc0 hXf0 hXc1 hXf1
      generalize w9.alloc (.cells #[.bool (sg lz), .string (E lz.natAbs)] 53) = wo at hX hbX hVX ⊢
      obtain ⟨gx, hgx⟩ : ∃ g, w9.heap.size = g := ⟨_, rfl⟩
      rw [hgx] at hX ⊢
      clear hgx
      replace hX : Blk wo gx 53 [.bool (sg lz), .string (E lz.natAbs)] := hX
      have hXl2 := hX.lt
      obtain ⟨hXc0, hXf0, hXc1, hXf1⟩ := hX.x2
      have hO8 : (wo).ownsRow w3.heap.size 22 1 u11 k (strs ((N.coinL C K Z).take k)) := own_after hO9 hbX
      have hbr8 := bt hbe hbX
      generalize (N.coinL C K Z).take k = LI at hO8 hO9 HST HLE
      have hsz8 := hbr8.size
      go_wp2_with (at_builtin; refine wpList_append_lies _ rfl (.tmp 76) (.tmp 79) _ rfl w3.heap.size 22 i0 _ 1 16 Tryz.underlying31 HI0.out HA0.out HB0.out HC0.out rfl (by omega) u11 k (strs LI) rfl (own_after hO8 (b1 _ (.cells #[.string (E lz.natAbs)] 22))) ⟨(wo).heap.size, 0, none⟩ 1 1 [.string (E lz.natAbs)] rfl rfl (Blk.new (wo) #[.string (E lz.natAbs)] 22).cells (by simp [Value.oneCell']) (by omega) (by simp only [maxLen]; omega) (by omega) (by rw [World.size_alloc]; omega) ((wo).heap.size + 1) (by simp) ?_; intro ga ca wz hown hgrow hat hlt2)
      have hOA : NOwn wz w3.heap.size (.slice (some ⟨ga, 0, none⟩) (k + 1) ca) (LI ++ [lz.natAbs]) := by rw [NOwn, List.length_append, HLE.out, ← strs_app]; exact hown
      rw [← HST.out] at hOA
      have hbA := (ba hbr8 (.cells #[.string (E lz.natAbs)] 22)).grown hgrow (by rw [World.size_alloc]; omega) (fun x hx => (own_lt hO8 hx).2)
      clear hown hgrow hat hlt2 hO8 hbr8
      go_wp2
      go_roundw
      case rel => exact ⟨k + 1, by omega, by go_num, HRS, hOA, hbA⟩
      case measure => simp [intOf]; omega
     ·have hzv := nzE (Nat.pos_of_ne_zero hv0)
      have HCN : Hid (coinN vb mk lz = (lz + (mk : Int) - 1).natAbs) := if_neg hv0
      rw [HCN.out] at HST
      have q3X := (hbX.cell (p := ⟨bu, ou + k, none⟩) hbu9).trans q3
      have hbuX := Nat.lt_of_lt_of_le hbu9 hbX.size
      clear hv0 HCN
      have HFR : Hid (∀ w, Calls Tryz.prog 36 #[.string (E mk)] w fun e w' => e = .returned (.agg #[.bool false, .string (E mk)]) ∧ Below w.heap.size w w') := fun w => fromN mk w (lt64 HML.out)
      have HS1 : Hid ((lz + (mk : Int)).natAbs < 256 ^ 65) := add65 HZL.out HML.out
      have HADD : Hid (∀ w, Calls Tryz.prog 46 #[.agg #[.bool (sg (lz)), .string (E (lz).natAbs)], .agg #[.bool false, .string (E mk)]] w fun e w' => e = .returned (.tuple #[.agg #[.bool (sg (lz + (mk : Int))), .string (E (lz + (mk : Int)).natAbs)], .int .i64 0]) ∧ Below w.heap.size w w') := fun w => by
       have h := iadd_c (x := lz) (y := (mk : Int)) (w := w) (lt64 HZL.out) (by rw [Int.natAbs_natCast]; exact lt64 HML.out) (up65 HS1.out)
       rwa [Int.natAbs_natCast, sg_nat] at h
      have HSUB : Hid (∀ w, Calls Tryz.prog 37 #[.agg #[.bool (sg (lz + (mk : Int))), .string (E (lz + (mk : Int)).natAbs)], .agg #[.bool (sg ((1 : Int))), .string (E ((1 : Int)).natAbs)]] w fun e w' => e = .returned (.tuple #[.agg #[.bool (sg (lz + (mk : Int) - 1)), .string (E (lz + (mk : Int) - 1).natAbs)], .int .i64 0]) ∧ Below w.heap.size w w') := fun w => isub_c (x := lz + (mk : Int)) (y := 1) (w := w) (up65 HS1.out) (by decide) (sub1_65 HS1.out)
      have HONE : Hid (∀ w, Calls Tryz.prog 47 #[.int .i64 1] w fun e w' => e = .returned (.agg #[.bool (sg ((1 : Int))), .string (E ((1 : Int)).natAbs)]) ∧ Below w.heap.size w w') := fun w => iof_c 1 w (by decide) (by decide)
      generalize lz + (mk : Int) = s1 at HADD HSUB HST
      generalize s1 - 1 = s2 at HSUB HST
      obtain ⟨o1, ho1⟩ : ∃ o : Int, o = 1 := ⟨_, rfl⟩
      rw [← ho1] at HSUB
      have HONE2 : Hid (∀ w, Calls Tryz.prog 47 #[.int .i64 1] w fun e w' => e = .returned (.agg #[.bool (sg (o1)), .string (E (o1).natAbs)]) ∧ Below w.heap.size w w') := by rw [ho1]; exact HONE.out
      clear ho1 HONE
      obtain ⟨hVXc0, hVXf0⟩ := hVX.x1
      obtain ⟨hXc0, hXf0, hXc1, hXf1⟩ := hX.x2
      go_upto_region 16 with fail
      clear hVXc0 hVXf0
      clear hXc0 hXf0 hXc1 hXf1
      generalize w9.alloc (.cells #[.bool (sg lz), .string (E lz.natAbs)] 53) = wx at hX hbX hVX q3X hbuX hVXl ⊢
      obtain ⟨gx, hgx⟩ : ∃ g, w9.heap.size = g := ⟨_, rfl⟩
      have HGX : Hid (w9.heap.size ≤ gx) := by rw [Hid, hgx]; exact Nat.le_refl _
      rw [hgx] at hX ⊢
      clear hgx
      replace hX : Blk wx gx 53 [.bool (sg lz), .string (E lz.natAbs)] := hX
      have hXl := hX.lt
      have hX0 := hX.drew
      obtain ⟨hX0c0, hX0f0, hX0c1, hX0f1⟩ := hX0.x2
      have q0 : wx.drew.cell? ⟨bu, ou + k, none⟩ = some (.string (E mk)) := q3X
      have k0 : gx < wx.drew.heap.size := hXl
      have k1 : bu < wx.drew.heap.size := hbuX
      go_wp2_with fail
      go_cut [60] (fun s60 wc' => Blk wc' gx 53 [.bool (sg s1), .string (E s1.natAbs)] ∧ Below w9.heap.size w9 wc')
      case first =>
       go_region_with (first | (go_at_call 36; (with_reducible refine (HFR.out _).mono ?_); rintro e wf ⟨rfl, hbf⟩; have hXf := hX0.after hbf; have hXfc0 := hXf.cell 0; have hXff0 := hXf.free 0; have hXfc1 := hXf.cell 1; have hXff1 := hXf.free 1; have hXfl := hXf.lt; have hbF := bt hbX ((Below.drew (Below.refl _ _)).trans hbf)) | (go_at_call 46; (with_reducible refine (HADD.out _).mono ?_); rintro e wd ⟨rfl, hbd⟩; have hXd := hXf.after hbd; have hXdc0 := hXd.cell 0; have hXdf0 := hXd.free 0; have hXdc1 := hXd.cell 1; have hXdf1 := hXd.free 1; have hXdl := hXd.lt; have hbD := bt hbF hbd))
       all_goals
        go_wp2_with fail
        go_meet
        exact ⟨(hXd.set 0 _).set 1 _, (hbD.setCell (p := ⟨gx, 0, none⟩) HGX.out _).setCell (p := ⟨gx, 1, none⟩) HGX.out _⟩
      case rest =>
      clear hX0c0 hX0f0 hX0c1 hX0f1
      clear q0 k0 k1 q3X hbuX hXl HFR HADD hX hX0 hbX
      obtain ⟨hX2, hbZ⟩ := hcut
      obtain ⟨wt, hwt⟩ : ∃ wx, wx = wc := ⟨_, rfl⟩
      subst hwt
      have hX0 := hX2.drew
      have hX2l := hX2.lt
      have k0 : gx < wt.drew.heap.size := hX2l
      obtain ⟨hX0c0, hX0f0, hX0c1, hX0f1⟩ := hX0.x2
      go_wp2_with fail
      go_cut [70] (fun s70 wc' => Blk wc' gx 53 [.bool (sg s2), .string (E s2.natAbs)] ∧ Below w9.heap.size w9 wc')
      case first =>
       go_region_with (first | (go_at_call 47; (with_reducible refine (HONE2.out _).mono ?_); rintro e wf ⟨rfl, hbf⟩; have hXf := hX0.after hbf; have hXfc0 := hXf.cell 0; have hXff0 := hXf.free 0; have hXfc1 := hXf.cell 1; have hXff1 := hXf.free 1; have hXfl := hXf.lt; have hbF := bt hbZ ((Below.drew (Below.refl _ _)).trans hbf)) | (go_at_call 37; (with_reducible refine (HSUB.out _).mono ?_); rintro e wd ⟨rfl, hbd⟩; have hXd := hXf.after hbd; have hXdc0 := hXd.cell 0; have hXdf0 := hXd.free 0; have hXdc1 := hXd.cell 1; have hXdf1 := hXd.free 1; have hXdl := hXd.lt; have hbD := bt hbF hbd))
       all_goals
        go_wp2_with fail
        go_meet
        exact ⟨(hXd.set 0 _).set 1 _, (hbD.setCell (p := ⟨gx, 0, none⟩) HGX.out _).setCell (p := ⟨gx, 1, none⟩) HGX.out _⟩
      case rest =>
      clear hX0c0 hX0f0 hX0c1 hX0f1
      clear k0 hX2l HONE2 HSUB hX2 hX0 hbZ
      obtain ⟨hX4, hbI⟩ := hcut
      obtain ⟨wo, hwo⟩ : ∃ wx, wx = wc := ⟨_, rfl⟩
      subst hwo
      obtain ⟨hX4c0, hX4f0, hX4c1, hX4f1⟩ := hX4.x2
      have hO8 : (wo).ownsRow w3.heap.size 22 1 u11 k (strs ((N.coinL C K Z).take k)) := own_after hO9 hbI
      have hbr8 := bt hbe hbI
      generalize (N.coinL C K Z).take k = LI at hO8 hO9 HST HLE
      have hsz8 := hbr8.size
      go_wp2_with (at_builtin; refine wpList_append_lies _ rfl (.tmp 76) (.tmp 79) _ rfl w3.heap.size 22 i0 _ 1 16 Tryz.underlying31 HI0.out HA0.out HB0.out HC0.out rfl (by omega) u11 k (strs LI) rfl (own_after hO8 (b1 _ (.cells #[.string (E s2.natAbs)] 22))) ⟨(wo).heap.size, 0, none⟩ 1 1 [.string (E s2.natAbs)] rfl rfl (Blk.new (wo) #[.string (E s2.natAbs)] 22).cells (by simp [Value.oneCell']) (by omega) (by simp only [maxLen]; omega) (by omega) (by rw [World.size_alloc]; omega) ((wo).heap.size + 1) (by simp) ?_; intro ga ca wz hown hgrow hat hlt2)
      have hOA : NOwn wz w3.heap.size (.slice (some ⟨ga, 0, none⟩) (k + 1) ca) (LI ++ [s2.natAbs]) := by rw [NOwn, List.length_append, HLE.out, ← strs_app]; exact hown
      rw [← HST.out] at hOA
      have hbA := (ba hbr8 (.cells #[.string (E s2.natAbs)] 22)).grown hgrow (by rw [World.size_alloc]; omega) (fun x hx => (own_lt hO8 hx).2)
      clear hown hgrow hat hlt2 hO8 hbr8
      go_wp2
      go_roundw
      case rel => exact ⟨k + 1, by omega, by go_num, HRS, hOA, hbA⟩
      case measure => simp [intOf]; omega
   ·obtain rfl : nz = k := by omega
    have HX := Lib.hid (coi_d HLN.out (by rw [← HN2.out]; exact HAL.out))
    have HTK : Hid ((N.coinL C K Z).take nz = N.coinL C K Z) := List.take_of_length_le (by rw [NSta.coinL, List.length_map, List.length_range, ← HN2.out]; exact Nat.le_refl _)
    rw [HTK.out] at hO
    have hs4 := hBW.size
    go_wp2
    go_ret2
    rw [HRES.out, HRL.out, HX.out.1, HX.out.2]
    exact ⟨_, rfl, own_mono hO hs4, hBW1⟩
 ·have hln2 : ¬ (nz : Int) = (n2 : Int) := by omega
  have HX := Lib.hid (coi_b (C := C) (K := K) (show Z.length ≠ N.vars.length by rw [← HNZ.out, ← HN2.out]; exact hln))
  obtain ⟨hPc0, hPf0, hPc1, hPf1, hPc2, hPf2⟩ := hP.x3
  go_wp2
  go_ret2
  rw [HRES.out, HRL.out, HX.out.1, HX.out.2]
  exact fpost_err rfl hBW
end Go.Proofs.YtehoiholhkfcpaaGreat
end
