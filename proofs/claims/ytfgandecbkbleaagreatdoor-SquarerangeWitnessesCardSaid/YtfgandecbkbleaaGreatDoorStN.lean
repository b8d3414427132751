import Derived.Test.YtfgandecbkbleaaGreatDoorLdvl
import Derived.Test.YtfgandecbkbleaaGreatDoorInt4
import Derived.Test.YtfgandecbkbleaaGreatDoorExp
section
set_option linter.unusedVariables false
set_option linter.unusedSimpArgs false
set_option maxRecDepth 100000
namespace Go.Proofs.YtfgandecbkbleaaGreatDoor
open Go.RowKit

/-- a slice that is only read: what each element's cells hold -/
def RAt {α : Type} (Q : World → α → List Value → Prop) (size : Nat) (w : World) (v : Value) (l : List α) : Prop :=
 ∃ ao c, v = .slice ao l.length c ∧ (l.length = 0 ∨ ∃ b o, ao = some ⟨b, o, none⟩ ∧ b < w.heap.size ∧ ∀ j (h : j < l.length), ∃ cs, Q w l[j] cs ∧ ∀ i, i < size → w.cell? ⟨b, o + j * size + i, none⟩ = cs[i]?)

theorem RAt.after {α : Type} {Q : World → α → List Value → Prop} {size : Nat} {w w' : World} {v : Value} {l : List α} (h : RAt Q size w v l) (hb : Below w.heap.size w w') (hQ : ∀ a cs, Q w a cs → Q w' a cs) : RAt Q size w' v l := by
 obtain ⟨ao, c, rfl, h⟩ := h
 refine ⟨ao, c, rfl, ?_⟩
 rcases h with h | ⟨b, o, h1, h2, h3⟩
 ·exact .inl h
 ·refine .inr ⟨b, o, h1, Nat.lt_of_lt_of_le h2 hb.size, fun j hj => ?_⟩
  obtain ⟨cs, h4, h5⟩ := h3 j hj
  exact ⟨cs, hQ _ _ h4, fun i hi => (hb.cell (p := ⟨b, o + j * size + i, none⟩) h2).trans (h5 i hi)⟩

theorem RAt.form {α : Type} {Q : World → α → List Value → Prop} {size : Nat} {w : World} {v : Value} {l : List α} (h : RAt Q size w v l) : ∃ ao c, v = .slice ao l.length c := by
 obtain ⟨ao, c, h, _⟩ := h
 exact ⟨ao, c, h⟩

theorem RAt.at_ {α : Type} {Q : World → α → List Value → Prop} {size n c : Nat} {w : World} {ao : Option Addr} {l : List α} (h : RAt Q size w (.slice ao n c) l) {k : Nat} (hk : k < l.length) :
  ∃ b o cs, ao = some ⟨b, o, none⟩ ∧ b < w.heap.size ∧ Q w l[k] cs ∧ ∀ i, i < size → w.cell? ⟨b, o + k * size + i, none⟩ = cs[i]? := by
 obtain ⟨ao', c', hv, h⟩ := h
 injection hv with e1 e2 e3
 subst e1
 rcases h with h | ⟨b, o, h1, h2, h3⟩
 ·omega
 ·obtain ⟨cs, h4, h5⟩ := h3 k hk
  exact ⟨b, o, cs, h1, h2, h4, h5⟩

/-- a term, an equation, a statement: any bytes -/
structure Trm where
 base : ByteArray
 var : Int
 neg : Bool
 abs : ByteArray
structure Eqn where
 grp : Int
 tgt : ByteArray
 trms : List Trm
structure Sta where
 grps : List (ByteArray × ByteArray)
 vars : List ByteArray
 eqs : List Eqn

def QStr (_ : World) (s : ByteArray) (cs : List Value) : Prop := cs = [.string s]
def QGrp (_ : World) (g : ByteArray × ByteArray) (cs : List Value) : Prop := cs = [.string g.1, .string g.2]
def QInt (_ : World) (x : Bool × ByteArray) (cs : List Value) : Prop := cs = [.bool x.1, .string x.2]
def QTrm (_ : World) (t : Trm) (cs : List Value) : Prop := cs = [.string t.base, .int .i64 t.var, .bool t.neg, .string t.abs]
def QEqn (w : World) (q : Eqn) (cs : List Value) : Prop := ∃ tv, cs = [.int .i64 q.grp, .string q.tgt, tv] ∧ RAt QTrm 4 w tv q.trms

/-- slices of strings, of groups, of integers, of terms, of equations -/
def SsAt := RAt QStr 1
def GsAt := RAt QGrp 2
def IsAt := RAt QInt 2
def TsAt := RAt QTrm 4
def EsAt := RAt QEqn 3

section
variable {w w' : World} {v : Value}
theorem SsAt.after {l : List ByteArray} (h : SsAt w v l) (hb : Below w.heap.size w w') : SsAt w' v l := RAt.after h hb (fun _ _ h => h)
theorem GsAt.after {l : List (ByteArray × ByteArray)} (h : GsAt w v l) (hb : Below w.heap.size w w') : GsAt w' v l := RAt.after h hb (fun _ _ h => h)
theorem IsAt.after {l : List (Bool × ByteArray)} (h : IsAt w v l) (hb : Below w.heap.size w w') : IsAt w' v l := RAt.after h hb (fun _ _ h => h)
theorem TsAt.after {l : List Trm} (h : TsAt w v l) (hb : Below w.heap.size w w') : TsAt w' v l := RAt.after h hb (fun _ _ h => h)
theorem EsAt.after {l : List Eqn} (h : EsAt w v l) (hb : Below w.heap.size w w') : EsAt w' v l :=
 RAt.after h hb (fun _ _ ⟨tv, h1, h2⟩ => ⟨tv, h1, RAt.after h2 hb (fun _ _ h => h)⟩)
end

section
variable {w : World} {ao : Option Addr} {n c k : Nat}
theorem SsAt.at_ {l : List ByteArray} (h : SsAt w (.slice ao n c) l) (hk : k < l.length) : ∃ b o, ao = some ⟨b, o, none⟩ ∧ b < w.heap.size ∧ w.cell? ⟨b, o + k, none⟩ = some (.string l[k]) := by
 obtain ⟨b, o, cs, h1, h2, h3, h4⟩ := RAt.at_ h hk
 have := h4 0 (by omega)
 rw [h3] at this
 exact ⟨b, o, h1, h2, by simpa using this⟩
theorem GsAt.at_ {l : List (ByteArray × ByteArray)} (h : GsAt w (.slice ao n c) l) (hk : k < l.length) : ∃ b o, ao = some ⟨b, o, none⟩ ∧ b < w.heap.size ∧ w.cell? ⟨b, o + k * 2, none⟩ = some (.string l[k].1) ∧ w.cell? ⟨b, o + k * 2 + 1, none⟩ = some (.string l[k].2) := by
 obtain ⟨b, o, cs, h1, h2, h3, h4⟩ := RAt.at_ h hk
 have e0 := h4 0 (by omega)
 have e1 := h4 1 (by omega)
 rw [h3] at e0 e1
 exact ⟨b, o, h1, h2, by simpa using e0, by simpa using e1⟩
theorem IsAt.at_ {l : List (Bool × ByteArray)} (h : IsAt w (.slice ao n c) l) (hk : k < l.length) : ∃ b o, ao = some ⟨b, o, none⟩ ∧ b < w.heap.size ∧ w.cell? ⟨b, o + k * 2, none⟩ = some (.bool l[k].1) ∧ w.cell? ⟨b, o + k * 2 + 1, none⟩ = some (.string l[k].2) := by
 obtain ⟨b, o, cs, h1, h2, h3, h4⟩ := RAt.at_ h hk
 have e0 := h4 0 (by omega)
 have e1 := h4 1 (by omega)
 rw [h3] at e0 e1
 exact ⟨b, o, h1, h2, by simpa using e0, by simpa using e1⟩
theorem TsAt.at_ {l : List Trm} (h : TsAt w (.slice ao n c) l) (hk : k < l.length) : ∃ b o, ao = some ⟨b, o, none⟩ ∧ b < w.heap.size ∧ w.cell? ⟨b, o + k * 4, none⟩ = some (.string l[k].base) ∧ w.cell? ⟨b, o + k * 4 + 1, none⟩ = some (.int .i64 l[k].var) ∧ w.cell? ⟨b, o + k * 4 + 2, none⟩ = some (.bool l[k].neg) ∧ w.cell? ⟨b, o + k * 4 + 3, none⟩ = some (.string l[k].abs) := by
 obtain ⟨b, o, cs, h1, h2, h3, h4⟩ := RAt.at_ h hk
 have e0 := h4 0 (by omega)
 have e1 := h4 1 (by omega)
 have e2 := h4 2 (by omega)
 have e3 := h4 3 (by omega)
 rw [h3] at e0 e1 e2 e3
 exact ⟨b, o, h1, h2, by simpa using e0, by simpa using e1, by simpa using e2, by simpa using e3⟩
theorem EsAt.at_ {l : List Eqn} (h : EsAt w (.slice ao n c) l) (hk : k < l.length) : ∃ b o tv, ao = some ⟨b, o, none⟩ ∧ b < w.heap.size ∧ w.cell? ⟨b, o + k * 3, none⟩ = some (.int .i64 l[k].grp) ∧ w.cell? ⟨b, o + k * 3 + 1, none⟩ = some (.string l[k].tgt) ∧ w.cell? ⟨b, o + k * 3 + 2, none⟩ = some tv ∧ TsAt w tv l[k].trms := by
 obtain ⟨b, o, cs, h1, h2, ⟨tv, h3, h5⟩, h4⟩ := RAt.at_ h hk
 have e0 := h4 0 (by omega)
 have e1 := h4 1 (by omega)
 have e2 := h4 2 (by omega)
 rw [h3] at e0 e1 e2
 exact ⟨b, o, tv, h1, h2, by simpa using e0, by simpa using e1, by simpa using e2, h5⟩
end

/-- a statement that is only read -/
structure StAt (w : World) (v1 v2 v3 : Value) (S : Sta) : Prop where
 g : GsAt w v1 S.grps
 v : SsAt w v2 S.vars
 e : EsAt w v3 S.eqs

theorem StAt.after {w w' : World} {v1 v2 v3 : Value} {S : Sta} (h : StAt w v1 v2 v3 S) (hb : Below w.heap.size w w') : StAt w' v1 v2 v3 S := ⟨h.g.after hb, h.v.after hb, h.e.after hb⟩

end Go.Proofs.YtfgandecbkbleaaGreatDoor
end

section
set_option linter.unusedVariables false
set_option linter.unusedSimpArgs false
set_option maxRecDepth 100000
namespace Go.Proofs.YtfgandecbkbleaaGreatDoor
open Go.RowKit

theorem valB_c (s : ByteArray) (b : Bool) (w : World) (hs : s.size ≤ 1000) (h : vldB s = b) : Calls Tryz.prog 88 #[.string s] w fun e w' => e = .returned (.bool b) ∧ w' = w := by
 rw [← h]; exact (valid_c s w (by omega)).mono fun _ _ h => ⟨h.1, h.2.symm⟩

theorem ivalB_c (n : Bool) (s : ByteArray) (b : Bool) (w : World) (hs : s.size ≤ 1000) (h : ivB n s = b) : Calls Tryz.prog 87 #[.agg #[.bool n, .string s]] w fun e w' => e = .returned (.bool b) ∧ Below w.heap.size w w' := by
 rw [← h]; exact ivalid_c n s w (by omega)

/-- the conditions of the first group -/
def gokB (g : ByteArray × ByteArray) : Bool := vldB g.1 && vldB g.2
def tokB (nv : Nat) (t : Trm) : Bool := decide (0 ≤ t.var) && decide (t.var < (nv : Int)) && vldB t.base && ivB t.neg t.abs
def eokB (ng nv : Nat) (q : Eqn) : Bool := decide (0 ≤ q.grp) && decide (q.grp < (ng : Int)) && vldB q.tgt && q.trms.all (tokB nv)
def formB (S : Sta) : Bool := S.grps.all gokB && S.vars.all vldB && S.eqs.all (eokB S.grps.length S.vars.length)

/-- sizes within which statements are read -/
structure SSm (S : Sta) : Prop where
 ng : S.grps.length ≤ 1000
 nv : S.vars.length ≤ 1000
 ne : S.eqs.length ≤ 1000
 g : ∀ x ∈ S.grps, x.1.size ≤ 1000 ∧ x.2.size ≤ 1000
 v : ∀ x ∈ S.vars, x.size ≤ 1000
 e : ∀ x ∈ S.eqs, x.tgt.size ≤ 1000 ∧ x.trms.length ≤ 1000 ∧ ∀ t ∈ x.trms, t.base.size ≤ 1000 ∧ t.abs.size ≤ 1000

theorem all_take {α : Type} (p : α → Bool) (l : List α) (k : Nat) (h : k < l.length) : (l.take (k + 1)).all p = ((l.take k).all p && p l[k]) := by
 rw [List.take_succ_eq_append_getElem h, List.all_append]; simp

theorem all_bad {α : Type} (p : α → Bool) (l : List α) (k : Nat) (h : k < l.length) (hb : p l[k] = false) : l.all p = false := by
 rw [List.all_eq_false]; exact ⟨l[k], List.getElem_mem h, by simp [hb]⟩

theorem all_end {α : Type} (p : α → Bool) (l : List α) (k : Nat) (h : k = l.length) (hb : (l.take k).all p = true) : l.all p = true := by
 rw [h, List.take_length] at hb; exact hb

end Go.Proofs.YtfgandecbkbleaaGreatDoor
end

section
set_option linter.unusedVariables false
set_option linter.unusedSimpArgs false
set_option maxRecDepth 100000
namespace Go.Proofs.YtfgandecbkbleaaGreatDoor
open Go.RowKit

/-- a term, an equation, a statement in numbers -/
structure NTrm where
 base : Nat
 var : Nat
 coef : Int
structure NEqn where
 grp : Nat
 tgt : Nat
 trms : List NTrm
structure NSta where
 grps : List (Nat × Nat)
 vars : List Nat
 eqs : List NEqn

def NTrm.t (x : NTrm) : Trm := ⟨E x.base, (x.var : Int), sg x.coef, E x.coef.natAbs⟩
def NEqn.q (x : NEqn) : Eqn := ⟨(x.grp : Int), E x.tgt, x.trms.map NTrm.t⟩
def gE (g : Nat × Nat) : ByteArray × ByteArray := (E g.1, E g.2)
def NSta.s (x : NSta) : Sta := ⟨x.grps.map gE, x.vars.map E, x.eqs.map NEqn.q⟩

/-- the sizes of a statement -/
def gszB (g : ByteArray × ByteArray) : Bool := decide (g.1.size ≤ 8) && decide (g.2.size ≤ 8)
def tszB (t : Trm) : Bool := decide (t.base.size ≤ 16) && decide (t.abs.size ≤ 16)
def eszB (q : Eqn) : Bool := decide (q.trms.length ≤ 12) && decide (q.tgt.size ≤ 16) && q.trms.all tszB
def vszB (s : ByteArray) : Bool := decide (s.size ≤ 32)
def fewB (S : Sta) : Bool := decide (S.grps.length ≤ 10) && decide (S.vars.length ≤ 12) && decide (S.eqs.length ≤ 12) && S.grps.all gszB && S.vars.all vszB && S.eqs.all eszB

structure NOk (N : NSta) : Prop where
 ng : N.grps.length ≤ 10
 nv : N.vars.length ≤ 12
 ne : N.eqs.length ≤ 12
 g : ∀ x ∈ N.grps, x.1 < 256 ^ 8 ∧ x.2 < 256 ^ 8
 v : ∀ x ∈ N.vars, x < 256 ^ 32
 e : ∀ q ∈ N.eqs, q.grp < N.grps.length ∧ q.tgt < 256 ^ 16 ∧ q.trms.length ≤ 12 ∧ ∀ t ∈ q.trms, t.base < 256 ^ 16 ∧ t.var < N.vars.length ∧ t.coef.natAbs < 256 ^ 16

theorem list_lift {α β : Type} (f : β → α) (P : β → Prop) : ∀ (l : List α), (∀ x ∈ l, ∃ y, f y = x ∧ P y) → ∃ l' : List β, l'.map f = l ∧ ∀ y ∈ l', P y
 | [], _ => ⟨[], rfl, fun y h => by cases h⟩
 | x :: t, h => by
  obtain ⟨y, h1, h2⟩ := h x (List.mem_cons_self ..)
  obtain ⟨l, h3, h4⟩ := list_lift f P t (fun z hz => h z (List.mem_cons_of_mem _ hz))
  refine ⟨y :: l, by rw [List.map_cons, h1, h3], fun z hz => ?_⟩
  rcases List.mem_cons.1 hz with h | h
  ·rw [h]; exact h2
  ·exact h4 z h

theorem lt_of_size {n k : Nat} (h : (E n).size ≤ k) : n < 256 ^ k := (E_size_le n k).1 h

theorem trm_num (nv : Nat) (t : Trm) (h1 : tokB nv t = true) (h2 : tszB t = true) : ∃ y : NTrm, y.t = t ∧ (y.base < 256 ^ 16 ∧ y.var < nv ∧ y.coef.natAbs < 256 ^ 16) := by
 obtain ⟨tb, tv, tn, ta⟩ := t
 simp only [tokB, tszB, Bool.and_eq_true, decide_eq_true_eq] at h1 h2
 obtain ⟨⟨⟨h0, hlt⟩, hb⟩, hi⟩ := h1
 obtain ⟨b, _, rfl⟩ := of_vldB hb
 obtain ⟨z, _, rfl, rfl⟩ := of_ivB hi
 obtain ⟨v, rfl⟩ := Int.eq_ofNat_of_zero_le h0
 exact ⟨⟨b, v, z⟩, rfl, lt_of_size h2.1, Int.ofNat_lt.1 hlt, lt_of_size h2.2⟩

theorem eqn_num (ng nv : Nat) (q : Eqn) (h1 : eokB ng nv q = true) (h2 : eszB q = true) : ∃ y : NEqn, y.q = q ∧ (y.grp < ng ∧ y.tgt < 256 ^ 16 ∧ y.trms.length ≤ 12 ∧ ∀ t ∈ y.trms, t.base < 256 ^ 16 ∧ t.var < nv ∧ t.coef.natAbs < 256 ^ 16) := by
 obtain ⟨qg, qt, qs⟩ := q
 simp only [eokB, eszB, Bool.and_eq_true, decide_eq_true_eq, List.all_eq_true] at h1 h2
 obtain ⟨⟨⟨h0, hlt⟩, hb⟩, hi⟩ := h1
 obtain ⟨b, _, rfl⟩ := of_vldB hb
 obtain ⟨g, rfl⟩ := Int.eq_ofNat_of_zero_le h0
 obtain ⟨l, hl, hp⟩ := list_lift NTrm.t (fun y => y.base < 256 ^ 16 ∧ y.var < nv ∧ y.coef.natAbs < 256 ^ 16) qs (fun t ht => trm_num nv t (hi t ht) (h2.2 t ht))
 refine ⟨⟨g, b, l⟩, by rw [NEqn.q, hl], Int.ofNat_lt.1 hlt, lt_of_size h2.1.2, ?_, hp⟩
 have : (l.map NTrm.t).length ≤ 12 := by rw [hl]; exact Nat.le_trans h2.1.1 (by decide)
 simpa using this

/-- a small statement that satisfies the conditions of the first group is one of numbers -/
theorem to_num (S : Sta) (h1 : formB S = true) (h2 : fewB S = true) : ∃ N : NSta, N.s = S ∧ NOk N := by
 obtain ⟨gs, vs, es⟩ := S
 simp only [formB, fewB, Bool.and_eq_true, decide_eq_true_eq, List.all_eq_true] at h1 h2
 obtain ⟨⟨⟨⟨⟨l1, l2⟩, l3⟩, hg⟩, hv⟩, he⟩ := h2
 obtain ⟨⟨kg, kv⟩, ke⟩ := h1
 obtain ⟨G, hG, pG⟩ := list_lift gE (fun x => x.1 < 256 ^ 8 ∧ x.2 < 256 ^ 8) gs (fun x hx => by
  have h3 := kg x hx
  have h4 := hg x hx
  simp only [gokB, gszB, Bool.and_eq_true, decide_eq_true_eq] at h3 h4
  obtain ⟨a, b⟩ := x
  obtain ⟨m, _, rfl⟩ := of_vldB h3.1
  obtain ⟨n, _, rfl⟩ := of_vldB h3.2
  exact ⟨(m, n), rfl, lt_of_size h4.1, lt_of_size h4.2⟩)
 obtain ⟨V, hV, pV⟩ := list_lift E (fun x => x < 256 ^ 32) vs (fun x hx => by
  have h3 := kv x hx
  have h4 := hv x hx
  obtain ⟨m, _, rfl⟩ := of_vldB h3
  simp only [vszB, decide_eq_true_eq] at h4
  exact ⟨m, rfl, lt_of_size h4⟩)
 obtain ⟨Q, hQ, pQ⟩ := list_lift NEqn.q (fun y => y.grp < gs.length ∧ y.tgt < 256 ^ 16 ∧ y.trms.length ≤ 12 ∧ ∀ t ∈ y.trms, t.base < 256 ^ 16 ∧ t.var < vs.length ∧ t.coef.natAbs < 256 ^ 16) es (fun x hx => eqn_num _ _ x (ke x hx) (he x hx))
 have e1 : gs.length = G.length := by rw [← hG]; simp
 have e2 : vs.length = V.length := by rw [← hV]; simp
 have e3 : es.length = Q.length := by rw [← hQ]; simp
 rw [e1, e2] at pQ
 rw [e1] at l1
 rw [e2] at l2
 rw [e3] at l3
 exact ⟨⟨G, V, Q⟩, by rw [NSta.s, hG, hV, hQ], ⟨Nat.le_trans l1 (by decide), Nat.le_trans l2 (by decide), Nat.le_trans l3 (by decide), pG, pV, pQ⟩⟩

theorem NOk.ssm {N : NSta} (h : NOk N) : SSm N.s where
 ng := by have := h.ng; simp [NSta.s]; omega
 nv := by have := h.nv; simp [NSta.s]; omega
 ne := by have := h.ne; simp [NSta.s]; omega
 g := by
  intro x hx
  obtain ⟨y, hy, rfl⟩ := List.mem_map.1 hx
  have h1 := (E_size_le _ _).2 (h.g y hy).1
  have h2 := (E_size_le _ _).2 (h.g y hy).2
  exact ⟨by simp only [gE]; omega, by simp only [gE]; omega⟩
 v := by
  intro x hx
  obtain ⟨y, hy, rfl⟩ := List.mem_map.1 hx
  have h1 := (E_size_le _ _).2 (h.v y hy)
  omega
 e := by
  intro x hx
  obtain ⟨y, hy, rfl⟩ := List.mem_map.1 hx
  obtain ⟨_, h1, h2, h3⟩ := h.e y hy
  have h1 := (E_size_le _ _).2 h1
  refine ⟨by simp only [NEqn.q]; omega, by simp only [NEqn.q, List.length_map]; omega, fun t ht => ?_⟩
  obtain ⟨z, hz, rfl⟩ := List.mem_map.1 ht
  obtain ⟨h4, _, h5⟩ := h3 z hz
  have h4 := (E_size_le _ _).2 h4
  have h5 := (E_size_le _ _).2 h5
  exact ⟨by simp only [NTrm.t]; omega, by simp only [NTrm.t]; omega⟩

theorem NOk.form {N : NSta} (h : NOk N) : formB N.s = true := by
 simp only [formB, Bool.and_eq_true, List.all_eq_true]
 refine ⟨⟨fun x hx => ?_, fun x hx => ?_⟩, fun x hx => ?_⟩
 ·obtain ⟨y, hy, rfl⟩ := List.mem_map.1 hx
  simp only [gokB, gE, Bool.and_eq_true]
  exact ⟨vldB_E _ (Nat.lt_of_lt_of_le (h.g y hy).1 (by decide)), vldB_E _ (Nat.lt_of_lt_of_le (h.g y hy).2 (by decide))⟩
 ·obtain ⟨y, hy, rfl⟩ := List.mem_map.1 hx
  exact vldB_E _ (Nat.lt_of_lt_of_le (h.v y hy) (by decide))
 ·obtain ⟨y, hy, rfl⟩ := List.mem_map.1 hx
  obtain ⟨h1, h2, h3, h4⟩ := h.e y hy
  simp only [eokB, NEqn.q, Bool.and_eq_true, decide_eq_true_eq, List.all_eq_true, NSta.s, List.length_map]
  refine ⟨⟨⟨decide_eq_true (Int.natCast_nonneg _), Int.ofNat_lt.2 h1⟩, vldB_E _ (Nat.lt_of_lt_of_le h2 (by decide))⟩, fun t ht => ?_⟩
  obtain ⟨z, hz, rfl⟩ := List.mem_map.1 ht
  obtain ⟨h5, h6, h7⟩ := h4 z hz
  simp only [tokB, NTrm.t, Bool.and_eq_true, decide_eq_true_eq]
  exact ⟨⟨⟨decide_eq_true (Int.natCast_nonneg _), decide_eq_true (Int.ofNat_lt.2 h6)⟩, vldB_E _ (Nat.lt_of_lt_of_le h5 (by decide))⟩, ivB_I _ (Nat.lt_of_lt_of_le h7 (by decide))⟩

/-- the group of an equation; the order; the error of a statement -/
def NSta.gp (N : NSta) (q : NEqn) : Nat × Nat := N.grps.getD q.grp (0, 0)
def NSta.ord (N : NSta) : Nat := ((N.grps.map (·.2)).find? (· != 0)).getD 0
def hasQ (g : Nat × Nat) (t : NTrm) : Bool := hasB g.1 g.2 t.base
def elemQ (N : NSta) (q : NEqn) : Bool := hasB (N.gp q).1 (N.gp q).2 q.tgt && q.trms.all (hasQ (N.gp q))
def gr0 (g : Nat × Nat) : Bool := grpE g.1 g.2 == 0
def NSta.elem (N : NSta) : Bool := N.grps.all gr0 && N.eqs.all (elemQ N)
def vz (n : Nat) : Bool := n == 0
def NSta.tz (N : NSta) (t : NTrm) : Bool := vz (N.vars.getD t.var 0)
def gq (n : Nat) (g : Nat × Nat) : Bool := g.2 != 0 && g.2 != n
def kindQ (N : NSta) (q : NEqn) : Bool := !(vz (N.gp q).2) || !(q.trms.any N.tz)
def NSta.typ (N : NSta) : Bool := !(N.vars.any vz) || (!(vz N.ord) && !(N.grps.any (gq N.ord)) && N.eqs.all (kindQ N))
def NSta.chk (N : NSta) : Nat := if 8 < N.grps.length then 6 else if N.elem = false then 13 else if N.typ = false then 10 else 0

/-- what is read -/
def NAt (w : World) (v1 v2 v3 : Value) (N : NSta) : Prop := StAt w v1 v2 v3 N.s
def TNAt (w : World) (v : Value) (l : List NTrm) : Prop := TsAt w v (l.map NTrm.t)

theorem NAt.after {w w' : World} {v1 v2 v3 : Value} {N : NSta} (h : NAt w v1 v2 v3 N) (hb : Below w.heap.size w w') : NAt w' v1 v2 v3 N := StAt.after h hb
theorem TNAt.after {w w' : World} {v : Value} {l : List NTrm} (h : TNAt w v l) (hb : Below w.heap.size w w') : TNAt w' v l := TsAt.after h hb

theorem NAt.forms {w : World} {v1 v2 v3 : Value} {N : NSta} (h : NAt w v1 v2 v3 N) : ∃ a1 c1 a2 c2 a3 c3, v1 = .slice a1 N.grps.length c1 ∧ v2 = .slice a2 N.vars.length c2 ∧ v3 = .slice a3 N.eqs.length c3 := by
 obtain ⟨a1, c1, h1⟩ := RAt.form h.g
 obtain ⟨a2, c2, h2⟩ := RAt.form h.v
 obtain ⟨a3, c3, h3⟩ := RAt.form h.e
 exact ⟨a1, c1, a2, c2, a3, c3, by rw [h1]; simp [NSta.s], by rw [h2]; simp [NSta.s], by rw [h3]; simp [NSta.s]⟩

theorem TNAt.form {w : World} {v : Value} {l : List NTrm} (h : TNAt w v l) : ∃ a c, v = .slice a l.length c := by
 obtain ⟨a1, c1, h1⟩ := RAt.form h
 exact ⟨a1, c1, by rw [h1]; simp⟩

section
variable {w : World} {ao : Option Addr} {n c k : Nat} {v1 v2 v3 : Value} {N : NSta}
theorem NAt.gat (h : NAt w (.slice ao n c) v2 v3 N) (hk : k < N.grps.length) : ∃ b o, ao = some ⟨b, o, none⟩ ∧ b < w.heap.size ∧ w.cell? ⟨b, o + k * 2, none⟩ = some (.string (E N.grps[k].1)) ∧ w.cell? ⟨b, o + k * 2 + 1, none⟩ = some (.string (E N.grps[k].2)) := by
 have hk' : k < N.s.grps.length := by simpa [NSta.s] using hk
 obtain ⟨b, o, h1, h2, h3, h4⟩ := GsAt.at_ h.g hk'
 simp only [NSta.s, List.getElem_map, gE] at h3 h4
 exact ⟨b, o, h1, h2, h3, h4⟩
theorem NAt.vat (h : NAt w v1 (.slice ao n c) v3 N) (hk : k < N.vars.length) : ∃ b o, ao = some ⟨b, o, none⟩ ∧ b < w.heap.size ∧ w.cell? ⟨b, o + k, none⟩ = some (.string (E N.vars[k])) := by
 have hk' : k < N.s.vars.length := by simpa [NSta.s] using hk
 obtain ⟨b, o, h1, h2, h3⟩ := SsAt.at_ h.v hk'
 simp only [NSta.s, List.getElem_map] at h3
 exact ⟨b, o, h1, h2, h3⟩
theorem NAt.eat (h : NAt w v1 v2 (.slice ao n c) N) (hk : k < N.eqs.length) : ∃ b o tv, ao = some ⟨b, o, none⟩ ∧ b < w.heap.size ∧ w.cell? ⟨b, o + k * 3, none⟩ = some (.int .i64 (N.eqs[k].grp : Int)) ∧ w.cell? ⟨b, o + k * 3 + 1, none⟩ = some (.string (E N.eqs[k].tgt)) ∧ w.cell? ⟨b, o + k * 3 + 2, none⟩ = some tv ∧ TNAt w tv N.eqs[k].trms := by
 have hk' : k < N.s.eqs.length := by simpa [NSta.s] using hk
 obtain ⟨b, o, tv, h1, h2, h3, h4, h5, h6⟩ := EsAt.at_ h.e hk'
 simp only [NSta.s, List.getElem_map, NEqn.q] at h3 h4 h6
 exact ⟨b, o, tv, h1, h2, h3, h4, h5, h6⟩
theorem TNAt.at_ {l : List NTrm} (h : TNAt w (.slice ao n c) l) (hk : k < l.length) : ∃ b o, ao = some ⟨b, o, none⟩ ∧ b < w.heap.size ∧ w.cell? ⟨b, o + k * 4, none⟩ = some (.string (E l[k].base)) ∧ w.cell? ⟨b, o + k * 4 + 1, none⟩ = some (.int .i64 (l[k].var : Int)) ∧ w.cell? ⟨b, o + k * 4 + 2, none⟩ = some (.bool (sg l[k].coef)) ∧ w.cell? ⟨b, o + k * 4 + 3, none⟩ = some (.string (E l[k].coef.natAbs)) := by
 have hk' : k < (l.map NTrm.t).length := by simpa using hk
 obtain ⟨b, o, h1, h2, h3, h4, h5, h6⟩ := TsAt.at_ h hk'
 simp only [List.getElem_map, NTrm.t] at h3 h4 h5 h6
 exact ⟨b, o, h1, h2, h3, h4, h5, h6⟩
end

end Go.Proofs.YtfgandecbkbleaaGreatDoor
end
