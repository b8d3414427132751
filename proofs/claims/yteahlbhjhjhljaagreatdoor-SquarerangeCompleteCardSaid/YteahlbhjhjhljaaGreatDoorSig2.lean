import Derived.Test.YteahlbhjhjhljaaGreatDoorImg4
set_option linter.unusedVariables false
set_option linter.unusedSimpArgs false
set_option maxRecDepth 100000
set_option maxHeartbeats 16000000
namespace Go.Proofs.YteahlbhjhjhljaaGreatDoor
section
open Go.RowKit Go.Shelf
def blw (b:Nat) (x:Int) (l:Nat):Bool:=decide (x.natAbs<l)&&(!(vz b) || !(sg x))
theorem blw_ge {b l:Nat} {x:Int} (h:l≤x.natAbs):blw b x l=false:=by unfold blw;rw [decide_eq_false (by omega)];rfl
theorem blw_pos {b l:Nat} {x:Int} (h:x.natAbs<l) (hb:0<b):blw b x l=true:=by unfold blw;rw [decide_eq_true h,vz_pos hb];rfl
end
section
open Go.RowKit Go.Shelf
def lcs (L:List (Nat × Nat)):List Value:=L.flatMap fun x=>[.string (E x.1),.string (E x.2)]
theorem lcs_get (L:List (Nat × Nat)) (j:Nat) (h:j<L.length):(lcs L)[j*2]?=some (.string (E L[j].1))∧(lcs L)[j*2+1]?=some (.string (E L[j].2)):=by
 induction L generalizing j with
 | nil=>simp at h
 | cons x t ih =>
  cases j with
  | zero=>exact ⟨rfl,rfl⟩
  | succ j =>
   have h':j<t.length:=by simpa using h
   have:=ih j h';rw [show (j+1)*2=j*2+2 by omega];simpa [lcs] using this
def LmOwn (w:World) (base:Nat) (v:Value) (L:List (Nat × Nat)):Prop:=w.ownsRow base 142 2 v L.length (lcs L)
theorem LmOwn.after {w w':World} {base:Nat} {v:Value} {L:List (Nat × Nat)} (h:LmOwn w base v L) (hb:Below w.heap.size w w'):LmOwn w' base v L:=own_after h hb
theorem LmOwn.form {w:World} {base:Nat} {v:Value} {L:List (Nat × Nat)} (h:LmOwn w base v L):∃ao c,v=.slice ao L.length c:=by
 have k:w.ownsRow base 142 2 v L.length (lcs L):=h;rcases k.2 with ⟨rfl,h2⟩ | ⟨g,cap,cur,rfl,_⟩
 ·exact ⟨none,0,by rw [h2]⟩
 ·exact ⟨_,_,rfl⟩
theorem LmOwn.at_ {w:World} {base n c:Nat} {ao:Option Addr} {L:List (Nat × Nat)} (h:LmOwn w base (.slice ao n c) L) {j:Nat} (hj:j<L.length) :
  ∃b,ao=some ⟨b,0,none⟩∧b<w.heap.size∧w.cell? ⟨b,j*2,none⟩=some (.string (E L[j].1))∧w.cell? ⟨b,j*2+1,none⟩=some (.string (E L[j].2)):=by
 have k:w.ownsRow base 142 2 (.slice ao n c) L.length (lcs L):=h;rcases k.2 with ⟨hv,h2⟩ | ⟨g,cap,cur,hv,h3,h4,_⟩
 ·omega
 ·injection hv with e1 e2 e3
  subst e1 e2 e3;obtain ⟨q1,q2⟩:=lcs_get L j hj;exact ⟨g,rfl,(Array.getElem?_eq_some_iff.1 h4).1,own_cellS k _ _ q1,own_cellS k _ _ q2⟩
theorem ord_lt {N:NSta} (hm:NOk N):N.ord<256^8:=by
 by_cases h:N.grps.all og=true
 ·rw [ord_none N h];decide
 ·unfold NSta.ord;cases hf:(N.grps.map (·.2)).find? (· != 0) with
  | none=>exact Nat.pow_pos (by decide)
  | some q =>
   have:=List.mem_of_find?_eq_some hf;obtain ⟨g,hg,rfl⟩:=List.mem_map.1 this;exact (hm.g g hg).2
end
end Go.Proofs.YteahlbhjhjhljaaGreatDoor
