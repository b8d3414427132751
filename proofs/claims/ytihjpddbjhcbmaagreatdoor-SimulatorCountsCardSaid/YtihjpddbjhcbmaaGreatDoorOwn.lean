import Derived.Test.YtihjpddbjhcbmaaGreatDoorMod1
import Derived.Deep.DrawnRows
import Derived.Deep.RegionLaw
import Derived.Laws.OwnMore
set_option linter.unusedVariables false
set_option linter.unusedSimpArgs false
set_option maxRecDepth 100000
set_option maxHeartbeats 16000000
namespace Go.Proofs.YtihjpddbjhcbmaaGreatDoor
open Go.RowKit Go.Shelf
/- rows that a call owns -/
theorem own_keep {w w':World} {base:Nat} {e:TypeId} {size:Nat} {v:Value} {n:Nat} {xs:List Value} (h:w.ownsRow base e size v n xs) (hk:∀g,v.ownBlock=some g→w'.heap[g]?=w.heap[g]?):w'.ownsRow base e size v n xs:=by
 refine⟨h.1,?_⟩;rcases h.2 with h2 | ⟨g,cap,cur,rfl,h3,h4,h5⟩
 ·exact .inl h2
 ·exact .inr ⟨g,cap,cur,rfl,h3,by rw[hk g rfl];exact h4,h5⟩
theorem own_lt {w:World} {base:Nat} {e:TypeId} {size:Nat} {v:Value} {n:Nat} {xs:List Value} (h:w.ownsRow base e size v n xs) {g:Nat} (hg:v.ownBlock=some g):g<w.heap.size∧base≤g:=by
 rcases h.2 with⟨rfl,_⟩ | ⟨g',cap,cur,rfl,h3,h4,_⟩
 ·simp[Value.ownBlock]at hg
 ·have:g'=g:=by simpa [Value.ownBlock] using hg
  subst this;exact⟨(Array.getElem?_eq_some_iff.1 h4).1,h3⟩
theorem own_after {w w':World} {base:Nat} {e:TypeId} {size:Nat} {v:Value} {n:Nat} {xs:List Value} (h:w.ownsRow base e size v n xs) (hb:Bw w w'):w'.ownsRow base e size v n xs:=
 own_keep h fun g hg=>hb.block g (own_lt h hg).1
theorem own_ne {w:World} {base:Nat} {e T:TypeId} {size g:Nat} {v:Value} {n:Nat} {xs cs:List Value} (h:w.ownsRow base e size v n xs) (hg:Blk w g T cs) (hb:e≠T):v.ownBlock≠some g:=by
 intro hv;rcases h.2 with⟨rfl,_⟩ | ⟨g',cap,cur,rfl,h3,h4,_⟩
 ·simp[Value.ownBlock]at hv
 ·have:g'=g:=by simpa [Value.ownBlock] using hv
  subst this;rw[show w.heap[g']?=some (.cells cs.toArray T (0,0)) from hg]at h4;injection h4 with h4
  injection h4 with _ h4
  exact hb h4.symm
theorem own_ne2 {w:World} {b1 b2:Nat} {e1 e2:TypeId} {s1 s2 n1 n2:Nat} {v1 v2:Value} {x1 x2:List Value} (h:w.ownsRow b1 e1 s1 v1 n1 x1) (k:w.ownsRow b2 e2 s2 v2 n2 x2) (hb:e1≠e2) {g:Nat} (h1:v1.ownBlock=some g):v2.ownBlock≠some g:=by
 intro h2;rcases h.2 with⟨rfl,_⟩ | ⟨g',cap,cur,rfl,_,h4,_⟩
 ·simp[Value.ownBlock]at h1
 ·rcases k.2 with⟨rfl,_⟩ | ⟨g2,cap2,cur2,rfl,_,k4,_⟩
  ·simp[Value.ownBlock]at h2
  ·have e1:g'=g:=by simpa [Value.ownBlock] using h1
   have e2:g2=g:=by simpa [Value.ownBlock] using h2
   subst e1;subst e2;rw[h4]at k4;injection k4 with k4
   injection k4 with _ k4
   exact hb k4
theorem Blk.grown {w w':World} {g:Nat} {T:TypeId} {cs:List Value} {row:Option Nat} (h:Blk w g T cs) (hg:w.grownBy w' row) (hb:row≠some g):Blk w' g T cs:=by
 unfold Blk;rw[hg.block g h.lt (fun e=>hb e.symm)];exact h
theorem own_set {w:World} {base:Nat} {e:TypeId} {size:Nat} {v:Value} {n:Nat} {xs:List Value} {g i:Nat} {u:Value} (h:w.ownsRow base e size v n xs) (hc:v.ownBlock≠some g):(w.setCell ⟨g,i,none⟩ u).ownsRow base e size v n xs:=
 own_keep h fun b hb=>heap_setCell_other w ⟨g,i,none⟩ b u (fun e=>hc (by rw[hb,e]))
theorem own_cellS {w:World} {base g n c size:Nat} {e:TypeId} {xs:List Value} (h:w.ownsRow base e size (.slice (some ⟨g,0,none⟩) n c) n xs) (j:Nat) (u:Value) (hj:xs[j]?=some u):w.cell? ⟨g,j,none⟩=some u:=by
 have:=h.cells (g:=g) rfl j u hj;rwa [Addr.add_lit,Nat.zero_add]at this
theorem own_mono {w:World} {base b':Nat} {e:TypeId} {size:Nat} {v:Value} {n:Nat} {xs:List Value} (h:w.ownsRow base e size v n xs) (hb:b'≤base):w.ownsRow b' e size v n xs:=by
 refine⟨h.1,?_⟩;rcases h.2 with h1 | ⟨g,cap,cur,h3,h4,h5⟩
 ·exact .inl h1
 ·exact .inr ⟨g,cap,cur,h3,Nat.le_trans hb h4,h5⟩
theorem own_grown {w w':World} {b1 b2:Nat} {e1 e2:TypeId} {s1 s2 n1 n2:Nat} {v1 v2:Value} {x1 x2:List Value} (h:w.ownsRow b1 e1 s1 v1 n1 x1) (k:w.ownsRow b2 e2 s2 v2 n2 x2) (hb:e1≠e2) (hg:w.grownBy w' v2.ownBlock):w'.ownsRow b1 e1 s1 v1 n1 x1:=
 own_keep h fun x hv=>hg.block x (own_lt h hv).1 (fun e'=>own_ne2 h k hb hv e'.symm)
def ics (L:List (Bool × ByteArray)):List Value:=L.flatMap fun x=>[.bool x.1,.string x.2]
theorem ics_get (L:List (Bool × ByteArray)) (j:Nat) (h:j<L.length):(ics L)[j*2]?=some (.bool L[j].1)∧(ics L)[j*2+1]?=some (.string L[j].2):=by
 induction L generalizing j with
 | nil=>simp at h
 | cons x t ih =>
  cases j with
  | zero=>exact⟨rfl,rfl⟩
  | succ j =>
   have h':j<t.length:=by simpa using h
   have:=ih j h';rw[show (j+1)*2=j*2+2 by omega];simpa [ics] using this
end Go.Proofs.YtihjpddbjhcbmaaGreatDoor
