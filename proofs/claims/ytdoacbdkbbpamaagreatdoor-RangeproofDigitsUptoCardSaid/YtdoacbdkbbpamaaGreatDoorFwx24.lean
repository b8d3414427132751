import Derived.Test.YtdoacbdkbbpamaaGreatDoorLdvl
import Derived.Test.YtdoacbdkbbpamaaGreatDoorFs5
import Derived.Test.YtdoacbdkbbpamaaGreatDoorExp
import Derived.Test.YtdoacbdkbbpamaaGreatDoorRInt5
import Derived.Deep.DrawnRows
import Derived.Deep.RegionLaw
import Derived.Laws.OwnMore
set_option linter.unusedVariables false
set_option linter.unusedSimpArgs false
set_option maxRecDepth 100000
set_option maxHeartbeats 16000000
namespace Go.Proofs.YtdoacbdkbbpamaaGreatDoor
section
open Go.RowKit
def RAt {α:Type} (Q:World→α→List Value→Prop) (size:Nat) (w:World) (v:Value) (l:List α):Prop:=
 ∃ao c,v=.slice ao l.length c∧(l.length=0∨∃b o,ao=some ⟨b,o,none⟩∧b<w.heap.size∧∀j (h:j<l.length),∃cs,Q w l[j] cs∧∀i,i<size→w.cell? ⟨b,o+j*size+i,none⟩=cs[i]?)
theorem RAt.after {α:Type} {Q:World→α→List Value→Prop} {size:Nat} {w w':World} {v:Value} {l:List α} (h:RAt Q size w v l) (hb:Below w.heap.size w w') (hQ:∀a cs,Q w a cs→Q w' a cs):RAt Q size w' v l:=by
 obtain ⟨ao,c,rfl,h⟩:=h;refine ⟨ao,c,rfl,?_⟩;rcases h with h | ⟨b,o,h1,h2,h3⟩
 ·exact .inl h
 ·refine .inr ⟨b,o,h1,Nat.lt_of_lt_of_le h2 hb.size,fun j hj=>?_⟩;obtain ⟨cs,h4,h5⟩:=h3 j hj;exact ⟨cs,hQ _ _ h4,fun i hi=>(hb.cell (p:=⟨b,o+j*size+i,none⟩) h2).trans (h5 i hi)⟩
theorem RAt.form {α:Type} {Q:World→α→List Value→Prop} {size:Nat} {w:World} {v:Value} {l:List α} (h:RAt Q size w v l):∃ao c,v=.slice ao l.length c:=by
 obtain ⟨ao,c,h,_⟩:=h;exact ⟨ao,c,h⟩
theorem RAt.at_ {α:Type} {Q:World→α→List Value→Prop} {size n c:Nat} {w:World} {ao:Option Addr} {l:List α} (h:RAt Q size w (.slice ao n c) l) {k:Nat} (hk:k<l.length) :
  ∃b o cs,ao=some ⟨b,o,none⟩∧b<w.heap.size∧Q w l[k] cs∧∀i,i<size→w.cell? ⟨b,o+k*size+i,none⟩=cs[i]?:=by
 obtain ⟨ao',c',hv,h⟩:=h;injection hv with e1 e2 e3
 subst e1;rcases h with h | ⟨b,o,h1,h2,h3⟩
 ·omega
 ·obtain ⟨cs,h4,h5⟩:=h3 k hk;exact ⟨b,o,cs,h1,h2,h4,h5⟩
structure Trm where
 base:ByteArray
 var:Int
 neg:Bool
 abs:ByteArray
structure Eqn where
 grp:Int
 tgt:ByteArray
 trms:List Trm
structure Sta where
 grps:List (ByteArray × ByteArray)
 vars:List ByteArray
 eqs:List Eqn
def QStr (_:World) (s:ByteArray) (cs:List Value):Prop:=cs=[.string s]
def QGrp (_:World) (g:ByteArray × ByteArray) (cs:List Value):Prop:=cs=[.string g.1,.string g.2]
def QInt (_:World) (x:Bool × ByteArray) (cs:List Value):Prop:=cs=[.bool x.1,.string x.2]
def QTrm (_:World) (t:Trm) (cs:List Value):Prop:=cs=[.string t.base,.int .i64 t.var,.bool t.neg,.string t.abs]
def QEqn (w:World) (q:Eqn) (cs:List Value):Prop:=∃tv,cs=[.int .i64 q.grp,.string q.tgt,tv]∧RAt QTrm 4 w tv q.trms
def SsAt:=RAt QStr 1
def GsAt:=RAt QGrp 2
def IsAt:=RAt QInt 2
def TsAt:=RAt QTrm 4
def EsAt:=RAt QEqn 3
section
variable {w w':World} {v:Value}
theorem SsAt.after {l:List ByteArray} (h:SsAt w v l) (hb:Below w.heap.size w w'):SsAt w' v l:=RAt.after h hb (fun _ _ h=>h)
theorem GsAt.after {l:List (ByteArray × ByteArray)} (h:GsAt w v l) (hb:Below w.heap.size w w'):GsAt w' v l:=RAt.after h hb (fun _ _ h=>h)
theorem IsAt.after {l:List (Bool × ByteArray)} (h:IsAt w v l) (hb:Below w.heap.size w w'):IsAt w' v l:=RAt.after h hb (fun _ _ h=>h)
theorem TsAt.after {l:List Trm} (h:TsAt w v l) (hb:Below w.heap.size w w'):TsAt w' v l:=RAt.after h hb (fun _ _ h=>h)
theorem EsAt.after {l:List Eqn} (h:EsAt w v l) (hb:Below w.heap.size w w'):EsAt w' v l:=
 RAt.after h hb (fun _ _ ⟨tv,h1,h2⟩=>⟨tv,h1,RAt.after h2 hb (fun _ _ h=>h)⟩)
end
section
variable {w:World} {ao:Option Addr} {n c k:Nat}
theorem SsAt.at_ {l:List ByteArray} (h:SsAt w (.slice ao n c) l) (hk:k<l.length):∃b o,ao=some ⟨b,o,none⟩∧b<w.heap.size∧w.cell? ⟨b,o+k,none⟩=some (.string l[k]):=by
 obtain ⟨b,o,cs,h1,h2,h3,h4⟩:=RAt.at_ h hk;have:=h4 0 (by omega);rw [h3] at this;exact ⟨b,o,h1,h2,by simpa using this⟩
theorem GsAt.at_ {l:List (ByteArray × ByteArray)} (h:GsAt w (.slice ao n c) l) (hk:k<l.length):∃b o,ao=some ⟨b,o,none⟩∧b<w.heap.size∧w.cell? ⟨b,o+k*2,none⟩=some (.string l[k].1)∧w.cell? ⟨b,o+k*2+1,none⟩=some (.string l[k].2):=by
 obtain ⟨b,o,cs,h1,h2,h3,h4⟩:=RAt.at_ h hk;have e0:=h4 0 (by omega);have e1:=h4 1 (by omega);rw [h3] at e0 e1;exact ⟨b,o,h1,h2,by simpa using e0,by simpa using e1⟩
theorem IsAt.at_ {l:List (Bool × ByteArray)} (h:IsAt w (.slice ao n c) l) (hk:k<l.length):∃b o,ao=some ⟨b,o,none⟩∧b<w.heap.size∧w.cell? ⟨b,o+k*2,none⟩=some (.bool l[k].1)∧w.cell? ⟨b,o+k*2+1,none⟩=some (.string l[k].2):=by
 obtain ⟨b,o,cs,h1,h2,h3,h4⟩:=RAt.at_ h hk;have e0:=h4 0 (by omega);have e1:=h4 1 (by omega);rw [h3] at e0 e1;exact ⟨b,o,h1,h2,by simpa using e0,by simpa using e1⟩
theorem TsAt.at_ {l:List Trm} (h:TsAt w (.slice ao n c) l) (hk:k<l.length):∃b o,ao=some ⟨b,o,none⟩∧b<w.heap.size∧w.cell? ⟨b,o+k*4,none⟩=some (.string l[k].base)∧w.cell? ⟨b,o+k*4+1,none⟩=some (.int .i64 l[k].var)∧w.cell? ⟨b,o+k*4+2,none⟩=some (.bool l[k].neg)∧w.cell? ⟨b,o+k*4+3,none⟩=some (.string l[k].abs):=by
 obtain ⟨b,o,cs,h1,h2,h3,h4⟩:=RAt.at_ h hk;have e0:=h4 0 (by omega);have e1:=h4 1 (by omega);have e2:=h4 2 (by omega);have e3:=h4 3 (by omega);rw [h3] at e0 e1 e2 e3;exact ⟨b,o,h1,h2,by simpa using e0,by simpa using e1,by simpa using e2,by simpa using e3⟩
theorem EsAt.at_ {l:List Eqn} (h:EsAt w (.slice ao n c) l) (hk:k<l.length):∃b o tv,ao=some ⟨b,o,none⟩∧b<w.heap.size∧w.cell? ⟨b,o+k*3,none⟩=some (.int .i64 l[k].grp)∧w.cell? ⟨b,o+k*3+1,none⟩=some (.string l[k].tgt)∧w.cell? ⟨b,o+k*3+2,none⟩=some tv∧TsAt w tv l[k].trms:=by
 obtain ⟨b,o,cs,h1,h2,⟨tv,h3,h5⟩,h4⟩:=RAt.at_ h hk;have e0:=h4 0 (by omega);have e1:=h4 1 (by omega);have e2:=h4 2 (by omega);rw [h3] at e0 e1 e2;exact ⟨b,o,tv,h1,h2,by simpa using e0,by simpa using e1,by simpa using e2,h5⟩
end
structure StAt (w:World) (v1 v2 v3:Value) (S:Sta):Prop where
 g:GsAt w v1 S.grps
 v:SsAt w v2 S.vars
 e:EsAt w v3 S.eqs
theorem StAt.after {w w':World} {v1 v2 v3:Value} {S:Sta} (h:StAt w v1 v2 v3 S) (hb:Below w.heap.size w w'):StAt w' v1 v2 v3 S:=⟨h.g.after hb,h.v.after hb,h.e.after hb⟩
end
section
open Go.RowKit
theorem valB_c (s:ByteArray) (b:Bool) (w:World) (hs:s.size≤1000) (h:vldB s=b):Calls Tryz.prog 59 #[.string s] w fun e w'=>e=.returned (.bool b)∧w'=w:=by
 rw [←h];exact (valid_c s w (by omega)).mono fun _ _ h=>⟨h.1,h.2.symm⟩
def gokB (g:ByteArray × ByteArray):Bool:=vldB g.1&&vldB g.2
def tokB (nv:Nat) (t:Trm):Bool:=decide (0≤t.var)&&decide (t.var<(nv:Int))&&vldB t.base&&ivB t.neg t.abs
def eokB (ng nv:Nat) (q:Eqn):Bool:=decide (0≤q.grp)&&decide (q.grp<(ng:Int))&&vldB q.tgt&&q.trms.all (tokB nv)
def formB (S:Sta):Bool:=S.grps.all gokB&&S.vars.all vldB&&S.eqs.all (eokB S.grps.length S.vars.length)
theorem all_take {α:Type} (p:α→Bool) (l:List α) (k:Nat) (h:k<l.length):(l.take (k+1)).all p=((l.take k).all p&&p l[k]):=by
 rw [List.take_succ_eq_append_getElem h,List.all_append];simp
theorem all_bad {α:Type} (p:α→Bool) (l:List α) (k:Nat) (h:k<l.length) (hb:p l[k]=false):l.all p=false:=by
 rw [List.all_eq_false];exact ⟨l[k],List.getElem_mem h,by simp [hb]⟩
theorem all_end {α:Type} (p:α→Bool) (l:List α) (k:Nat) (h:k=l.length) (hb:(l.take k).all p=true):l.all p=true:=by
 rw [h,List.take_length] at hb;exact hb
end
section
open Go.RowKit
structure NTrm where
 base:Nat
 var:Nat
 coef:Int
structure NEqn where
 grp:Nat
 tgt:Nat
 trms:List NTrm
structure NSta where
 grps:List (Nat × Nat)
 vars:List Nat
 eqs:List NEqn
def NTrm.t (x:NTrm):Trm:=⟨E x.base,(x.var:Int),sg x.coef,E x.coef.natAbs⟩
def NEqn.q (x:NEqn):Eqn:=⟨(x.grp:Int),E x.tgt,x.trms.map NTrm.t⟩
def gE (g:Nat × Nat):ByteArray × ByteArray:=(E g.1,E g.2)
def NSta.s (x:NSta):Sta:=⟨x.grps.map gE,x.vars.map E,x.eqs.map NEqn.q⟩
structure NOk (N:NSta):Prop where
 ng:N.grps.length≤10
 nv:N.vars.length≤12
 ne:N.eqs.length≤12
 g:∀x∈N.grps,x.1<256^8∧x.2<256^8
 v:∀x∈N.vars,x<256^26
 e:∀q∈N.eqs,q.grp<N.grps.length∧q.tgt<256^16∧q.trms.length≤12∧∀t∈q.trms,t.base<256^16∧t.var<N.vars.length∧t.coef.natAbs<256^16
theorem lt_of_size {n k:Nat} (h:(E n).size≤k):n<256^k:=(E_size_le n k).1 h
theorem NOk.form {N:NSta} (h:NOk N):formB N.s=true:=by
 simp only [formB,Bool.and_eq_true,List.all_eq_true];refine ⟨⟨fun x hx=>?_,fun x hx=>?_⟩,fun x hx=>?_⟩
 ·obtain ⟨y,hy,rfl⟩:=List.mem_map.1 hx;simp only [gokB,gE,Bool.and_eq_true];exact ⟨vldB_E _ (Nat.lt_of_lt_of_le (h.g y hy).1 (by decide)),vldB_E _ (Nat.lt_of_lt_of_le (h.g y hy).2 (by decide))⟩
 ·obtain ⟨y,hy,rfl⟩:=List.mem_map.1 hx;exact vldB_E _ (Nat.lt_of_lt_of_le (h.v y hy) (by decide))
 ·obtain ⟨y,hy,rfl⟩:=List.mem_map.1 hx;obtain ⟨h1,h2,h3,h4⟩:=h.e y hy;simp only [eokB,NEqn.q,Bool.and_eq_true,decide_eq_true_eq,List.all_eq_true,NSta.s,List.length_map];refine ⟨⟨⟨decide_eq_true (Int.natCast_nonneg _),Int.ofNat_lt.2 h1⟩,vldB_E _ (Nat.lt_of_lt_of_le h2 (by decide))⟩,fun t ht=>?_⟩;obtain ⟨z,hz,rfl⟩:=List.mem_map.1 ht;obtain ⟨h5,h6,h7⟩:=h4 z hz;simp only [tokB,NTrm.t,Bool.and_eq_true,decide_eq_true_eq];exact ⟨⟨⟨decide_eq_true (Int.natCast_nonneg _),decide_eq_true (Int.ofNat_lt.2 h6)⟩,vldB_E _ (Nat.lt_of_lt_of_le h5 (by decide))⟩,ivB_I _ (Nat.lt_of_lt_of_le h7 (by decide))⟩
def NSta.gp (N:NSta) (q:NEqn):Nat × Nat:=N.grps.getD q.grp (0,0)
def hasQ (g:Nat × Nat) (t:NTrm):Bool:=hasB g.1 g.2 t.base
def elemQ (N:NSta) (q:NEqn):Bool:=hasB (N.gp q).1 (N.gp q).2 q.tgt&&q.trms.all (hasQ (N.gp q))
def gr0 (g:Nat × Nat):Bool:=grpE g.1 g.2==0
def NSta.elem (N:NSta):Bool:=N.grps.all gr0&&N.eqs.all (elemQ N)
def gq (n:Nat) (g:Nat × Nat):Bool:=g.2 != 0&&g.2 != n
def NAt (w:World) (v1 v2 v3:Value) (N:NSta):Prop:=StAt w v1 v2 v3 N.s
def TNAt (w:World) (v:Value) (l:List NTrm):Prop:=TsAt w v (l.map NTrm.t)
theorem NAt.after {w w':World} {v1 v2 v3:Value} {N:NSta} (h:NAt w v1 v2 v3 N) (hb:Below w.heap.size w w'):NAt w' v1 v2 v3 N:=StAt.after h hb
theorem TNAt.after {w w':World} {v:Value} {l:List NTrm} (h:TNAt w v l) (hb:Below w.heap.size w w'):TNAt w' v l:=TsAt.after h hb
theorem TNAt.form {w:World} {v:Value} {l:List NTrm} (h:TNAt w v l):∃a c,v=.slice a l.length c:=by
 obtain ⟨a1,c1,h1⟩:=RAt.form h;exact ⟨a1,c1,by rw [h1];simp⟩
section
variable {w:World} {ao:Option Addr} {n c k:Nat} {v1 v2 v3:Value} {N:NSta}
theorem TNAt.at_ {l:List NTrm} (h:TNAt w (.slice ao n c) l) (hk:k<l.length):∃b o,ao=some ⟨b,o,none⟩∧b<w.heap.size∧w.cell? ⟨b,o+k*4,none⟩=some (.string (E l[k].base))∧w.cell? ⟨b,o+k*4+1,none⟩=some (.int .i64 (l[k].var:Int))∧w.cell? ⟨b,o+k*4+2,none⟩=some (.bool (sg l[k].coef))∧w.cell? ⟨b,o+k*4+3,none⟩=some (.string (E l[k].coef.natAbs)):=by
 have hk':k<(l.map NTrm.t).length:=by simpa using hk
 obtain ⟨b,o,h1,h2,h3,h4,h5,h6⟩:=TsAt.at_ h hk';simp only [List.getElem_map,NTrm.t] at h3 h4 h5 h6;exact ⟨b,o,h1,h2,h3,h4,h5,h6⟩
end
end
section
open Go.RowKit
def IPost (b:Bool) (w:World) (e:Ending) (w':World):Prop:=∃i:Int,e=.returned (.int .i64 i)∧decide (0≤i)=b∧Below w.heap.size w w'
theorem any_take {α:Type} (p:α→Bool) (l:List α) (k:Nat) (h:k<l.length):(l.take (k+1)).any p=((l.take k).any p || p l[k]):=by
 rw [List.take_succ_eq_append_getElem h,List.any_append];simp
theorem any_hit {α:Type} (p:α→Bool) (l:List α) (k:Nat) (h:k<l.length) (hb:p l[k]=true):l.any p=true:=by
 rw [List.any_eq_true];exact ⟨l[k],List.getElem_mem h,hb⟩
theorem any_end {α:Type} (p:α→Bool) (l:List α) (k:Nat) (h:k=l.length) (hb:(l.take k).any p=false):l.any p=false:=by
 rw [h,List.take_length] at hb;exact hb
end
section
open Go.RowKit
theorem rivalB_c (n:Bool) (s:ByteArray) (b:Bool) (w:World) (hs:s.size≤1000) (h:ivB n s=b):Calls Tryz.prog 41 #[.agg #[.bool n,.string s]] w fun e w'=>e=.returned (.bool b)∧Below w.heap.size w w':=by
 rw [←h];exact rivalid_c n s w (by omega)
end
section
open Go.RowKit Go.Shelf
theorem dzT {n k:Nat} (h:¬ n≤k):decide ((k:Int)<(n:Int))=true:=decide_eq_true (by omega)
theorem dzF {n k:Nat} (h:n≤k):decide ((k:Int)<(n:Int))=false:=decide_eq_false (by omega)
end
section
open Go.RowKit Go.Shelf
structure Opn where
 vn:Bool
 va:ByteArray
 rn:Bool
 ra:ByteArray
def QOpn (_:World) (x:Opn) (cs:List Value):Prop:=cs=[.bool x.vn,.string x.va,.bool x.rn,.string x.ra]
def OsAt:=RAt QOpn 4
theorem OsAt.after {w w':World} {v:Value} {l:List Opn} (h:OsAt w v l) (hb:Below w.heap.size w w'):OsAt w' v l:=RAt.after h hb (fun _ _ h=>h)
theorem OsAt.at_ {w:World} {ao:Option Addr} {n c k:Nat} {l:List Opn} (h:OsAt w (.slice ao n c) l) (hk:k<l.length):∃b o,ao=some ⟨b,o,none⟩∧b<w.heap.size∧w.cell? ⟨b,o+k*4,none⟩=some (.bool l[k].vn)∧w.cell? ⟨b,o+k*4+1,none⟩=some (.string l[k].va)∧w.cell? ⟨b,o+k*4+2,none⟩=some (.bool l[k].rn)∧w.cell? ⟨b,o+k*4+3,none⟩=some (.string l[k].ra):=by
 obtain ⟨b,o,cs,h1,h2,h3,h4⟩:=RAt.at_ h hk;have e0:=h4 0 (by omega);have e1:=h4 1 (by omega);have e2:=h4 2 (by omega);have e3:=h4 3 (by omega);rw [h3] at e0 e1 e2 e3;exact ⟨b,o,h1,h2,by simpa using e0,by simpa using e1,by simpa using e2,by simpa using e3⟩
end
section
open Go.RowKit Go.Shelf
/- rows that a call owns -/
theorem own_keep {w w':World} {base:Nat} {e:TypeId} {size:Nat} {v:Value} {n:Nat} {xs:List Value} (h:w.ownsRow base e size v n xs) (hk:∀g,v.ownBlock=some g→w'.heap[g]?=w.heap[g]?):w'.ownsRow base e size v n xs:=by
 refine ⟨h.1,?_⟩;rcases h.2 with h2 | ⟨g,cap,cur,rfl,h3,h4,h5⟩
 ·exact .inl h2
 ·exact .inr ⟨g,cap,cur,rfl,h3,by rw [hk g rfl];exact h4,h5⟩
theorem own_lt {w:World} {base:Nat} {e:TypeId} {size:Nat} {v:Value} {n:Nat} {xs:List Value} (h:w.ownsRow base e size v n xs) {g:Nat} (hg:v.ownBlock=some g):g<w.heap.size∧base≤g:=by
 rcases h.2 with ⟨rfl,_⟩ | ⟨g',cap,cur,rfl,h3,h4,_⟩
 ·simp [Value.ownBlock] at hg
 ·have:g'=g:=by simpa [Value.ownBlock] using hg
  subst this;exact ⟨(Array.getElem?_eq_some_iff.1 h4).1,h3⟩
theorem own_after {w w':World} {base:Nat} {e:TypeId} {size:Nat} {v:Value} {n:Nat} {xs:List Value} (h:w.ownsRow base e size v n xs) (hb:Below w.heap.size w w'):w'.ownsRow base e size v n xs:=
 own_keep h fun g hg=>hb.block g (own_lt h hg).1
theorem own_ne {w:World} {base:Nat} {e T:TypeId} {size g:Nat} {v:Value} {n:Nat} {xs cs:List Value} (h:w.ownsRow base e size v n xs) (hg:Blk w g T cs) (hne:e≠T):v.ownBlock≠some g:=by
 intro hv;rcases h.2 with ⟨rfl,_⟩ | ⟨g',cap,cur,rfl,h3,h4,_⟩
 ·simp [Value.ownBlock] at hv
 ·have:g'=g:=by simpa [Value.ownBlock] using hv
  subst this;rw [show w.heap[g']?=some (.cells cs.toArray T (0,0)) from hg] at h4;injection h4 with h4
  injection h4 with _ h4
  exact hne h4.symm
theorem own_ne2 {w:World} {b1 b2:Nat} {e1 e2:TypeId} {s1 s2 n1 n2:Nat} {v1 v2:Value} {x1 x2:List Value} (h:w.ownsRow b1 e1 s1 v1 n1 x1) (k:w.ownsRow b2 e2 s2 v2 n2 x2) (hne:e1≠e2) {g:Nat} (h1:v1.ownBlock=some g):v2.ownBlock≠some g:=by
 intro h2;rcases h.2 with ⟨rfl,_⟩ | ⟨g',cap,cur,rfl,_,h4,_⟩
 ·simp [Value.ownBlock] at h1
 ·rcases k.2 with ⟨rfl,_⟩ | ⟨g2,cap2,cur2,rfl,_,k4,_⟩
  ·simp [Value.ownBlock] at h2
  ·have e1:g'=g:=by simpa [Value.ownBlock] using h1
   have e2:g2=g:=by simpa [Value.ownBlock] using h2
   subst e1;subst e2;rw [h4] at k4;injection k4 with k4
   injection k4 with _ k4
   exact hne k4
theorem Blk.grown {w w':World} {g:Nat} {T:TypeId} {cs:List Value} {row:Option Nat} (h:Blk w g T cs) (hg:w.grownBy w' row) (hne:row≠some g):Blk w' g T cs:=by
 unfold Blk;rw [hg.block g h.lt (fun e=>hne e.symm)];exact h
theorem own_set {w:World} {base:Nat} {e:TypeId} {size:Nat} {v:Value} {n:Nat} {xs:List Value} {g i:Nat} {u:Value} (h:w.ownsRow base e size v n xs) (hne:v.ownBlock≠some g):(w.setCell ⟨g,i,none⟩ u).ownsRow base e size v n xs:=
 own_keep h fun b hb=>heap_setCell_other w ⟨g,i,none⟩ b u (fun e=>hne (by rw [hb,e]))
theorem own_cellS {w:World} {base g n c size:Nat} {e:TypeId} {xs:List Value} (h:w.ownsRow base e size (.slice (some ⟨g,0,none⟩) n c) n xs) (j:Nat) (u:Value) (hj:xs[j]?=some u):w.cell? ⟨g,j,none⟩=some u:=by
 have:=h.cells (g:=g) rfl j u hj;rwa [Addr.add_lit,Nat.zero_add] at this
theorem own_cap {w:World} {base g n c size:Nat} {e:TypeId} {xs:List Value} (h:w.ownsRow base e size (.slice (some ⟨g,0,none⟩) n c) n xs):g<w.heap.size∧n≤c:=by
 rcases h.2 with ⟨h1,_⟩ | ⟨g',cap,cur,hv,h3,h4,h5,_⟩
 ·cases h1
 ·cases hv
  exact ⟨(Array.getElem?_eq_some_iff.1 h4).1,h5⟩
theorem own_mono {w:World} {base b':Nat} {e:TypeId} {size:Nat} {v:Value} {n:Nat} {xs:List Value} (h:w.ownsRow base e size v n xs) (hb:b'≤base):w.ownsRow b' e size v n xs:=by
 refine ⟨h.1,?_⟩;rcases h.2 with h1 | ⟨g,cap,cur,h3,h4,h5⟩
 ·exact .inl h1
 ·exact .inr ⟨g,cap,cur,h3,Nat.le_trans hb h4,h5⟩
theorem own_grown {w w':World} {b1 b2:Nat} {e1 e2:TypeId} {s1 s2 n1 n2:Nat} {v1 v2:Value} {x1 x2:List Value} (h:w.ownsRow b1 e1 s1 v1 n1 x1) (k:w.ownsRow b2 e2 s2 v2 n2 x2) (hne:e1≠e2) (hg:w.grownBy w' v2.ownBlock):w'.ownsRow b1 e1 s1 v1 n1 x1:=
 own_keep h fun x hv=>hg.block x (own_lt h hv).1 (fun e'=>own_ne2 h k hne hv e'.symm)
def ics (L:List (Bool × ByteArray)):List Value:=L.flatMap fun x=>[.bool x.1,.string x.2]
theorem ics_get (L:List (Bool × ByteArray)) (j:Nat) (h:j<L.length):(ics L)[j*2]?=some (.bool L[j].1)∧(ics L)[j*2+1]?=some (.string L[j].2):=by
 induction L generalizing j with
 | nil=>simp at h
 | cons x t ih =>
  cases j with
  | zero=>exact ⟨rfl,rfl⟩
  | succ j =>
   have h':j<t.length:=by simpa using h
   have:=ih j h';rw [show (j+1)*2=j*2+2 by omega];simpa [ics] using this
theorem own_blk {w:World} {b:Nat} {T:TypeId} {size n:Nat} {cs:List Value} (h:Blk w b T cs) (hn:cs.length=n*size) (hm:n≤maxLen):w.ownsRow 0 T size (.slice (some ⟨b,0,none⟩) n n) n cs:=
 ⟨hn,.inr ⟨b,n,cs.toArray,rfl,Nat.zero_le _,h,Nat.le_refl _,hm,by simpa using hn,by simp [←hn]⟩⟩
end
section
open Go.RowKit
theorem idx_cgd (l:List ByteArray) (p:ByteArray→Bool) (v:Value) (w:World) (hn:l.length≤1000) (hR:SsAt w v l)
  (hf:∀k (hk:k<l.length) (w':World),Below w.heap.size w w'→Calls Tryz.prog 157 #[.string (l[k]'hk)] w' fun e w''=>e=.returned (.bool (p (l[k]'hk)))∧Below w'.heap.size w' w'') :
  Calls Tryz.prog 57 #[v,.func (.func 157) #[] #[]] w (IPost (l.any p) w):=by
 obtain ⟨ao,c,rfl⟩:=RAt.form hR;obtain ⟨n,hn'⟩:∃n,n=l.length:=⟨_,rfl⟩;have HN:=Lib.hid hn';rw [←hn'] at hR hn ⊢;clear hn';have HF:=Lib.hid hf;clear hf;go_enter Tryz.func57,Tryz.ntmps57
 go_wp2;go_loopw [8] (fun i wr=>∃k:Nat,k≤n∧i=.int .i64 k∧Hid ((l.take k).any p=false)∧Below w.heap.size w wr) (fun i _=>n-(intOf i).toNat)
 case atStart=>exact ⟨0,by omega,rfl,rfl,Below.refl _ _⟩
 case round =>
  obtain ⟨k,hk,rfl,HA,hbr⟩:=hrel;obtain ⟨wp,hwp⟩:∃wp,wp=wr:=⟨_,rfl⟩;subst hwp;replace hR:=SsAt.after hR hbr;by_cases hlt:k<n
  ·have hkl:k<l.length:=by rw [←HN.out];exact hlt
   have HT:=Lib.hid (any_take p l k hkl);have HB:Hid (p (l[k]'hkl)=true→l.any p=true):=any_hit p l k hkl;obtain ⟨b,o,rfl,hbl,x1⟩:=SsAt.at_ hR hkl;have HC:=Lib.hid (HF.out k hkl _ hbr);generalize p (l[k]'hkl)=pk at HT HB HC;generalize (l[k]'hkl)=x at x1 HC;have h0k:(0:Int)≤(k:Int):=by omega
   have h1k:(k:Int)<(n:Int):=by omega
   clear hR;cases pk
   ·have HX:Hid ((l.take (k+1)).any p=false):=by rw [Hid,HT.out,HA.out];rfl
    clear HT HB;go_wp2_with fail
    refine (HC.out).mono ?_;rintro e w2 ⟨rfl,hb2⟩;go_wp2;go_roundw
    case rel=>exact ⟨k+1,by omega,by go_num,HX,bt hbr hb2⟩
    case measure=>simp [intOf];omega
   ·have HX:Hid (l.any p=true):=HB.out rfl;clear HT HB;go_wp2_with fail
    refine (HC.out).mono ?_;rintro e w2 ⟨rfl,hb2⟩;go_wp2;go_ret
    exact ⟨(k:Int),rfl,by rw [HX.out];exact decide_eq_true h0k,bt hbr hb2⟩
  ·have HX:Hid (l.any p=false):=any_end p l k (by rw [←HN.out];omega) HA.out;go_wp2;go_ret
   exact ⟨-1,rfl,by rw [HX.out];rfl,hbr⟩
theorem cont_cgd (l:List ByteArray) (p:ByteArray→Bool) (b:Bool) (v:Value) (w:World) (hn:l.length≤1000) (hR:SsAt w v l) (hb:l.any p=b)
  (hf:∀k (hk:k<l.length) (w':World),Below w.heap.size w w'→Calls Tryz.prog 157 #[.string (l[k]'hk)] w' fun e w''=>e=.returned (.bool (p (l[k]'hk)))∧Below w'.heap.size w' w'') :
  Calls Tryz.prog 27 #[v,.func (.func 157) #[] #[]] w fun e w'=>e=.returned (.bool b)∧Below w.heap.size w w':=by
 have HE:=Lib.hid (idx_cgd l p v w hn hR hf);rw [hb] at HE;obtain ⟨ao,c,rfl⟩:=RAt.form hR;generalize l.length=n at HE;clear hn hR hf hb;go_enter Tryz.func27,Tryz.ntmps27
 go_wp2_with fail
 refine HE.out.mono ?_;rintro e w1 ⟨i,rfl,hi,hb1⟩;have HI:=Lib.hid hi;clear hi;cases b
 ·have hi:decide (0≤i)=false:=HI.out;go_wp2;go_ret
  exact ⟨rfl,hb1⟩
 ·have hi:decide (0≤i)=true:=HI.out;go_wp2;go_ret
  exact ⟨rfl,hb1⟩
end
section
/- Small functions of squarerange and of ref27. -/
open Go.RowKit Go.Shelf
end
section
open Go.RowKit
theorem idx_fw24 (l:List ByteArray) (p:ByteArray→Bool) (v:Value) (w:World) (hn:l.length≤1000) (hR:SsAt w v l)
  (hf:∀k (hk:k<l.length) (w':World),Below w.heap.size w w'→Calls Tryz.prog 28 #[.string (l[k]'hk)] w' fun e w''=>e=.returned (.bool (p (l[k]'hk)))∧Below w'.heap.size w' w'') :
  Calls Tryz.prog 57 #[v,.func (.func 28) #[] #[]] w (IPost (l.any p) w):=by
 obtain ⟨ao,c,rfl⟩:=RAt.form hR;obtain ⟨n,hn'⟩:∃n,n=l.length:=⟨_,rfl⟩;have HN:=Lib.hid hn';rw [←hn'] at hR hn ⊢;clear hn';have HF:=Lib.hid hf;clear hf;go_enter Tryz.func57,Tryz.ntmps57
 go_wp2;go_loopw [8] (fun i wr=>∃k:Nat,k≤n∧i=.int .i64 k∧Hid ((l.take k).any p=false)∧Below w.heap.size w wr) (fun i _=>n-(intOf i).toNat)
 case atStart=>exact ⟨0,by omega,rfl,rfl,Below.refl _ _⟩
 case round =>
  obtain ⟨k,hk,rfl,HA,hbr⟩:=hrel;obtain ⟨wp,hwp⟩:∃wp,wp=wr:=⟨_,rfl⟩;subst hwp;replace hR:=SsAt.after hR hbr;by_cases hlt:k<n
  ·have hkl:k<l.length:=by rw [←HN.out];exact hlt
   have HT:=Lib.hid (any_take p l k hkl);have HB:Hid (p (l[k]'hkl)=true→l.any p=true):=any_hit p l k hkl;obtain ⟨b,o,rfl,hbl,x1⟩:=SsAt.at_ hR hkl;have HC:=Lib.hid (HF.out k hkl _ hbr);generalize p (l[k]'hkl)=pk at HT HB HC;generalize (l[k]'hkl)=x at x1 HC;have h0k:(0:Int)≤(k:Int):=by omega
   have h1k:(k:Int)<(n:Int):=by omega
   clear hR;cases pk
   ·have HX:Hid ((l.take (k+1)).any p=false):=by rw [Hid,HT.out,HA.out];rfl
    clear HT HB;go_wp2_with fail
    refine (HC.out).mono ?_;rintro e w2 ⟨rfl,hb2⟩;go_wp2;go_roundw
    case rel=>exact ⟨k+1,by omega,by go_num,HX,bt hbr hb2⟩
    case measure=>simp [intOf];omega
   ·have HX:Hid (l.any p=true):=HB.out rfl;clear HT HB;go_wp2_with fail
    refine (HC.out).mono ?_;rintro e w2 ⟨rfl,hb2⟩;go_wp2;go_ret
    exact ⟨(k:Int),rfl,by rw [HX.out];exact decide_eq_true h0k,bt hbr hb2⟩
  ·have HX:Hid (l.any p=false):=any_end p l k (by rw [←HN.out];omega) HA.out;go_wp2;go_ret
   exact ⟨-1,rfl,by rw [HX.out];rfl,hbr⟩
theorem cont_fw24 (l:List ByteArray) (p:ByteArray→Bool) (b:Bool) (v:Value) (w:World) (hn:l.length≤1000) (hR:SsAt w v l) (hb:l.any p=b)
  (hf:∀k (hk:k<l.length) (w':World),Below w.heap.size w w'→Calls Tryz.prog 28 #[.string (l[k]'hk)] w' fun e w''=>e=.returned (.bool (p (l[k]'hk)))∧Below w'.heap.size w' w'') :
  Calls Tryz.prog 27 #[v,.func (.func 28) #[] #[]] w fun e w'=>e=.returned (.bool b)∧Below w.heap.size w w':=by
 have HE:=Lib.hid (idx_fw24 l p v w hn hR hf);rw [hb] at HE;obtain ⟨ao,c,rfl⟩:=RAt.form hR;generalize l.length=n at HE;clear hn hR hf hb;go_enter Tryz.func27,Tryz.ntmps27
 go_wp2_with fail
 refine HE.out.mono ?_;rintro e w1 ⟨i,rfl,hi,hb1⟩;have HI:=Lib.hid hi;clear hi;cases b
 ·have hi:decide (0≤i)=false:=HI.out;go_wp2;go_ret
  exact ⟨rfl,hb1⟩
 ·have hi:decide (0≤i)=true:=HI.out;go_wp2;go_ret
  exact ⟨rfl,hb1⟩
end
end Go.Proofs.YtdoacbdkbbpamaaGreatDoor
