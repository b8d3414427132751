/- The searches of foursquares find what there is. Plain Lean. -/
import Derived.Test.YtfgandecbkbleaaGreatDoorLdvl
import Derived.Test.YtfgandecbkbleaaGreatDoorInt4
import Derived.Test.YtfgandecbkbleaaGreatDoorExp
import Derived.Test.YtfgandecbkbleaaGreatDoorFs5
section
set_option linter.unusedVariables false
set_option linter.unusedSimpArgs false
set_option maxRecDepth 100000
namespace Go.Proofs.YtfgandecbkbleaaGreatDoor
open Go.RowKit

def RAt {α:Type} (Q:World→α→List Value→Prop) (size:Nat) (w:World) (v:Value) (l:List α):Prop:=
 ∃ao c,v=.slice ao l.length c∧(l.length=0∨∃b o,ao=some ⟨b,o,none⟩∧b<w.heap.size∧∀j (h:j<l.length),∃cs,Q w l[j] cs∧∀i,i<size→w.cell? ⟨b,o+j*size+i,none⟩=cs[i]?)

theorem RAt.after {α:Type} {Q:World→α→List Value→Prop} {size:Nat} {w w':World} {v:Value} {l:List α} (h:RAt Q size w v l) (hb:Below w.heap.size w w') (hQ:∀a cs,Q w a cs→Q w' a cs):RAt Q size w' v l:=by
 obtain ⟨ao,c,rfl,h⟩:=h;refine ⟨ao,c,rfl,?_⟩;rcases h with h | ⟨b,o,h1,h2,h3⟩
 ·exact .inl h
 ·refine .inr ⟨b,o,h1,Nat.lt_of_lt_of_le h2 hb.size,fun j hj=>?_⟩;obtain ⟨cs,h4,h5⟩:=h3 j hj;exact ⟨cs,hQ _ _ h4,fun i hi=>(hb.cell (p:=⟨b,o+j*size+i,none⟩) h2).trans (h5 i hi)⟩

theorem RAt.form {α:Type} {Q:World→α→List Value→Prop} {size:Nat} {w:World} {v:Value} {l:List α} (h:RAt Q size w v l):∃ao c,v=.slice ao l.length c:=by
 obtain ⟨ao,c,h,_⟩:=h;exact ⟨ao,c,h⟩

theorem RAt.at_ {α:Type} {Q:World→α→List Value→Prop} {size n c:Nat} {w:World} {ao:Option Addr} {l:List α} (h:RAt Q size w (.slice ao n c) l) {k:Nat} (hk:k<l.length) :
  ∃b o cs,ao=some ⟨b,o,none⟩∧b<w.heap.size∧Q w l[k] cs∧∀i,i<size→w.cell? ⟨b,o+k*size+i,none⟩=cs[i]?:=by
 obtain ⟨ao',c',hv,h⟩:=h;injection hv with e1 e2 e3
 subst e1;rcases h with h | ⟨b,o,h1,h2,h3⟩
 ·omega
 ·obtain ⟨cs,h4,h5⟩:=h3 k hk;exact ⟨b,o,cs,h1,h2,h4,h5⟩

structure Trm where
 base:ByteArray
 var:Int
 neg:Bool
 abs:ByteArray
structure Eqn where
 grp:Int
 tgt:ByteArray
 trms:List Trm
structure Sta where
 grps:List (ByteArray × ByteArray)
 vars:List ByteArray
 eqs:List Eqn

def QStr (_:World) (s:ByteArray) (cs:List Value):Prop:=cs=[.string s]
def QGrp (_:World) (g:ByteArray × ByteArray) (cs:List Value):Prop:=cs=[.string g.1,.string g.2]
def QInt (_:World) (x:Bool × ByteArray) (cs:List Value):Prop:=cs=[.bool x.1,.string x.2]
def QTrm (_:World) (t:Trm) (cs:List Value):Prop:=cs=[.string t.base,.int .i64 t.var,.bool t.neg,.string t.abs]
def QEqn (w:World) (q:Eqn) (cs:List Value):Prop:=∃tv,cs=[.int .i64 q.grp,.string q.tgt,tv]∧RAt QTrm 4 w tv q.trms

def SsAt:=RAt QStr 1
def GsAt:=RAt QGrp 2
def IsAt:=RAt QInt 2
def TsAt:=RAt QTrm 4
def EsAt:=RAt QEqn 3

section
variable {w w':World} {v:Value}
theorem SsAt.after {l:List ByteArray} (h:SsAt w v l) (hb:Below w.heap.size w w'):SsAt w' v l:=RAt.after h hb (fun _ _ h=>h)
theorem GsAt.after {l:List (ByteArray × ByteArray)} (h:GsAt w v l) (hb:Below w.heap.size w w'):GsAt w' v l:=RAt.after h hb (fun _ _ h=>h)
theorem IsAt.after {l:List (Bool × ByteArray)} (h:IsAt w v l) (hb:Below w.heap.size w w'):IsAt w' v l:=RAt.after h hb (fun _ _ h=>h)
theorem TsAt.after {l:List Trm} (h:TsAt w v l) (hb:Below w.heap.size w w'):TsAt w' v l:=RAt.after h hb (fun _ _ h=>h)
theorem EsAt.after {l:List Eqn} (h:EsAt w v l) (hb:Below w.heap.size w w'):EsAt w' v l:=
 RAt.after h hb (fun _ _ ⟨tv,h1,h2⟩=>⟨tv,h1,RAt.after h2 hb (fun _ _ h=>h)⟩)
end

section
variable {w:World} {ao:Option Addr} {n c k:Nat}
theorem SsAt.at_ {l:List ByteArray} (h:SsAt w (.slice ao n c) l) (hk:k<l.length):∃b o,ao=some ⟨b,o,none⟩∧b<w.heap.size∧w.cell? ⟨b,o+k,none⟩=some (.string l[k]):=by
 obtain ⟨b,o,cs,h1,h2,h3,h4⟩:=RAt.at_ h hk;have:=h4 0 (by omega);rw [h3] at this;exact ⟨b,o,h1,h2,by simpa using this⟩
theorem GsAt.at_ {l:List (ByteArray × ByteArray)} (h:GsAt w (.slice ao n c) l) (hk:k<l.length):∃b o,ao=some ⟨b,o,none⟩∧b<w.heap.size∧w.cell? ⟨b,o+k*2,none⟩=some (.string l[k].1)∧w.cell? ⟨b,o+k*2+1,none⟩=some (.string l[k].2):=by
 obtain ⟨b,o,cs,h1,h2,h3,h4⟩:=RAt.at_ h hk;have e0:=h4 0 (by omega);have e1:=h4 1 (by omega);rw [h3] at e0 e1;exact ⟨b,o,h1,h2,by simpa using e0,by simpa using e1⟩
theorem IsAt.at_ {l:List (Bool × ByteArray)} (h:IsAt w (.slice ao n c) l) (hk:k<l.length):∃b o,ao=some ⟨b,o,none⟩∧b<w.heap.size∧w.cell? ⟨b,o+k*2,none⟩=some (.bool l[k].1)∧w.cell? ⟨b,o+k*2+1,none⟩=some (.string l[k].2):=by
 obtain ⟨b,o,cs,h1,h2,h3,h4⟩:=RAt.at_ h hk;have e0:=h4 0 (by omega);have e1:=h4 1 (by omega);rw [h3] at e0 e1;exact ⟨b,o,h1,h2,by simpa using e0,by simpa using e1⟩
theorem TsAt.at_ {l:List Trm} (h:TsAt w (.slice ao n c) l) (hk:k<l.length):∃b o,ao=some ⟨b,o,none⟩∧b<w.heap.size∧w.cell? ⟨b,o+k*4,none⟩=some (.string l[k].base)∧w.cell? ⟨b,o+k*4+1,none⟩=some (.int .i64 l[k].var)∧w.cell? ⟨b,o+k*4+2,none⟩=some (.bool l[k].neg)∧w.cell? ⟨b,o+k*4+3,none⟩=some (.string l[k].abs):=by
 obtain ⟨b,o,cs,h1,h2,h3,h4⟩:=RAt.at_ h hk;have e0:=h4 0 (by omega);have e1:=h4 1 (by omega);have e2:=h4 2 (by omega);have e3:=h4 3 (by omega);rw [h3] at e0 e1 e2 e3;exact ⟨b,o,h1,h2,by simpa using e0,by simpa using e1,by simpa using e2,by simpa using e3⟩
theorem EsAt.at_ {l:List Eqn} (h:EsAt w (.slice ao n c) l) (hk:k<l.length):∃b o tv,ao=some ⟨b,o,none⟩∧b<w.heap.size∧w.cell? ⟨b,o+k*3,none⟩=some (.int .i64 l[k].grp)∧w.cell? ⟨b,o+k*3+1,none⟩=some (.string l[k].tgt)∧w.cell? ⟨b,o+k*3+2,none⟩=some tv∧TsAt w tv l[k].trms:=by
 obtain ⟨b,o,cs,h1,h2,⟨tv,h3,h5⟩,h4⟩:=RAt.at_ h hk;have e0:=h4 0 (by omega);have e1:=h4 1 (by omega);have e2:=h4 2 (by omega);rw [h3] at e0 e1 e2;exact ⟨b,o,tv,h1,h2,by simpa using e0,by simpa using e1,by simpa using e2,h5⟩
end

structure StAt (w:World) (v1 v2 v3:Value) (S:Sta):Prop where
 g:GsAt w v1 S.grps
 v:SsAt w v2 S.vars
 e:EsAt w v3 S.eqs

theorem StAt.after {w w':World} {v1 v2 v3:Value} {S:Sta} (h:StAt w v1 v2 v3 S) (hb:Below w.heap.size w w'):StAt w' v1 v2 v3 S:=⟨h.g.after hb,h.v.after hb,h.e.after hb⟩

end Go.Proofs.YtfgandecbkbleaaGreatDoor
end

section
set_option linter.unusedVariables false
set_option linter.unusedSimpArgs false
set_option maxRecDepth 100000
namespace Go.Proofs.YtfgandecbkbleaaGreatDoor
open Go.RowKit

theorem valB_c (s:ByteArray) (b:Bool) (w:World) (hs:s.size≤1000) (h:vldB s=b):Calls Tryz.prog 88 #[.string s] w fun e w'=>e=.returned (.bool b)∧w'=w:=by
 rw [←h];exact (valid_c s w (by omega)).mono fun _ _ h=>⟨h.1,h.2.symm⟩

theorem ivalB_c (n:Bool) (s:ByteArray) (b:Bool) (w:World) (hs:s.size≤1000) (h:ivB n s=b):Calls Tryz.prog 87 #[.agg #[.bool n,.string s]] w fun e w'=>e=.returned (.bool b)∧Below w.heap.size w w':=by
 rw [←h];exact ivalid_c n s w (by omega)

def gokB (g:ByteArray × ByteArray):Bool:=vldB g.1&&vldB g.2
def tokB (nv:Nat) (t:Trm):Bool:=decide (0≤t.var)&&decide (t.var<(nv:Int))&&vldB t.base&&ivB t.neg t.abs
def eokB (ng nv:Nat) (q:Eqn):Bool:=decide (0≤q.grp)&&decide (q.grp<(ng:Int))&&vldB q.tgt&&q.trms.all (tokB nv)
def formB (S:Sta):Bool:=S.grps.all gokB&&S.vars.all vldB&&S.eqs.all (eokB S.grps.length S.vars.length)

structure SSm (S:Sta):Prop where
 ng:S.grps.length≤1000
 nv:S.vars.length≤1000
 ne:S.eqs.length≤1000
 g:∀x∈S.grps,x.1.size≤1000∧x.2.size≤1000
 v:∀x∈S.vars,x.size≤1000
 e:∀x∈S.eqs,x.tgt.size≤1000∧x.trms.length≤1000∧∀t∈x.trms,t.base.size≤1000∧t.abs.size≤1000

theorem all_take {α:Type} (p:α→Bool) (l:List α) (k:Nat) (h:k<l.length):(l.take (k+1)).all p=((l.take k).all p&&p l[k]):=by
 rw [List.take_succ_eq_append_getElem h,List.all_append];simp

theorem all_bad {α:Type} (p:α→Bool) (l:List α) (k:Nat) (h:k<l.length) (hb:p l[k]=false):l.all p=false:=by
 rw [List.all_eq_false];exact ⟨l[k],List.getElem_mem h,by simp [hb]⟩

theorem all_end {α:Type} (p:α→Bool) (l:List α) (k:Nat) (h:k=l.length) (hb:(l.take k).all p=true):l.all p=true:=by
 rw [h,List.take_length] at hb;exact hb

end Go.Proofs.YtfgandecbkbleaaGreatDoor
end

section
set_option linter.unusedVariables false
set_option linter.unusedSimpArgs false
set_option maxRecDepth 100000
namespace Go.Proofs.YtfgandecbkbleaaGreatDoor
open Go.RowKit

structure NTrm where
 base:Nat
 var:Nat
 coef:Int
structure NEqn where
 grp:Nat
 tgt:Nat
 trms:List NTrm
structure NSta where
 grps:List (Nat × Nat)
 vars:List Nat
 eqs:List NEqn

def NTrm.t (x:NTrm):Trm:=⟨E x.base,(x.var:Int),sg x.coef,E x.coef.natAbs⟩
def NEqn.q (x:NEqn):Eqn:=⟨(x.grp:Int),E x.tgt,x.trms.map NTrm.t⟩
def gE (g:Nat × Nat):ByteArray × ByteArray:=(E g.1,E g.2)
def NSta.s (x:NSta):Sta:=⟨x.grps.map gE,x.vars.map E,x.eqs.map NEqn.q⟩

def gszB (g:ByteArray × ByteArray):Bool:=decide (g.1.size≤8)&&decide (g.2.size≤8)
def tszB (t:Trm):Bool:=decide (t.base.size≤16)&&decide (t.abs.size≤16)
def eszB (q:Eqn):Bool:=decide (q.trms.length≤12)&&decide (q.tgt.size≤16)&&q.trms.all tszB
def vszB (s:ByteArray):Bool:=decide (s.size≤32)
def fewB (S:Sta):Bool:=decide (S.grps.length≤10)&&decide (S.vars.length≤12)&&decide (S.eqs.length≤12)&&S.grps.all gszB&&S.vars.all vszB&&S.eqs.all eszB

structure NOk (N:NSta):Prop where
 ng:N.grps.length≤10
 nv:N.vars.length≤12
 ne:N.eqs.length≤12
 g:∀x∈N.grps,x.1<256^8∧x.2<256^8
 v:∀x∈N.vars,x<256^32
 e:∀q∈N.eqs,q.grp<N.grps.length∧q.tgt<256^16∧q.trms.length≤12∧∀t∈q.trms,t.base<256^16∧t.var<N.vars.length∧t.coef.natAbs<256^16

theorem list_lift {α β:Type} (f:β→α) (P:β→Prop):∀(l:List α),(∀x∈l,∃y,f y=x∧P y)→∃l':List β,l'.map f=l∧∀y∈l',P y
 | [],_=>⟨[],rfl,fun y h=>by cases h⟩
 | x :: t,h=>by
  obtain ⟨y,h1,h2⟩:=h x (List.mem_cons_self ..);obtain ⟨l,h3,h4⟩:=list_lift f P t (fun z hz=>h z (List.mem_cons_of_mem _ hz));refine ⟨y :: l,by rw [List.map_cons,h1,h3],fun z hz=>?_⟩;rcases List.mem_cons.1 hz with h | h
  ·rw [h];exact h2
  ·exact h4 z h

theorem lt_of_size {n k:Nat} (h:(E n).size≤k):n<256^k:=(E_size_le n k).1 h

theorem trm_num (nv:Nat) (t:Trm) (h1:tokB nv t=true) (h2:tszB t=true):∃y:NTrm,y.t=t∧(y.base<256^16∧y.var<nv∧y.coef.natAbs<256^16):=by
 obtain ⟨tb,tv,tn,ta⟩:=t;simp only [tokB,tszB,Bool.and_eq_true,decide_eq_true_eq] at h1 h2;obtain ⟨⟨⟨h0,hlt⟩,hb⟩,hi⟩:=h1;obtain ⟨b,_,rfl⟩:=of_vldB hb;obtain ⟨z,_,rfl,rfl⟩:=of_ivB hi;obtain ⟨v,rfl⟩:=Int.eq_ofNat_of_zero_le h0;exact ⟨⟨b,v,z⟩,rfl,lt_of_size h2.1,Int.ofNat_lt.1 hlt,lt_of_size h2.2⟩

theorem eqn_num (ng nv:Nat) (q:Eqn) (h1:eokB ng nv q=true) (h2:eszB q=true):∃y:NEqn,y.q=q∧(y.grp<ng∧y.tgt<256^16∧y.trms.length≤12∧∀t∈y.trms,t.base<256^16∧t.var<nv∧t.coef.natAbs<256^16):=by
 obtain ⟨qg,qt,qs⟩:=q;simp only [eokB,eszB,Bool.and_eq_true,decide_eq_true_eq,List.all_eq_true] at h1 h2;obtain ⟨⟨⟨h0,hlt⟩,hb⟩,hi⟩:=h1;obtain ⟨b,_,rfl⟩:=of_vldB hb;obtain ⟨g,rfl⟩:=Int.eq_ofNat_of_zero_le h0;obtain ⟨l,hl,hp⟩:=list_lift NTrm.t (fun y=>y.base<256^16∧y.var<nv∧y.coef.natAbs<256^16) qs (fun t ht=>trm_num nv t (hi t ht) (h2.2 t ht));refine ⟨⟨g,b,l⟩,by rw [NEqn.q,hl],Int.ofNat_lt.1 hlt,lt_of_size h2.1.2,?_,hp⟩;have:(l.map NTrm.t).length≤12:=by rw [hl];exact Nat.le_trans h2.1.1 (by decide)
 simpa using this

theorem to_num (S:Sta) (h1:formB S=true) (h2:fewB S=true):∃N:NSta,N.s=S∧NOk N:=by
 obtain ⟨gs,vs,es⟩:=S;simp only [formB,fewB,Bool.and_eq_true,decide_eq_true_eq,List.all_eq_true] at h1 h2;obtain ⟨⟨⟨⟨⟨l1,l2⟩,l3⟩,hg⟩,hv⟩,he⟩:=h2;obtain ⟨⟨kg,kv⟩,ke⟩:=h1
 obtain ⟨G,hG,pG⟩:=list_lift gE (fun x=>x.1<256^8∧x.2<256^8) gs (fun x hx=>by
  have h3:=kg x hx;have h4:=hg x hx;simp only [gokB,gszB,Bool.and_eq_true,decide_eq_true_eq] at h3 h4;obtain ⟨a,b⟩:=x;obtain ⟨m,_,rfl⟩:=of_vldB h3.1;obtain ⟨n,_,rfl⟩:=of_vldB h3.2;exact ⟨(m,n),rfl,lt_of_size h4.1,lt_of_size h4.2⟩)
 obtain ⟨V,hV,pV⟩:=list_lift E (fun x=>x<256^32) vs (fun x hx=>by
  have h3:=kv x hx;have h4:=hv x hx;obtain ⟨m,_,rfl⟩:=of_vldB h3;simp only [vszB,decide_eq_true_eq] at h4;exact ⟨m,rfl,lt_of_size h4⟩)
 obtain ⟨Q,hQ,pQ⟩:=list_lift NEqn.q (fun y=>y.grp<gs.length∧y.tgt<256^16∧y.trms.length≤12∧∀t∈y.trms,t.base<256^16∧t.var<vs.length∧t.coef.natAbs<256^16) es (fun x hx=>eqn_num _ _ x (ke x hx) (he x hx));have e1:gs.length=G.length:=by rw [←hG];simp
 have e2:vs.length=V.length:=by rw [←hV];simp
 have e3:es.length=Q.length:=by rw [←hQ];simp
 rw [e1,e2] at pQ;rw [e1] at l1;rw [e2] at l2;rw [e3] at l3;exact ⟨⟨G,V,Q⟩,by rw [NSta.s,hG,hV,hQ],⟨Nat.le_trans l1 (by decide),Nat.le_trans l2 (by decide),Nat.le_trans l3 (by decide),pG,pV,pQ⟩⟩

theorem NOk.ssm {N:NSta} (h:NOk N):SSm N.s where
 ng:=by have:=h.ng;simp [NSta.s];omega
 nv:=by have:=h.nv;simp [NSta.s];omega
 ne:=by have:=h.ne;simp [NSta.s];omega
 g:=by
  intro x hx;obtain ⟨y,hy,rfl⟩:=List.mem_map.1 hx;have h1:=(E_size_le _ _).2 (h.g y hy).1;have h2:=(E_size_le _ _).2 (h.g y hy).2;exact ⟨by simp only [gE];omega,by simp only [gE];omega⟩
 v:=by
  intro x hx;obtain ⟨y,hy,rfl⟩:=List.mem_map.1 hx;have h1:=(E_size_le _ _).2 (h.v y hy);omega
 e:=by
  intro x hx;obtain ⟨y,hy,rfl⟩:=List.mem_map.1 hx;obtain ⟨_,h1,h2,h3⟩:=h.e y hy;have h1:=(E_size_le _ _).2 h1;refine ⟨by simp only [NEqn.q];omega,by simp only [NEqn.q,List.length_map];omega,fun t ht=>?_⟩;obtain ⟨z,hz,rfl⟩:=List.mem_map.1 ht;obtain ⟨h4,_,h5⟩:=h3 z hz;have h4:=(E_size_le _ _).2 h4;have h5:=(E_size_le _ _).2 h5;exact ⟨by simp only [NTrm.t];omega,by simp only [NTrm.t];omega⟩

theorem NOk.form {N:NSta} (h:NOk N):formB N.s=true:=by
 simp only [formB,Bool.and_eq_true,List.all_eq_true];refine ⟨⟨fun x hx=>?_,fun x hx=>?_⟩,fun x hx=>?_⟩
 ·obtain ⟨y,hy,rfl⟩:=List.mem_map.1 hx;simp only [gokB,gE,Bool.and_eq_true];exact ⟨vldB_E _ (Nat.lt_of_lt_of_le (h.g y hy).1 (by decide)),vldB_E _ (Nat.lt_of_lt_of_le (h.g y hy).2 (by decide))⟩
 ·obtain ⟨y,hy,rfl⟩:=List.mem_map.1 hx;exact vldB_E _ (Nat.lt_of_lt_of_le (h.v y hy) (by decide))
 ·obtain ⟨y,hy,rfl⟩:=List.mem_map.1 hx;obtain ⟨h1,h2,h3,h4⟩:=h.e y hy;simp only [eokB,NEqn.q,Bool.and_eq_true,decide_eq_true_eq,List.all_eq_true,NSta.s,List.length_map];refine ⟨⟨⟨decide_eq_true (Int.natCast_nonneg _),Int.ofNat_lt.2 h1⟩,vldB_E _ (Nat.lt_of_lt_of_le h2 (by decide))⟩,fun t ht=>?_⟩;obtain ⟨z,hz,rfl⟩:=List.mem_map.1 ht;obtain ⟨h5,h6,h7⟩:=h4 z hz;simp only [tokB,NTrm.t,Bool.and_eq_true,decide_eq_true_eq];exact ⟨⟨⟨decide_eq_true (Int.natCast_nonneg _),decide_eq_true (Int.ofNat_lt.2 h6)⟩,vldB_E _ (Nat.lt_of_lt_of_le h5 (by decide))⟩,ivB_I _ (Nat.lt_of_lt_of_le h7 (by decide))⟩

def NSta.gp (N:NSta) (q:NEqn):Nat × Nat:=N.grps.getD q.grp (0,0)
def NSta.ord (N:NSta):Nat:=((N.grps.map (·.2)).find? (· != 0)).getD 0
def hasQ (g:Nat × Nat) (t:NTrm):Bool:=hasB g.1 g.2 t.base
def elemQ (N:NSta) (q:NEqn):Bool:=hasB (N.gp q).1 (N.gp q).2 q.tgt&&q.trms.all (hasQ (N.gp q))
def gr0 (g:Nat × Nat):Bool:=grpE g.1 g.2==0
def NSta.elem (N:NSta):Bool:=N.grps.all gr0&&N.eqs.all (elemQ N)
def vz (n:Nat):Bool:=n==0
def NSta.tz (N:NSta) (t:NTrm):Bool:=vz (N.vars.getD t.var 0)
def gq (n:Nat) (g:Nat × Nat):Bool:=g.2 != 0&&g.2 != n
def kindQ (N:NSta) (q:NEqn):Bool:=!(vz (N.gp q).2) || !(q.trms.any N.tz)
def NSta.typ (N:NSta):Bool:=!(N.vars.any vz) || (!(vz N.ord)&&!(N.grps.any (gq N.ord))&&N.eqs.all (kindQ N))
def NSta.chk (N:NSta):Nat:=if 8<N.grps.length then 6 else if N.elem=false then 13 else if N.typ=false then 10 else 0

def NAt (w:World) (v1 v2 v3:Value) (N:NSta):Prop:=StAt w v1 v2 v3 N.s
def TNAt (w:World) (v:Value) (l:List NTrm):Prop:=TsAt w v (l.map NTrm.t)

theorem NAt.after {w w':World} {v1 v2 v3:Value} {N:NSta} (h:NAt w v1 v2 v3 N) (hb:Below w.heap.size w w'):NAt w' v1 v2 v3 N:=StAt.after h hb
theorem TNAt.after {w w':World} {v:Value} {l:List NTrm} (h:TNAt w v l) (hb:Below w.heap.size w w'):TNAt w' v l:=TsAt.after h hb

theorem NAt.forms {w:World} {v1 v2 v3:Value} {N:NSta} (h:NAt w v1 v2 v3 N):∃a1 c1 a2 c2 a3 c3,v1=.slice a1 N.grps.length c1∧v2=.slice a2 N.vars.length c2∧v3=.slice a3 N.eqs.length c3:=by
 obtain ⟨a1,c1,h1⟩:=RAt.form h.g;obtain ⟨a2,c2,h2⟩:=RAt.form h.v;obtain ⟨a3,c3,h3⟩:=RAt.form h.e;exact ⟨a1,c1,a2,c2,a3,c3,by rw [h1];simp [NSta.s],by rw [h2];simp [NSta.s],by rw [h3];simp [NSta.s]⟩

theorem TNAt.form {w:World} {v:Value} {l:List NTrm} (h:TNAt w v l):∃a c,v=.slice a l.length c:=by
 obtain ⟨a1,c1,h1⟩:=RAt.form h;exact ⟨a1,c1,by rw [h1];simp⟩

section
variable {w:World} {ao:Option Addr} {n c k:Nat} {v1 v2 v3:Value} {N:NSta}
theorem NAt.gat (h:NAt w (.slice ao n c) v2 v3 N) (hk:k<N.grps.length):∃b o,ao=some ⟨b,o,none⟩∧b<w.heap.size∧w.cell? ⟨b,o+k*2,none⟩=some (.string (E N.grps[k].1))∧w.cell? ⟨b,o+k*2+1,none⟩=some (.string (E N.grps[k].2)):=by
 have hk':k<N.s.grps.length:=by simpa [NSta.s] using hk
 obtain ⟨b,o,h1,h2,h3,h4⟩:=GsAt.at_ h.g hk';simp only [NSta.s,List.getElem_map,gE] at h3 h4;exact ⟨b,o,h1,h2,h3,h4⟩
theorem NAt.vat (h:NAt w v1 (.slice ao n c) v3 N) (hk:k<N.vars.length):∃b o,ao=some ⟨b,o,none⟩∧b<w.heap.size∧w.cell? ⟨b,o+k,none⟩=some (.string (E N.vars[k])):=by
 have hk':k<N.s.vars.length:=by simpa [NSta.s] using hk
 obtain ⟨b,o,h1,h2,h3⟩:=SsAt.at_ h.v hk';simp only [NSta.s,List.getElem_map] at h3;exact ⟨b,o,h1,h2,h3⟩
theorem NAt.eat (h:NAt w v1 v2 (.slice ao n c) N) (hk:k<N.eqs.length):∃b o tv,ao=some ⟨b,o,none⟩∧b<w.heap.size∧w.cell? ⟨b,o+k*3,none⟩=some (.int .i64 (N.eqs[k].grp:Int))∧w.cell? ⟨b,o+k*3+1,none⟩=some (.string (E N.eqs[k].tgt))∧w.cell? ⟨b,o+k*3+2,none⟩=some tv∧TNAt w tv N.eqs[k].trms:=by
 have hk':k<N.s.eqs.length:=by simpa [NSta.s] using hk
 obtain ⟨b,o,tv,h1,h2,h3,h4,h5,h6⟩:=EsAt.at_ h.e hk';simp only [NSta.s,List.getElem_map,NEqn.q] at h3 h4 h6;exact ⟨b,o,tv,h1,h2,h3,h4,h5,h6⟩
theorem TNAt.at_ {l:List NTrm} (h:TNAt w (.slice ao n c) l) (hk:k<l.length):∃b o,ao=some ⟨b,o,none⟩∧b<w.heap.size∧w.cell? ⟨b,o+k*4,none⟩=some (.string (E l[k].base))∧w.cell? ⟨b,o+k*4+1,none⟩=some (.int .i64 (l[k].var:Int))∧w.cell? ⟨b,o+k*4+2,none⟩=some (.bool (sg l[k].coef))∧w.cell? ⟨b,o+k*4+3,none⟩=some (.string (E l[k].coef.natAbs)):=by
 have hk':k<(l.map NTrm.t).length:=by simpa using hk
 obtain ⟨b,o,h1,h2,h3,h4,h5,h6⟩:=TsAt.at_ h hk';simp only [List.getElem_map,NTrm.t] at h3 h4 h5 h6;exact ⟨b,o,h1,h2,h3,h4,h5,h6⟩
end

end Go.Proofs.YtfgandecbkbleaaGreatDoor
end

section
/- Lagrange's theorem: each number is a sum of four squares. Plain Lean. -/
set_option linter.unusedVariables false
set_option linter.unusedSimpArgs false
namespace Go.Proofs.YtfgandecbkbleaaGreatDoor.Lag
def S4 (n:Int):Prop:=∃a b c d:Int,n=a*a+b*b+c*c+d*d

theorem S4.mul {m n:Int} (h1:S4 m) (h2:S4 n):S4 (m*n):=by
 obtain ⟨a,b,c,d,rfl⟩:=h1;obtain ⟨x,y,z,w,rfl⟩:=h2;exact ⟨a*x+b*y+c*z+d*w,a*y-b*x+c*w-d*z,a*z-c*x+d*y-b*w,a*w-d*x+b*z-c*y,by grind⟩

theorem S4.descend {p m:Int} (hm:1<m) (hpr:¬ m∣p) (h:S4 (m*p)):∃r,1≤r∧r<m∧S4 (r*p):=by
 obtain ⟨a,b,c,d,h⟩:=h
 have key:∀x:Int,∃k y,x=y+m*k∧-m≤2*y∧2*y≤m:=by
  intro x;refine ⟨(x+m / 2) / m,x-m*((x+m / 2) / m),by omega,?_,?_⟩
  ·have h1:=Int.emod_add_mul_ediv (x+m / 2) m;have h2:=Int.emod_nonneg (x+m / 2) (show m≠0 by omega);omega
  ·have h1:=Int.emod_add_mul_ediv (x+m / 2) m;have h2:=Int.emod_lt_of_pos (x+m / 2) (show 0<m by omega);omega
 obtain ⟨ka,ya,ha,ha1,ha2⟩:=key a;obtain ⟨kb,yb,hb,hb1,hb2⟩:=key b;obtain ⟨kc,yc,hc,hc1,hc2⟩:=key c;obtain ⟨kd,yd,hd,hd1,hd2⟩:=key d
 have sq:∀y:Int,-m≤2*y→2*y≤m→0≤y*y∧4*(y*y)≤m*m∧(4*(y*y)=m*m→(2*y=m∨2*y=-m)):=by
  intro y h1 h2;have h3:0≤(m-2*y)*(m+2*y):=Int.mul_nonneg (by omega) (by omega);have h4:(m-2*y)*(m+2*y)=m*m-4*(y*y):=by grind
  refine ⟨?_,by omega,?_⟩
  ·rcases Int.le_total 0 y with h | h
   ·exact Int.mul_nonneg h h
   ·have:=Int.mul_nonneg (show 0≤-y by omega) (show 0≤-y by omega);rwa [Int.neg_mul_neg] at this
  ·intro h5;have h6:(m-2*y)*(m+2*y)=0:=by omega
   rcases Int.mul_eq_zero.1 h6 with h | h <;> omega
 have sa:=sq ya ha1 ha2;have sb:=sq yb hb1 hb2;have sc:=sq yc hc1 hc2;have sd:=sq yd hd1 hd2
 obtain ⟨r,hr⟩:∃r,ya*ya+yb*yb+yc*yc+yd*yd=m*r:=by
  refine ⟨p-(2*ya*ka+m*ka*ka+2*yb*kb+m*kb*kb+2*yc*kc+m*kc*kc+2*yd*kd+m*kd*kd),?_⟩;subst ha hb hc hd;grind
 have hm0:0<m:=by omega
 have hr0:0≤r:=by
  apply Classical.byContradiction
  intro hn;have:=Int.mul_lt_mul_of_pos_left (show r<0 by omega) hm0;omega
 have hrm:r≤m:=by
  apply Classical.byContradiction
  intro hn;have:=Int.mul_lt_mul_of_pos_left (show m<r by omega) hm0;omega
 have hrz:r≠0:=by
  intro h0;rw [h0,Int.mul_zero] at hr
  have e1:ya=0:=by
              have:ya*ya=0:=by omega
              rcases Int.mul_eq_zero.1 this with h | h <;> exact h
  have e2:yb=0:=by
              have:yb*yb=0:=by omega
              rcases Int.mul_eq_zero.1 this with h | h <;> exact h
  have e3:yc=0:=by
              have:yc*yc=0:=by omega
              rcases Int.mul_eq_zero.1 this with h | h <;> exact h
  have e4:yd=0:=by
              have:yd*yd=0:=by omega
              rcases Int.mul_eq_zero.1 this with h | h <;> exact h
  subst e1 e2 e3 e4;apply hpr
  refine ⟨ka*ka+kb*kb+kc*kc+kd*kd,?_⟩;have:m*p=m*(m*(ka*ka+kb*kb+kc*kc+kd*kd)):=by rw [h,ha,hb,hc,hd];grind
  exact Int.eq_of_mul_eq_mul_left (by omega) this
 have hrn:r≠m:=by
  intro h0;rw [h0] at hr;have f1:=sa.2.2 (by omega);have f2:=sb.2.2 (by omega);have f3:=sc.2.2 (by omega);have f4:=sd.2.2 (by omega)
  have hev:∀y k:Int,(2*y=m∨2*y=-m)→∃t,(y+m*k)*(y+m*k)=y*y+m*m*t:=by
   intro y k h;rcases h with h | h
   ·exact ⟨k+k*k,by grind⟩
   ·exact ⟨-k+k*k,by grind⟩
  obtain ⟨t1,g1⟩:=hev ya ka f1;obtain ⟨t2,g2⟩:=hev yb kb f2;obtain ⟨t3,g3⟩:=hev yc kc f3;obtain ⟨t4,g4⟩:=hev yd kd f4;apply hpr
  refine ⟨1+t1+t2+t3+t4,?_⟩;have:m*p=m*(m*(1+t1+t2+t3+t4)):=by rw [h,ha,hb,hc,hd,g1,g2,g3,g4];grind
  exact Int.eq_of_mul_eq_mul_left (by omega) this
 refine ⟨r,by omega,by omega,?_⟩;-- the product,divided by m twice
 refine ⟨ya*ka+yb*kb+yc*kc+yd*kd+r,ka*yb-kb*ya+kc*yd-kd*yc,ka*yc-kc*ya+kd*yb-kb*yd,ka*yd-kd*ya+kb*yc-kc*yb,?_⟩
 have:m*m*(r*p)=m*m*((ya*ka+yb*kb+yc*kc+yd*kd+r)*(ya*ka+yb*kb+yc*kc+yd*kd+r)+(ka*yb-kb*ya+kc*yd-kd*yc)*(ka*yb-kb*ya+kc*yd-kd*yc)+(ka*yc-kc*ya+kd*yb-kb*yd)*(ka*yc-kc*ya+kd*yb-kb*yd)+(ka*yd-kd*ya+kb*yc-kc*yb)*(ka*yd-kd*ya+kb*yc-kc*yb)):=by
  have e:m*m*(r*p)=(m*r)*(m*p):=by grind
  rw [e,h,ha,hb,hc,hd];grind
 exact Int.eq_of_mul_eq_mul_left (show m*m≠0 from Int.mul_ne_zero (by omega) (by omega)) this

theorem pigeon:∀(n:Nat) (l:List Nat),l.Nodup→(∀x∈l,x<n)→l.length≤n
 | 0,l,_,h=>by
  cases l with
  | nil=>simp
  | cons a t=>have:=h a (by simp);omega
 | n+1,l,hd,h=>by
  by_cases hm:n∈l
  ·have h1:=List.length_erase_of_mem hm
   have h2:=pigeon n (l.erase n) (hd.erase n) (by
    intro x hx;have h3:=(hd.mem_erase_iff).1 hx;have:=h x h3.2;have:=h3.1;omega)
   omega
  ·have:=pigeon n l hd (by
    intro x hx;have:=h x hx;have:x≠n:=fun e=>hm (e ▸ hx)
    omega)
   omega

def Pr (p:Nat):Prop:=1<p∧∀d,d∣p→d=1∨d=p
theorem Pr.euclid {p a b:Nat} (hp:Pr p) (h:p∣a*b):p∣a∨p∣b:=by
 rcases hp.2 (Nat.gcd p a) (Nat.gcd_dvd_left p a) with h1 | h1
 ·right
  exact Nat.Coprime.dvd_of_dvd_mul_left (m:=a) h1 h
 ·left
  rw [←h1];exact Nat.gcd_dvd_right p a

theorem sq_inj {p h x y:Nat} (hp:Pr p) (h2:p=2*h+1) (hx:x<y) (hy:y≤h):x*x%p≠y*y%p:=by
 intro e
 have h3:p∣y*y-x*x:=by
  have h4:=Nat.mul_le_mul (show x≤y by omega) (show x≤y by omega);exact Nat.dvd_of_mod_eq_zero (Nat.sub_mod_eq_zero_of_mod_eq e.symm)
 have h5:y*y-x*x=(y-x)*(y+x):=by
  obtain ⟨k,rfl⟩:∃k,y=x+k:=⟨y-x,by omega⟩;have:(x+k)*(x+k)=x*x+k*(x+k+x):=by grind
  rw [this];have:x+k-x=k:=by omega
  rw [this];omega
 rw [h5] at h3;rcases hp.euclid h3 with h6 | h6
 ·have:=Nat.le_of_dvd (by omega) h6;omega
 ·have:=Nat.le_of_dvd (by omega) h6;omega

theorem start {p h:Nat} (hp:Pr p) (h2:p=2*h+1):∃a b,a≤h∧b≤h∧p∣a*a+b*b+1:=by
 apply Classical.byContradiction
 intro hn;have hpp:=hp.1
 have h3:=pigeon p ((List.range (h+1)).map (fun x=>x*x%p)++(List.range (h+1)).map (fun y=>p-1-y*y%p)) (by
  rw [List.nodup_append];refine ⟨?_,?_,?_⟩
  ·rw [List.Nodup,List.pairwise_map];refine List.Pairwise.imp_of_mem ?_ List.pairwise_lt_range;intro x y hx hy hxy;rw [List.mem_range] at hx hy;exact sq_inj hp h2 hxy (by omega)
  ·rw [List.Nodup,List.pairwise_map];refine List.Pairwise.imp_of_mem ?_ List.pairwise_lt_range;intro x y hx hy hxy;rw [List.mem_range] at hx hy;have h4:=sq_inj hp h2 hxy (by omega);have h5:=Nat.mod_lt (x*x) (show 0<p by omega);have h6:=Nat.mod_lt (y*y) (show 0<p by omega);omega
  ·intro a ha b hb hab;rw [List.mem_map] at ha hb;obtain ⟨x,hx,rfl⟩:=ha;obtain ⟨y,hy,rfl⟩:=hb;rw [List.mem_range] at hx hy;apply hn
   refine ⟨x,y,by omega,by omega,?_⟩;have h6:=Nat.mod_lt (y*y) (show 0<p by omega);have h7:x*x%p+y*y%p+1=p:=by omega
   have h8:=Nat.div_add_mod (x*x) p;have h9:=Nat.div_add_mod (y*y) p;exact ⟨x*x / p+y*y / p+1,by rw [Nat.mul_add,Nat.mul_add];omega⟩) (by
  intro x hx;rw [List.mem_append,List.mem_map,List.mem_map] at hx;rcases hx with ⟨y,_,rfl⟩ | ⟨y,_,rfl⟩
  ·exact Nat.mod_lt _ (by omega)
  ·omega)
 simp at h3;omega

theorem S4.prime {p:Nat} (hp:Pr p):∀(k:Nat) (m:Int),m.toNat=k→1≤m→m<p→S4 (m*p)→S4 p:=by
 intro k;induction k using Nat.strongRecOn with
 | _ k ih =>
  intro m hk h1 h2 h;by_cases hm:m=1
  ·rw [hm,Int.one_mul] at h;exact h
  ·obtain ⟨r,hr1,hr2,hr3⟩:=S4.descend (p:=(p:Int)) (m:=m) (by omega) (by
    intro hd
    have hd2:m.toNat∣p:=by
     have:((m.toNat:Nat):Int)∣(p:Int):=by rw [Int.toNat_of_nonneg (by omega)];exact hd
     exact Int.natCast_dvd_natCast.1 this
    rcases hp.2 _ hd2 with h5 | h5 <;> omega) h
   exact ih r.toNat (by omega) r rfl hr1 (by omega) hr3

theorem lagrange (n:Nat):S4 (n:Int):=by
 induction n using Nat.strongRecOn with
 | _ n ih =>
  by_cases h0:n=0
  ·exact ⟨0,0,0,0,by rw [h0];rfl⟩
  by_cases h1:n=1
  ·exact ⟨1,0,0,0,by rw [h1];rfl⟩
  by_cases h2:n=2
  ·exact ⟨1,1,0,0,by rw [h2];rfl⟩
  by_cases hp:Pr n
  ·have hodd:n%2=1:=by
    apply Classical.byContradiction
    intro h;have:=hp.2 2 (by omega);omega
   obtain ⟨a,b,ha,hb,c,hc⟩:=start hp (h:=n / 2) (by omega);have ha2:=Nat.mul_le_mul ha ha;have hb2:=Nat.mul_le_mul hb hb
   have hnn:4*(n / 2*(n / 2))+4*(n / 2)+1=n*n:=by
    obtain ⟨k,hk⟩:∃k,k=n / 2:=⟨_,rfl⟩;have h3:n=2*k+1:=by omega
    rw [←hk,h3];grind
   have hcn:c<n:=by
    apply Classical.byContradiction
    intro h;have:=Nat.mul_le_mul_left n (show n≤c by omega);omega
   have hc1:1≤c:=by
    rcases Nat.eq_zero_or_pos c with h | h
    ·rw [h] at hc;omega
    ·exact h
   refine S4.prime hp _ (c:Int) rfl (by omega) (by omega) ⟨a,b,1,0,?_⟩;have:((a*a+b*b+1:Nat):Int)=((n*c:Nat):Int):=by rw [hc]
   simp only [Int.natCast_add,Int.natCast_mul] at this;grind
  ·have:∃d,d∣n∧d≠1∧d≠n:=by
    apply Classical.byContradiction
    intro h;exact hp ⟨by omega,fun d hd=>Classical.byContradiction fun h5=>h ⟨d,hd,fun e=>h5 (.inl e),fun e=>h5 (.inr e)⟩⟩
   obtain ⟨d,⟨e,he⟩,hd1,hd2⟩:=this
   have hd0:0<d:=by
    rcases Nat.eq_zero_or_pos d with h | h
    ·rw [h] at he;omega
    ·exact h
   have he0:0<e:=by
    rcases Nat.eq_zero_or_pos e with h | h
    ·rw [h] at he;omega
    ·exact h
   have hdn:d<n:=by
    rcases Nat.lt_or_ge d n with h | h
    ·exact h
    ·have:=Nat.mul_le_mul_left d he0;omega
   have hen:e<n:=by
    rcases Nat.lt_or_ge e n with h | h
    ·exact h
    ·have:=Nat.mul_le_mul_right e (show 2≤d by omega);omega
   rw [he,Int.natCast_mul];exact S4.mul (ih d hdn) (ih e hen)
end Go.Proofs.YtfgandecbkbleaaGreatDoor.Lag
end

section
set_option linter.unusedVariables false
set_option linter.unusedSimpArgs false
namespace Go.Proofs.YtfgandecbkbleaaGreatDoor
open Go.RowKit Go.Shelf

theorem rt_sq (b:Nat):rt (b*b)=b:=(rt_uniq (Nat.le_refl _) (by
 have:(b+1)*(b+1)=b*b+2*b+1:=by grind
 omega)).symm
theorem le_rt {a n:Nat} (h:a*a≤n):a≤rt n:=by
 apply Classical.byContradiction
 intro h1;have h2:=Nat.mul_le_mul (show rt n+1≤a by omega) (show rt n+1≤a by omega);have:=(rt_spec n).2;omega

theorem twoF_sound {n a b:Nat}:∀{x:Nat},x*x≤n→twoF n x=some (a,b)→n=a*a+b*b
 | 0,_,h=>by
  rw [twoF] at h;split at h
  ·cases h
  ·cases h;omega
 | x+1,hx,h=>by
  rw [twoF] at h;split at h
  ·cases h
  ·split at h
   ·rename_i h2;cases h
    have h3:=h2.1;omega
   ·exact twoF_sound (Nat.le_trans (Nat.mul_le_mul (by omega) (by omega)) hx) h
theorem min_sq (d x:Nat):min (rt d) x*min (rt d) x≤d:=Nat.le_trans (Nat.mul_le_mul (by omega) (by omega)) (rt_spec d).1
theorem threeF_sound {n a b c:Nat}:∀{x:Nat},x*x≤n→threeF n x=some (a,b,c)→n=a*a+b*b+c*c
 | 0,_,h=>by
  rw [threeF] at h;split at h
  ·cases h
  ·cases h;omega
 | x+1,hx,h=>by
  rw [threeF] at h;split at h
  ·cases h
  ·split at h
   ·rename_i y z h2;cases h
    have h3:=twoF_sound (min_sq _ _) h2;omega
   ·exact threeF_sound (Nat.le_trans (Nat.mul_le_mul (by omega) (by omega)) hx) h
theorem fourF_sound {n a b c d:Nat}:∀{x:Nat},x*x≤n→fourF n x=some (a,b,c,d)→n=a*a+b*b+c*c+d*d
 | 0,_,h=>by
  rw [fourF] at h;split at h
  ·split at h
   ·rename_i y z t h2;cases h
    have h3:=threeF_sound (x:=0) (by omega) h2;omega
   ·cases h
  ·cases h
 | x+1,hx,h=>by
  rw [fourF] at h;have hx2:x*x≤n:=Nat.le_trans (Nat.mul_le_mul (by omega) (by omega)) hx;split at h
  ·split at h
   ·rename_i y z t h2;cases h
    have h3:=threeF_sound (min_sq _ _) h2;omega
   ·exact fourF_sound hx2 h
  ·exact fourF_sound hx2 h
theorem twoF_complete {n a b:Nat} (hn:n=a*a+b*b) (hb:b≤a):∀{x:Nat},a≤x→twoF n x≠none
 | 0,h=>by
  have ha:a=0:=by omega
  have hb:b=0:=by omega
  rw [ha,hb] at hn;rw [twoF,if_neg (by omega)];simp
 | x+1,h=>by
  have h1:=Nat.mul_le_mul h h;have h2:=Nat.mul_le_mul hb hb;have h3:2*(x+1)*(x+1)=2*((x+1)*(x+1)):=Nat.mul_assoc _ _ _;rw [twoF,if_neg (by omega)];split
  ·simp
  ·rename_i hno;by_cases he:a=x+1
   ·rw [←he] at hno;have h4:n-a*a=b*b:=by omega
    rw [h4,rt_sq] at hno;exact absurd ⟨rfl,hb⟩ hno
   ·exact twoF_complete hn hb (by omega)
theorem threeF_complete {n a b c:Nat} (hn:n=a*a+b*b+c*c) (hb:b≤a) (hc:c≤b):∀{x:Nat},a≤x→threeF n x≠none
 | 0,h=>by
  have ha:a=0:=by omega
  have hb:b=0:=by omega
  have hc:c=0:=by omega
  rw [ha,hb,hc] at hn;rw [threeF,if_neg (by omega)];simp
 | x+1,h=>by
  have h1:=Nat.mul_le_mul h h;have h2:=Nat.mul_le_mul hb hb;have h3:=Nat.mul_le_mul hc hc;have h4:3*(x+1)*(x+1)=3*((x+1)*(x+1)):=Nat.mul_assoc _ _ _;rw [threeF,if_neg (by omega)];split
  ·simp
  ·rename_i hno;by_cases he:a=x+1
   ·rw [←he] at hno;have h5:n-a*a=b*b+c*c:=by omega
    rw [h5] at hno;have h6:=le_rt (show b*b≤b*b+c*c by omega);exact absurd hno (twoF_complete rfl hc (by omega))
   ·exact threeF_complete hn hb hc (by omega)

theorem sq_mod8 (a:Nat):a*a%8=0∨a*a%8=1∨a*a%8=4:=by
 have:a%8=0∨a%8=1∨a%8=2∨a%8=3∨a%8=4∨a%8=5∨a%8=6∨a%8=7:=by omega
 rw [Nat.mul_mod];rcases this with h | h | h | h | h | h | h | h <;> rw [h] <;> simp
theorem sq_mod4 (a:Nat):(a%2=0∧a*a=4*(a / 2*(a / 2)))∨(a%2=1∧a*a%4=1):=by
 by_cases h:a%2=0
 ·left
  obtain ⟨k,hk⟩:∃k,k=a / 2:=⟨_,rfl⟩;have:a=2*k:=by omega
  rw [←hk];refine ⟨h,?_⟩;rw [this];grind
 ·right
  obtain ⟨k,hk⟩:∃k,a=2*k+1:=⟨a / 2,by omega⟩;refine ⟨by omega,?_⟩;have:a*a=4*(k*k+k)+1:=by rw [hk];grind
  omega
theorem sevF_three:∀(k:Nat) {n a b c:Nat},n=a*a+b*b+c*c→sevF k n=false
 | 0,n,a,b,c,h=>by
  have h1:=sq_mod8 a;have h2:=sq_mod8 b;have h3:=sq_mod8 c;rw [sevF,beq_eq_false_iff_ne];omega
 | k+1,n,a,b,c,h=>by
  have h1:=sq_mod8 a;have h2:=sq_mod8 b;have h3:=sq_mod8 c;rw [sevF];split
  ·rename_i h4;have g1:=sq_mod4 a;have g2:=sq_mod4 b;have g3:=sq_mod4 c;exact sevF_three k (a:=a / 2) (b:=b / 2) (c:=c / 2) (by omega)
  ·rw [beq_eq_false_iff_ne];omega

theorem fourF_complete {n a b c d:Nat} (hn:n=a*a+b*b+c*c+d*d) (hb:b≤a) (hc:c≤b) (hd:d≤c):∀{x:Nat},a≤x→fourF n x≠none:=by
 intro x;induction x with
 | zero =>
  intro h;have ha:a=0:=by omega
  have hb:b=0:=by omega
  have hc:c=0:=by omega
  have hd:d=0:=by omega
  rw [ha,hb,hc,hd] at hn;rw [hn];decide
 | succ x ih =>
  intro h;rw [fourF];by_cases he:a=x+1
  ·have h5:n-a*a=b*b+c*c+d*d:=by omega
   have h6:=le_rt (show b*b≤b*b+c*c+d*d by omega);rw [←he,h5,if_pos (sevF_three 16 rfl)];have h7:=threeF_complete (n:=b*b+c*c+d*d) rfl hc hd (show b≤min (rt (b*b+c*c+d*d)) a by omega);split
   ·simp
   ·rename_i hno;exact absurd hno h7
  ·have h8:=ih (by omega);split
   ·split
    ·simp
    ·exact h8
   ·exact h8

theorem ins4 {n a b c d:Nat} (hn:n=a*a+b*b+c*c+d*d):∃a b c d:Nat,n=a*a+b*b+c*c+d*d∧b≤a∧c≤b∧d≤c:=by
 rcases Nat.le_total a b with h1 | h1 <;> rcases Nat.le_total c d with h2 | h2 <;> rcases Nat.le_total a c with h3 | h3 <;> rcases Nat.le_total a d with h4 | h4 <;> rcases Nat.le_total b c with h5 | h5 <;> rcases Nat.le_total b d with h6 | h6 <;>
 first
  | exact ⟨a,b,c,d,by omega,by omega,by omega,by omega⟩
  | exact ⟨a,b,d,c,by omega,by omega,by omega,by omega⟩
  | exact ⟨a,c,b,d,by omega,by omega,by omega,by omega⟩
  | exact ⟨a,c,d,b,by omega,by omega,by omega,by omega⟩
  | exact ⟨a,d,b,c,by omega,by omega,by omega,by omega⟩
  | exact ⟨a,d,c,b,by omega,by omega,by omega,by omega⟩
  | exact ⟨b,a,c,d,by omega,by omega,by omega,by omega⟩
  | exact ⟨b,a,d,c,by omega,by omega,by omega,by omega⟩
  | exact ⟨b,c,a,d,by omega,by omega,by omega,by omega⟩
  | exact ⟨b,c,d,a,by omega,by omega,by omega,by omega⟩
  | exact ⟨b,d,a,c,by omega,by omega,by omega,by omega⟩
  | exact ⟨b,d,c,a,by omega,by omega,by omega,by omega⟩
  | exact ⟨c,a,b,d,by omega,by omega,by omega,by omega⟩
  | exact ⟨c,a,d,b,by omega,by omega,by omega,by omega⟩
  | exact ⟨c,b,a,d,by omega,by omega,by omega,by omega⟩
  | exact ⟨c,b,d,a,by omega,by omega,by omega,by omega⟩
  | exact ⟨c,d,a,b,by omega,by omega,by omega,by omega⟩
  | exact ⟨c,d,b,a,by omega,by omega,by omega,by omega⟩
  | exact ⟨d,a,b,c,by omega,by omega,by omega,by omega⟩
  | exact ⟨d,a,c,b,by omega,by omega,by omega,by omega⟩
  | exact ⟨d,b,a,c,by omega,by omega,by omega,by omega⟩
  | exact ⟨d,b,c,a,by omega,by omega,by omega,by omega⟩
  | exact ⟨d,c,a,b,by omega,by omega,by omega,by omega⟩
  | exact ⟨d,c,b,a,by omega,by omega,by omega,by omega⟩

theorem lagrangeN (n:Nat):∃a b c d:Nat,n=a*a+b*b+c*c+d*d:=by
 obtain ⟨a,b,c,d,h⟩:=Lag.lagrange n;refine ⟨a.natAbs,b.natAbs,c.natAbs,d.natAbs,?_⟩
 have:(n:Int)=((a.natAbs*a.natAbs+b.natAbs*b.natAbs+c.natAbs*c.natAbs+d.natAbs*d.natAbs:Nat):Int):=by
  simp only [Int.natCast_add,Int.natAbs_mul_self];exact h
 exact Int.ofNat_inj.1 this

theorem fourF_some (n:Nat):fourF n (rt n)≠none:=by
 obtain ⟨a,b,c,d,h⟩:=lagrangeN n;obtain ⟨a,b,c,d,h,hb,hc,hd⟩:=ins4 h;exact fourF_complete h hb hc hd (le_rt (by omega))
theorem fourF_spec (n:Nat):∃a b c d:Nat,fourF n (rt n)=some (a,b,c,d)∧n=a*a+b*b+c*c+d*d:=by
 cases h:fourF n (rt n) with
 | none=>exact absurd h (fourF_some n)
 | some q =>
  obtain ⟨a,b,c,d⟩:=q;exact ⟨a,b,c,d,rfl,fourF_sound (rt_spec n).1 h⟩
end Go.Proofs.YtfgandecbkbleaaGreatDoor
end
