/- ref25: the searches of the reference,as the same plain functions. -/
import Derived.Test.YtfgandecbkbleaaGreatDoorLdvl
import Derived.Test.YtfgandecbkbleaaGreatDoorInt4
import Derived.Test.YtfgandecbkbleaaGreatDoorExp
import Derived.Test.YtfgandecbkbleaaGreatDoorLdv1
import Derived.Test.YtfgandecbkbleaaGreatDoorRef6
set_option linter.unusedVariables false
set_option linter.unusedSimpArgs false
set_option maxRecDepth 100000
set_option maxHeartbeats 16000000
namespace Go.Proofs.YtfgandecbkbleaaGreatDoor
section
open Go.RowKit
def RAt {α:Type} (Q:World→α→List Value→Prop) (size:Nat) (w:World) (v:Value) (l:List α):Prop:=
 ∃ao c,v=.slice ao l.length c∧(l.length=0∨∃b o,ao=some ⟨b,o,none⟩∧b<w.heap.size∧∀j (h:j<l.length),∃cs,Q w l[j] cs∧∀i,i<size→w.cell? ⟨b,o+j*size+i,none⟩=cs[i]?)
theorem RAt.after {α:Type} {Q:World→α→List Value→Prop} {size:Nat} {w w':World} {v:Value} {l:List α} (h:RAt Q size w v l) (hb:Below w.heap.size w w') (hQ:∀a cs,Q w a cs→Q w' a cs):RAt Q size w' v l:=by
 obtain ⟨ao,c,rfl,h⟩:=h;refine ⟨ao,c,rfl,?_⟩;rcases h with h | ⟨b,o,h1,h2,h3⟩
 ·exact .inl h
 ·refine .inr ⟨b,o,h1,Nat.lt_of_lt_of_le h2 hb.size,fun j hj=>?_⟩;obtain ⟨cs,h4,h5⟩:=h3 j hj;exact ⟨cs,hQ _ _ h4,fun i hi=>(hb.cell (p:=⟨b,o+j*size+i,none⟩) h2).trans (h5 i hi)⟩
theorem RAt.form {α:Type} {Q:World→α→List Value→Prop} {size:Nat} {w:World} {v:Value} {l:List α} (h:RAt Q size w v l):∃ao c,v=.slice ao l.length c:=by
 obtain ⟨ao,c,h,_⟩:=h;exact ⟨ao,c,h⟩
theorem RAt.at_ {α:Type} {Q:World→α→List Value→Prop} {size n c:Nat} {w:World} {ao:Option Addr} {l:List α} (h:RAt Q size w (.slice ao n c) l) {k:Nat} (hk:k<l.length) :
  ∃b o cs,ao=some ⟨b,o,none⟩∧b<w.heap.size∧Q w l[k] cs∧∀i,i<size→w.cell? ⟨b,o+k*size+i,none⟩=cs[i]?:=by
 obtain ⟨ao',c',hv,h⟩:=h;injection hv with e1 e2 e3
 subst e1;rcases h with h | ⟨b,o,h1,h2,h3⟩
 ·omega
 ·obtain ⟨cs,h4,h5⟩:=h3 k hk;exact ⟨b,o,cs,h1,h2,h4,h5⟩
structure Trm where
 base:ByteArray
 var:Int
 neg:Bool
 abs:ByteArray
structure Eqn where
 grp:Int
 tgt:ByteArray
 trms:List Trm
structure Sta where
 grps:List (ByteArray × ByteArray)
 vars:List ByteArray
 eqs:List Eqn
def QStr (_:World) (s:ByteArray) (cs:List Value):Prop:=cs=[.string s]
def QGrp (_:World) (g:ByteArray × ByteArray) (cs:List Value):Prop:=cs=[.string g.1,.string g.2]
def QInt (_:World) (x:Bool × ByteArray) (cs:List Value):Prop:=cs=[.bool x.1,.string x.2]
def QTrm (_:World) (t:Trm) (cs:List Value):Prop:=cs=[.string t.base,.int .i64 t.var,.bool t.neg,.string t.abs]
def QEqn (w:World) (q:Eqn) (cs:List Value):Prop:=∃tv,cs=[.int .i64 q.grp,.string q.tgt,tv]∧RAt QTrm 4 w tv q.trms
def SsAt:=RAt QStr 1
def GsAt:=RAt QGrp 2
def IsAt:=RAt QInt 2
def TsAt:=RAt QTrm 4
def EsAt:=RAt QEqn 3
section
variable {w w':World} {v:Value}
theorem SsAt.after {l:List ByteArray} (h:SsAt w v l) (hb:Below w.heap.size w w'):SsAt w' v l:=RAt.after h hb (fun _ _ h=>h)
theorem GsAt.after {l:List (ByteArray × ByteArray)} (h:GsAt w v l) (hb:Below w.heap.size w w'):GsAt w' v l:=RAt.after h hb (fun _ _ h=>h)
theorem IsAt.after {l:List (Bool × ByteArray)} (h:IsAt w v l) (hb:Below w.heap.size w w'):IsAt w' v l:=RAt.after h hb (fun _ _ h=>h)
theorem TsAt.after {l:List Trm} (h:TsAt w v l) (hb:Below w.heap.size w w'):TsAt w' v l:=RAt.after h hb (fun _ _ h=>h)
theorem EsAt.after {l:List Eqn} (h:EsAt w v l) (hb:Below w.heap.size w w'):EsAt w' v l:=
 RAt.after h hb (fun _ _ ⟨tv,h1,h2⟩=>⟨tv,h1,RAt.after h2 hb (fun _ _ h=>h)⟩)
end
section
variable {w:World} {ao:Option Addr} {n c k:Nat}
theorem SsAt.at_ {l:List ByteArray} (h:SsAt w (.slice ao n c) l) (hk:k<l.length):∃b o,ao=some ⟨b,o,none⟩∧b<w.heap.size∧w.cell? ⟨b,o+k,none⟩=some (.string l[k]):=by
 obtain ⟨b,o,cs,h1,h2,h3,h4⟩:=RAt.at_ h hk;have:=h4 0 (by omega);rw [h3] at this;exact ⟨b,o,h1,h2,by simpa using this⟩
theorem GsAt.at_ {l:List (ByteArray × ByteArray)} (h:GsAt w (.slice ao n c) l) (hk:k<l.length):∃b o,ao=some ⟨b,o,none⟩∧b<w.heap.size∧w.cell? ⟨b,o+k*2,none⟩=some (.string l[k].1)∧w.cell? ⟨b,o+k*2+1,none⟩=some (.string l[k].2):=by
 obtain ⟨b,o,cs,h1,h2,h3,h4⟩:=RAt.at_ h hk;have e0:=h4 0 (by omega);have e1:=h4 1 (by omega);rw [h3] at e0 e1;exact ⟨b,o,h1,h2,by simpa using e0,by simpa using e1⟩
theorem IsAt.at_ {l:List (Bool × ByteArray)} (h:IsAt w (.slice ao n c) l) (hk:k<l.length):∃b o,ao=some ⟨b,o,none⟩∧b<w.heap.size∧w.cell? ⟨b,o+k*2,none⟩=some (.bool l[k].1)∧w.cell? ⟨b,o+k*2+1,none⟩=some (.string l[k].2):=by
 obtain ⟨b,o,cs,h1,h2,h3,h4⟩:=RAt.at_ h hk;have e0:=h4 0 (by omega);have e1:=h4 1 (by omega);rw [h3] at e0 e1;exact ⟨b,o,h1,h2,by simpa using e0,by simpa using e1⟩
theorem TsAt.at_ {l:List Trm} (h:TsAt w (.slice ao n c) l) (hk:k<l.length):∃b o,ao=some ⟨b,o,none⟩∧b<w.heap.size∧w.cell? ⟨b,o+k*4,none⟩=some (.string l[k].base)∧w.cell? ⟨b,o+k*4+1,none⟩=some (.int .i64 l[k].var)∧w.cell? ⟨b,o+k*4+2,none⟩=some (.bool l[k].neg)∧w.cell? ⟨b,o+k*4+3,none⟩=some (.string l[k].abs):=by
 obtain ⟨b,o,cs,h1,h2,h3,h4⟩:=RAt.at_ h hk;have e0:=h4 0 (by omega);have e1:=h4 1 (by omega);have e2:=h4 2 (by omega);have e3:=h4 3 (by omega);rw [h3] at e0 e1 e2 e3;exact ⟨b,o,h1,h2,by simpa using e0,by simpa using e1,by simpa using e2,by simpa using e3⟩
theorem EsAt.at_ {l:List Eqn} (h:EsAt w (.slice ao n c) l) (hk:k<l.length):∃b o tv,ao=some ⟨b,o,none⟩∧b<w.heap.size∧w.cell? ⟨b,o+k*3,none⟩=some (.int .i64 l[k].grp)∧w.cell? ⟨b,o+k*3+1,none⟩=some (.string l[k].tgt)∧w.cell? ⟨b,o+k*3+2,none⟩=some tv∧TsAt w tv l[k].trms:=by
 obtain ⟨b,o,cs,h1,h2,⟨tv,h3,h5⟩,h4⟩:=RAt.at_ h hk;have e0:=h4 0 (by omega);have e1:=h4 1 (by omega);have e2:=h4 2 (by omega);rw [h3] at e0 e1 e2;exact ⟨b,o,tv,h1,h2,by simpa using e0,by simpa using e1,by simpa using e2,h5⟩
end
structure StAt (w:World) (v1 v2 v3:Value) (S:Sta):Prop where
 g:GsAt w v1 S.grps
 v:SsAt w v2 S.vars
 e:EsAt w v3 S.eqs
theorem StAt.after {w w':World} {v1 v2 v3:Value} {S:Sta} (h:StAt w v1 v2 v3 S) (hb:Below w.heap.size w w'):StAt w' v1 v2 v3 S:=⟨h.g.after hb,h.v.after hb,h.e.after hb⟩
end
section
open Go.RowKit
theorem valB_c (s:ByteArray) (b:Bool) (w:World) (hs:s.size≤1000) (h:vldB s=b):Calls Tryz.prog 88 #[.string s] w fun e w'=>e=.returned (.bool b)∧w'=w:=by
 rw [←h];exact (valid_c s w (by omega)).mono fun _ _ h=>⟨h.1,h.2.symm⟩
theorem ivalB_c (n:Bool) (s:ByteArray) (b:Bool) (w:World) (hs:s.size≤1000) (h:ivB n s=b):Calls Tryz.prog 87 #[.agg #[.bool n,.string s]] w fun e w'=>e=.returned (.bool b)∧Below w.heap.size w w':=by
 rw [←h];exact ivalid_c n s w (by omega)
def gokB (g:ByteArray × ByteArray):Bool:=vldB g.1&&vldB g.2
def tokB (nv:Nat) (t:Trm):Bool:=decide (0≤t.var)&&decide (t.var<(nv:Int))&&vldB t.base&&ivB t.neg t.abs
def eokB (ng nv:Nat) (q:Eqn):Bool:=decide (0≤q.grp)&&decide (q.grp<(ng:Int))&&vldB q.tgt&&q.trms.all (tokB nv)
def formB (S:Sta):Bool:=S.grps.all gokB&&S.vars.all vldB&&S.eqs.all (eokB S.grps.length S.vars.length)
structure SSm (S:Sta):Prop where
 ng:S.grps.length≤1000
 nv:S.vars.length≤1000
 ne:S.eqs.length≤1000
 g:∀x∈S.grps,x.1.size≤1000∧x.2.size≤1000
 v:∀x∈S.vars,x.size≤1000
 e:∀x∈S.eqs,x.tgt.size≤1000∧x.trms.length≤1000∧∀t∈x.trms,t.base.size≤1000∧t.abs.size≤1000
theorem all_take {α:Type} (p:α→Bool) (l:List α) (k:Nat) (h:k<l.length):(l.take (k+1)).all p=((l.take k).all p&&p l[k]):=by
 rw [List.take_succ_eq_append_getElem h,List.all_append];simp
theorem all_bad {α:Type} (p:α→Bool) (l:List α) (k:Nat) (h:k<l.length) (hb:p l[k]=false):l.all p=false:=by
 rw [List.all_eq_false];exact ⟨l[k],List.getElem_mem h,by simp [hb]⟩
theorem all_end {α:Type} (p:α→Bool) (l:List α) (k:Nat) (h:k=l.length) (hb:(l.take k).all p=true):l.all p=true:=by
 rw [h,List.take_length] at hb;exact hb
end
section
open Go.RowKit
structure NTrm where
 base:Nat
 var:Nat
 coef:Int
structure NEqn where
 grp:Nat
 tgt:Nat
 trms:List NTrm
structure NSta where
 grps:List (Nat × Nat)
 vars:List Nat
 eqs:List NEqn
def NTrm.t (x:NTrm):Trm:=⟨E x.base,(x.var:Int),sg x.coef,E x.coef.natAbs⟩
def NEqn.q (x:NEqn):Eqn:=⟨(x.grp:Int),E x.tgt,x.trms.map NTrm.t⟩
def gE (g:Nat × Nat):ByteArray × ByteArray:=(E g.1,E g.2)
def NSta.s (x:NSta):Sta:=⟨x.grps.map gE,x.vars.map E,x.eqs.map NEqn.q⟩
def gszB (g:ByteArray × ByteArray):Bool:=decide (g.1.size≤8)&&decide (g.2.size≤8)
def tszB (t:Trm):Bool:=decide (t.base.size≤16)&&decide (t.abs.size≤16)
def eszB (q:Eqn):Bool:=decide (q.trms.length≤12)&&decide (q.tgt.size≤16)&&q.trms.all tszB
def vszB (s:ByteArray):Bool:=decide (s.size≤32)
def fewB (S:Sta):Bool:=decide (S.grps.length≤10)&&decide (S.vars.length≤12)&&decide (S.eqs.length≤12)&&S.grps.all gszB&&S.vars.all vszB&&S.eqs.all eszB
structure NOk (N:NSta):Prop where
 ng:N.grps.length≤10
 nv:N.vars.length≤12
 ne:N.eqs.length≤12
 g:∀x∈N.grps,x.1<256^8∧x.2<256^8
 v:∀x∈N.vars,x<256^32
 e:∀q∈N.eqs,q.grp<N.grps.length∧q.tgt<256^16∧q.trms.length≤12∧∀t∈q.trms,t.base<256^16∧t.var<N.vars.length∧t.coef.natAbs<256^16
theorem list_lift {α β:Type} (f:β→α) (P:β→Prop):∀(l:List α),(∀x∈l,∃y,f y=x∧P y)→∃l':List β,l'.map f=l∧∀y∈l',P y
 | [],_=>⟨[],rfl,fun y h=>by cases h⟩
 | x :: t,h=>by
  obtain ⟨y,h1,h2⟩:=h x (List.mem_cons_self ..);obtain ⟨l,h3,h4⟩:=list_lift f P t (fun z hz=>h z (List.mem_cons_of_mem _ hz));refine ⟨y :: l,by rw [List.map_cons,h1,h3],fun z hz=>?_⟩;rcases List.mem_cons.1 hz with h | h
  ·rw [h];exact h2
  ·exact h4 z h
theorem lt_of_size {n k:Nat} (h:(E n).size≤k):n<256^k:=(E_size_le n k).1 h
theorem trm_num (nv:Nat) (t:Trm) (h1:tokB nv t=true) (h2:tszB t=true):∃y:NTrm,y.t=t∧(y.base<256^16∧y.var<nv∧y.coef.natAbs<256^16):=by
 obtain ⟨tb,tv,tn,ta⟩:=t;simp only [tokB,tszB,Bool.and_eq_true,decide_eq_true_eq] at h1 h2;obtain ⟨⟨⟨h0,hlt⟩,hb⟩,hi⟩:=h1;obtain ⟨b,_,rfl⟩:=of_vldB hb;obtain ⟨z,_,rfl,rfl⟩:=of_ivB hi;obtain ⟨v,rfl⟩:=Int.eq_ofNat_of_zero_le h0;exact ⟨⟨b,v,z⟩,rfl,lt_of_size h2.1,Int.ofNat_lt.1 hlt,lt_of_size h2.2⟩
theorem eqn_num (ng nv:Nat) (q:Eqn) (h1:eokB ng nv q=true) (h2:eszB q=true):∃y:NEqn,y.q=q∧(y.grp<ng∧y.tgt<256^16∧y.trms.length≤12∧∀t∈y.trms,t.base<256^16∧t.var<nv∧t.coef.natAbs<256^16):=by
 obtain ⟨qg,qt,qs⟩:=q;simp only [eokB,eszB,Bool.and_eq_true,decide_eq_true_eq,List.all_eq_true] at h1 h2;obtain ⟨⟨⟨h0,hlt⟩,hb⟩,hi⟩:=h1;obtain ⟨b,_,rfl⟩:=of_vldB hb;obtain ⟨g,rfl⟩:=Int.eq_ofNat_of_zero_le h0;obtain ⟨l,hl,hp⟩:=list_lift NTrm.t (fun y=>y.base<256^16∧y.var<nv∧y.coef.natAbs<256^16) qs (fun t ht=>trm_num nv t (hi t ht) (h2.2 t ht));refine ⟨⟨g,b,l⟩,by rw [NEqn.q,hl],Int.ofNat_lt.1 hlt,lt_of_size h2.1.2,?_,hp⟩;have:(l.map NTrm.t).length≤12:=by rw [hl];exact Nat.le_trans h2.1.1 (by decide)
 simpa using this
theorem to_num (S:Sta) (h1:formB S=true) (h2:fewB S=true):∃N:NSta,N.s=S∧NOk N:=by
 obtain ⟨gs,vs,es⟩:=S;simp only [formB,fewB,Bool.and_eq_true,decide_eq_true_eq,List.all_eq_true] at h1 h2;obtain ⟨⟨⟨⟨⟨l1,l2⟩,l3⟩,hg⟩,hv⟩,he⟩:=h2;obtain ⟨⟨kg,kv⟩,ke⟩:=h1
 obtain ⟨G,hG,pG⟩:=list_lift gE (fun x=>x.1<256^8∧x.2<256^8) gs (fun x hx=>by
  have h3:=kg x hx;have h4:=hg x hx;simp only [gokB,gszB,Bool.and_eq_true,decide_eq_true_eq] at h3 h4;obtain ⟨a,b⟩:=x;obtain ⟨m,_,rfl⟩:=of_vldB h3.1;obtain ⟨n,_,rfl⟩:=of_vldB h3.2;exact ⟨(m,n),rfl,lt_of_size h4.1,lt_of_size h4.2⟩)
 obtain ⟨V,hV,pV⟩:=list_lift E (fun x=>x<256^32) vs (fun x hx=>by
  have h3:=kv x hx;have h4:=hv x hx;obtain ⟨m,_,rfl⟩:=of_vldB h3;simp only [vszB,decide_eq_true_eq] at h4;exact ⟨m,rfl,lt_of_size h4⟩)
 obtain ⟨Q,hQ,pQ⟩:=list_lift NEqn.q (fun y=>y.grp<gs.length∧y.tgt<256^16∧y.trms.length≤12∧∀t∈y.trms,t.base<256^16∧t.var<vs.length∧t.coef.natAbs<256^16) es (fun x hx=>eqn_num _ _ x (ke x hx) (he x hx));have e1:gs.length=G.length:=by rw [←hG];simp
 have e2:vs.length=V.length:=by rw [←hV];simp
 have e3:es.length=Q.length:=by rw [←hQ];simp
 rw [e1,e2] at pQ;rw [e1] at l1;rw [e2] at l2;rw [e3] at l3;exact ⟨⟨G,V,Q⟩,by rw [NSta.s,hG,hV,hQ],⟨Nat.le_trans l1 (by decide),Nat.le_trans l2 (by decide),Nat.le_trans l3 (by decide),pG,pV,pQ⟩⟩
theorem NOk.ssm {N:NSta} (h:NOk N):SSm N.s where
 ng:=by have:=h.ng;simp [NSta.s];omega
 nv:=by have:=h.nv;simp [NSta.s];omega
 ne:=by have:=h.ne;simp [NSta.s];omega
 g:=by
  intro x hx;obtain ⟨y,hy,rfl⟩:=List.mem_map.1 hx;have h1:=(E_size_le _ _).2 (h.g y hy).1;have h2:=(E_size_le _ _).2 (h.g y hy).2;exact ⟨by simp only [gE];omega,by simp only [gE];omega⟩
 v:=by
  intro x hx;obtain ⟨y,hy,rfl⟩:=List.mem_map.1 hx;have h1:=(E_size_le _ _).2 (h.v y hy);omega
 e:=by
  intro x hx;obtain ⟨y,hy,rfl⟩:=List.mem_map.1 hx;obtain ⟨_,h1,h2,h3⟩:=h.e y hy;have h1:=(E_size_le _ _).2 h1;refine ⟨by simp only [NEqn.q];omega,by simp only [NEqn.q,List.length_map];omega,fun t ht=>?_⟩;obtain ⟨z,hz,rfl⟩:=List.mem_map.1 ht;obtain ⟨h4,_,h5⟩:=h3 z hz;have h4:=(E_size_le _ _).2 h4;have h5:=(E_size_le _ _).2 h5;exact ⟨by simp only [NTrm.t];omega,by simp only [NTrm.t];omega⟩
theorem NOk.form {N:NSta} (h:NOk N):formB N.s=true:=by
 simp only [formB,Bool.and_eq_true,List.all_eq_true];refine ⟨⟨fun x hx=>?_,fun x hx=>?_⟩,fun x hx=>?_⟩
 ·obtain ⟨y,hy,rfl⟩:=List.mem_map.1 hx;simp only [gokB,gE,Bool.and_eq_true];exact ⟨vldB_E _ (Nat.lt_of_lt_of_le (h.g y hy).1 (by decide)),vldB_E _ (Nat.lt_of_lt_of_le (h.g y hy).2 (by decide))⟩
 ·obtain ⟨y,hy,rfl⟩:=List.mem_map.1 hx;exact vldB_E _ (Nat.lt_of_lt_of_le (h.v y hy) (by decide))
 ·obtain ⟨y,hy,rfl⟩:=List.mem_map.1 hx;obtain ⟨h1,h2,h3,h4⟩:=h.e y hy;simp only [eokB,NEqn.q,Bool.and_eq_true,decide_eq_true_eq,List.all_eq_true,NSta.s,List.length_map];refine ⟨⟨⟨decide_eq_true (Int.natCast_nonneg _),Int.ofNat_lt.2 h1⟩,vldB_E _ (Nat.lt_of_lt_of_le h2 (by decide))⟩,fun t ht=>?_⟩;obtain ⟨z,hz,rfl⟩:=List.mem_map.1 ht;obtain ⟨h5,h6,h7⟩:=h4 z hz;simp only [tokB,NTrm.t,Bool.and_eq_true,decide_eq_true_eq];exact ⟨⟨⟨decide_eq_true (Int.natCast_nonneg _),decide_eq_true (Int.ofNat_lt.2 h6)⟩,vldB_E _ (Nat.lt_of_lt_of_le h5 (by decide))⟩,ivB_I _ (Nat.lt_of_lt_of_le h7 (by decide))⟩
def NSta.gp (N:NSta) (q:NEqn):Nat × Nat:=N.grps.getD q.grp (0,0)
def NSta.ord (N:NSta):Nat:=((N.grps.map (·.2)).find? (· != 0)).getD 0
def hasQ (g:Nat × Nat) (t:NTrm):Bool:=hasB g.1 g.2 t.base
def elemQ (N:NSta) (q:NEqn):Bool:=hasB (N.gp q).1 (N.gp q).2 q.tgt&&q.trms.all (hasQ (N.gp q))
def gr0 (g:Nat × Nat):Bool:=grpE g.1 g.2==0
def NSta.elem (N:NSta):Bool:=N.grps.all gr0&&N.eqs.all (elemQ N)
def vz (n:Nat):Bool:=n==0
def NSta.tz (N:NSta) (t:NTrm):Bool:=vz (N.vars.getD t.var 0)
def gq (n:Nat) (g:Nat × Nat):Bool:=g.2 != 0&&g.2 != n
def kindQ (N:NSta) (q:NEqn):Bool:=!(vz (N.gp q).2) || !(q.trms.any N.tz)
def NSta.typ (N:NSta):Bool:=!(N.vars.any vz) || (!(vz N.ord)&&!(N.grps.any (gq N.ord))&&N.eqs.all (kindQ N))
def NSta.chk (N:NSta):Nat:=if 8<N.grps.length then 6 else if N.elem=false then 13 else if N.typ=false then 10 else 0
def NAt (w:World) (v1 v2 v3:Value) (N:NSta):Prop:=StAt w v1 v2 v3 N.s
def TNAt (w:World) (v:Value) (l:List NTrm):Prop:=TsAt w v (l.map NTrm.t)
theorem NAt.after {w w':World} {v1 v2 v3:Value} {N:NSta} (h:NAt w v1 v2 v3 N) (hb:Below w.heap.size w w'):NAt w' v1 v2 v3 N:=StAt.after h hb
theorem TNAt.after {w w':World} {v:Value} {l:List NTrm} (h:TNAt w v l) (hb:Below w.heap.size w w'):TNAt w' v l:=TsAt.after h hb
theorem NAt.forms {w:World} {v1 v2 v3:Value} {N:NSta} (h:NAt w v1 v2 v3 N):∃a1 c1 a2 c2 a3 c3,v1=.slice a1 N.grps.length c1∧v2=.slice a2 N.vars.length c2∧v3=.slice a3 N.eqs.length c3:=by
 obtain ⟨a1,c1,h1⟩:=RAt.form h.g;obtain ⟨a2,c2,h2⟩:=RAt.form h.v;obtain ⟨a3,c3,h3⟩:=RAt.form h.e;exact ⟨a1,c1,a2,c2,a3,c3,by rw [h1];simp [NSta.s],by rw [h2];simp [NSta.s],by rw [h3];simp [NSta.s]⟩
theorem TNAt.form {w:World} {v:Value} {l:List NTrm} (h:TNAt w v l):∃a c,v=.slice a l.length c:=by
 obtain ⟨a1,c1,h1⟩:=RAt.form h;exact ⟨a1,c1,by rw [h1];simp⟩
section
variable {w:World} {ao:Option Addr} {n c k:Nat} {v1 v2 v3:Value} {N:NSta}
theorem NAt.gat (h:NAt w (.slice ao n c) v2 v3 N) (hk:k<N.grps.length):∃b o,ao=some ⟨b,o,none⟩∧b<w.heap.size∧w.cell? ⟨b,o+k*2,none⟩=some (.string (E N.grps[k].1))∧w.cell? ⟨b,o+k*2+1,none⟩=some (.string (E N.grps[k].2)):=by
 have hk':k<N.s.grps.length:=by simpa [NSta.s] using hk
 obtain ⟨b,o,h1,h2,h3,h4⟩:=GsAt.at_ h.g hk';simp only [NSta.s,List.getElem_map,gE] at h3 h4;exact ⟨b,o,h1,h2,h3,h4⟩
theorem NAt.vat (h:NAt w v1 (.slice ao n c) v3 N) (hk:k<N.vars.length):∃b o,ao=some ⟨b,o,none⟩∧b<w.heap.size∧w.cell? ⟨b,o+k,none⟩=some (.string (E N.vars[k])):=by
 have hk':k<N.s.vars.length:=by simpa [NSta.s] using hk
 obtain ⟨b,o,h1,h2,h3⟩:=SsAt.at_ h.v hk';simp only [NSta.s,List.getElem_map] at h3;exact ⟨b,o,h1,h2,h3⟩
theorem NAt.eat (h:NAt w v1 v2 (.slice ao n c) N) (hk:k<N.eqs.length):∃b o tv,ao=some ⟨b,o,none⟩∧b<w.heap.size∧w.cell? ⟨b,o+k*3,none⟩=some (.int .i64 (N.eqs[k].grp:Int))∧w.cell? ⟨b,o+k*3+1,none⟩=some (.string (E N.eqs[k].tgt))∧w.cell? ⟨b,o+k*3+2,none⟩=some tv∧TNAt w tv N.eqs[k].trms:=by
 have hk':k<N.s.eqs.length:=by simpa [NSta.s] using hk
 obtain ⟨b,o,tv,h1,h2,h3,h4,h5,h6⟩:=EsAt.at_ h.e hk';simp only [NSta.s,List.getElem_map,NEqn.q] at h3 h4 h6;exact ⟨b,o,tv,h1,h2,h3,h4,h5,h6⟩
theorem TNAt.at_ {l:List NTrm} (h:TNAt w (.slice ao n c) l) (hk:k<l.length):∃b o,ao=some ⟨b,o,none⟩∧b<w.heap.size∧w.cell? ⟨b,o+k*4,none⟩=some (.string (E l[k].base))∧w.cell? ⟨b,o+k*4+1,none⟩=some (.int .i64 (l[k].var:Int))∧w.cell? ⟨b,o+k*4+2,none⟩=some (.bool (sg l[k].coef))∧w.cell? ⟨b,o+k*4+3,none⟩=some (.string (E l[k].coef.natAbs)):=by
 have hk':k<(l.map NTrm.t).length:=by simpa using hk
 obtain ⟨b,o,h1,h2,h3,h4,h5,h6⟩:=TsAt.at_ h hk';simp only [List.getElem_map,NTrm.t] at h3 h4 h5 h6;exact ⟨b,o,h1,h2,h3,h4,h5,h6⟩
end
end
section
open Go.RowKit Go.Shelf
theorem wi64 {x:Int} (h1:-9223372036854775808≤x) (h2:x≤9223372036854775807):IntKind.i64.wrap x=x:=by
 simp [IntKind.wrap,IntKind.signed,IntKind.bits];omega
theorem r25root_c (n:Nat) (w:World) (hn:n<4294967296) :
  Calls Tryz.prog 105 #[.int .i64 (n:Int)] w fun e w'=>e=.returned (.int .i64 (rt n:Nat))∧w=w':=by
 have HN:=Lib.hid hn;clear hn;go_enter Tryz.func105,Tryz.ntmps105
 go_wp2;go_loop [3,4] (fun x y=>∃(l h:Nat),x=.int .i64 l∧y=.int .i64 h∧l<h∧h≤65536∧Hid (l*l≤n∧n<h*h)) (fun x y=>(intOf y-intOf x).toNat)
 case atStart=>exact ⟨0,65536,rfl,rfl,by omega,by omega,⟨by omega,by have:=HN.out;omega⟩⟩
 case round =>
  obtain ⟨l,h,rfl,rfl,hlh,hh,HR⟩:=hrel;have c0:IntKind.i64.wrap ((h:Int)-(l:Int))=(h:Int)-(l:Int):=wi64 (by omega) (by omega);by_cases h1:h=l+1
  ·have HE:Hid (l=rt n):=rt_uniq HR.out.1 (by rw [←h1];exact HR.out.2);have hb1:¬ (1:Int)<(h:Int)-(l:Int):=by omega
   clear h1 HR hlh hh;go_wp2;go_ret
   exact ⟨by rw [←HE.out];rfl,rfl⟩
  ·have hb1:(1:Int)<(h:Int)-(l:Int):=by omega
   obtain ⟨m,hm⟩:∃m,m=(l+h) / 2:=⟨_,rfl⟩;obtain ⟨z,hz⟩:∃z,z=m*m:=⟨_,rfl⟩;have hz2:z≤65536*65536:=by rw [hz];exact Nat.mul_le_mul (by omega) (by omega)
   have c1:IntKind.i64.wrap ((l:Int)+(h:Int))=(l:Int)+(h:Int):=wi64 (by omega) (by omega);have c2:IntKind.i64.wrap (((l:Int)+(h:Int)).tdiv 2)=(m:Int):=by rw [Int.tdiv_eq_ediv_of_nonneg (by omega),wi64 (by omega) (by omega)];omega
   have c3:IntKind.i64.wrap ((m:Int)*(m:Int))=(z:Int):=by rw [show (m:Int)*(m:Int)=(z:Int) by rw [hz];exact (Int.natCast_mul m m).symm,wi64 (by omega) (by omega)]
   have hm1:l<m∧m<h:=by omega
   have HZZ:=Lib.hid hz;clear hz hm h1;by_cases h2:z≤n
   ·have HX:Hid (m*m≤n∧n<h*h):=⟨by rw [←HZZ.out];exact h2,HR.out.2⟩;go_wp2;go_round
    case rel=>exact ⟨m,h,rfl,rfl,by omega,by omega,HX⟩
    case measure=>simp [intOf];omega
   ·have HX:Hid (l*l≤n∧n<m*m):=⟨HR.out.1,by rw [←HZZ.out];omega⟩;go_wp2;go_round
    case rel=>exact ⟨l,m,rfl,rfl,by omega,by omega,HX⟩
    case measure=>simp [intOf];omega
theorem r25seven_c (n:Nat) (w:World) (hn:n<4294967296) :
  Calls Tryz.prog 106 #[.int .i64 (n:Int)] w fun e w'=>e=.returned (.bool (sevF 16 n))∧w=w':=by
 obtain ⟨b,hb⟩:∃b,b=sevF 16 n:=⟨_,rfl⟩;have HB:=Lib.hid hb;rw [←hb];clear hb;have HN:Hid (n<4^16):=hn;go_enter Tryz.func106,Tryz.ntmps106
 go_wp2;go_loop [0] (fun x=>∃(k m:Nat),x=.int .i64 m∧m<4294967296∧Hid (m<4^k)∧Hid (b=sevF k m)) (fun x=>(intOf x).toNat)
 case atStart=>exact ⟨16,n,rfl,hn,HN,HB⟩
 case round =>
  obtain ⟨k,m,rfl,hm,HK,HS⟩:=hrel;clear HB HN;have c1:IntKind.i64.wrap ((m:Int).tmod 4)=((m%4:Nat):Int):=by rw [Int.tmod_eq_emod_of_nonneg (by omega),wi64 (by omega) (by omega)];rfl
  have c2:IntKind.i64.wrap ((m:Int).tdiv 4)=((m / 4:Nat):Int):=by rw [Int.tdiv_eq_ediv_of_nonneg (by omega),wi64 (by omega) (by omega)];rfl
  have c3:IntKind.i64.wrap ((m:Int).tmod 8)=((m%8:Nat):Int):=by rw [Int.tmod_eq_emod_of_nonneg (by omega),wi64 (by omega) (by omega)];rfl
  by_cases h1:0<m∧m%4=0
  ·obtain ⟨h0,h4⟩:=h1
   have HX:Hid (∃j,m / 4<4^j∧b=sevF j (m / 4)):=by
    have hk:=HK.out;cases k with
    | zero=>omega
    | succ j=>exact ⟨j,by rw [Nat.pow_succ] at hk;omega,by rw [HS.out,sevF,if_pos ⟨h0,h4⟩]⟩
   obtain ⟨j,hj1,hj2⟩:=HX.out;have HJ1:=Lib.hid hj1;have HJ2:=Lib.hid hj2;clear hj1 hj2 HX HK HS c3;have h5:(0:Int)<(m:Int):=by omega
   have h6:(((m%4:Nat):Int)==0)=true:=by rw [h4];rfl
   go_wp2;go_round
   case rel=>exact ⟨j,m / 4,rfl,by omega,HJ1,HJ2⟩
   case measure=>simp [intOf];omega
  ·have HX:Hid (b=(m%8==7)):=HS.out.trans (sev_stop h1);clear HS HK;by_cases h0:0<m
   ·have h4:¬ m%4=0:=fun h=>h1 ⟨h0,h⟩
    clear h1;go_wp2;go_ret
    exact ⟨congrArg (fun b=>Ending.returned (Value.bool b)) ((sev_eq m).trans HX.out.symm),rfl⟩
   ·clear h1;go_wp2;go_ret
    exact ⟨congrArg (fun b=>Ending.returned (Value.bool b)) ((sev_eq m).trans HX.out.symm),rfl⟩
def twoZ (n:Nat) (x:Int):Option (Nat × Nat):=if x<0 then none else twoF n x.toNat
theorem twoZ_nat (n x:Nat):twoZ n (x:Int)=twoF n x:=by rw [twoZ,if_neg (by omega)];rfl
theorem twoZ_pred (n x:Nat):twoZ n ((x:Int)-1)=if x=0 then none else twoF n (x-1):=by
 rw [twoZ];by_cases h:x=0
 ·rw [if_pos h,if_pos (by omega)]
 ·rw [if_neg h,if_neg (by omega)];congr 1;omega
theorem r25two_c (n most:Nat) (w:World) (hn:n<4294967296) (hm:most<4294967296) :
  Calls Tryz.prog 144 #[.int .i64 (n:Int),.int .i64 (most:Int)] w fun e w'=>e=.returned (.tuple #[.int .i64 (tw1 (twoF n (min (rt n) most)):Nat),.int .i64 (tw2 (twoF n (min (rt n) most)):Nat),.bool (twoF n (min (rt n) most)).isSome])∧w=w':=by
 have h2:=rt_lt (k:=65536) (show n<65536*65536 by omega);have h3:=(rt_spec n).1;obtain ⟨x0,hx0⟩:∃x,x=min (rt n) most:=⟨_,rfl⟩;have hx1:x0≤rt n:=by omega
 have hxx:x0*x0≤n:=Nat.le_trans (Nat.mul_le_mul hx1 hx1) h3;have hx2:x0<65536:=by omega
 obtain ⟨R,hR⟩:∃R,R=twoF n x0:=⟨_,rfl⟩;rw [←hx0,←hR];have HR:Hid (R=twoZ n (x0:Int)):=hR.trans (twoZ_nat n x0).symm;have HXX:=Lib.hid hxx;obtain ⟨r,hr⟩:∃r,r=rt n:=⟨_,rfl⟩;rw [←hr] at hx0;have hrb:min (r:Int) (most:Int)=(x0:Int):=by omega
 have HRT:Hid (∀w,Calls Tryz.prog 105 #[.int .i64 (n:Int)] w fun e w'=>e=.returned (.int .i64 (r:Nat))∧w=w'):=fun w=>by rw [hr];exact r25root_c n w hn
 clear h2 h3 hx1 hxx hR hx0 hr;go_enter Tryz.func144,Tryz.ntmps144
 go_wp2_with fail
 refine (HRT.out _).mono ?_;rintro e w' ⟨rfl,rfl⟩;go_wp2;go_loop [7] (fun v=>∃x:Int,v=.int .i64 x∧-1≤x∧x<65536∧Hid (0≤x→x.toNat*x.toNat≤n)∧Hid (R=twoZ n x)) (fun v=>(intOf v+1).toNat)
 case atStart=>exact ⟨x0,rfl,by omega,by omega,fun _=>HXX.out,HR⟩
 case round =>
  clear HR HXX hrb hx2;obtain ⟨x,rfl,hx1,hx,HXX,HR⟩:=hrel;by_cases h0:x<0
  ·have HX:Hid (R=none):=HR.out.trans (by rw [twoZ,if_pos h0]);have h0':¬ (0:Int)≤x:=by omega
   clear HR HXX;go_wp2;refine bodyPost_ret (v:=.tuple #[.int .i64 0,.int .i64 0,.bool false]) ?_ rfl ?_
   ·simp [results,Tryz.results144,go_sem]
   ·rw [HX.out];exact ⟨rfl,rfl⟩
  ·have h0':(0:Int)≤x:=by omega
   obtain ⟨y,rfl⟩:∃y:Nat,x=(y:Int):=⟨x.toNat,by omega⟩;replace HXX:Hid (y*y≤n):=HXX.out h0';have hy:y<65536:=by omega
   clear h0 hx1 hx;have HS:=Lib.hid ((HR.out.trans (twoZ_nat n y)).trans (two_step n y));clear HR;obtain ⟨q,hq⟩:∃q,q=y*y:=⟨_,rfl⟩;have hq2:q≤65536*65536:=by rw [hq];exact Nat.mul_le_mul (by omega) (by omega)
   have hqn:q≤n:=by rw [hq];exact HXX.out
   have hz:2*y*y=2*q:=by rw [hq,Nat.mul_assoc]
   rw [hz,←hq] at HS;have c1:IntKind.i64.wrap (2*(y:Int))=2*(y:Int):=wi64 (by omega) (by omega)
   have c2:IntKind.i64.wrap (2*(y:Int)*(y:Int))=((2*q:Nat):Int):=by
    rw [show 2*(y:Int)*(y:Int)=((2*q:Nat):Int) by rw [←hz];simp only [Int.natCast_mul];rfl,wi64 (by omega) (by omega)]
   have c3:IntKind.i64.wrap ((y:Int)*(y:Int))=(q:Int):=by rw [show (y:Int)*(y:Int)=(q:Int) by rw [hq];exact (Int.natCast_mul y y).symm,wi64 (by omega) (by omega)]
   obtain ⟨d,hd⟩:∃d,d=n-q:=⟨_,rfl⟩;have c4:IntKind.i64.wrap ((n:Int)-(q:Int))=(d:Int):=by rw [wi64 (by omega) (by omega)];omega
   rw [←hd] at HS;have hd2:d<4294967296:=by omega
   by_cases h1:2*q<n
   ·have HX:Hid (R=none):=HS.out.trans (if_pos h1);have h1':¬ n≤2*q:=by omega
    have h1i:¬ (n:Int)≤((2*q:Nat):Int):=by omega
    clear HS hq hz hd hd2 c4 h1 hq2 hqn;go_wp2;refine bodyPost_ret (v:=.tuple #[.int .i64 0,.int .i64 0,.bool false]) ?_ rfl ?_
    ·simp [results,Tryz.results144,go_sem]
    ·rw [HX.out];exact ⟨rfl,rfl⟩
   ·have h1':n≤2*q:=by omega
    have h1i:(n:Int)≤((2*q:Nat):Int):=by omega
    replace HS:=Lib.hid (HS.out.trans (if_neg h1));obtain ⟨r2,hr2⟩:∃r,r=rt d:=⟨_,rfl⟩;have hr3:r2<65536:=by rw [hr2];exact rt_lt (by omega)
    have HON:Hid (∀w,Calls Tryz.prog 105 #[.int .i64 (d:Int)] w fun e w'=>e=.returned (.int .i64 (r2:Nat))∧w=w'):=fun w=>by rw [hr2];exact r25root_c d w hd2
    have HOB:Hid (oneB d y=(decide (r2*r2=d)&&decide (r2≤y))):=by rw [Hid,hr2];rfl
    rw [←hr2] at HS;obtain ⟨z,hz2⟩:∃z,z=r2*r2:=⟨_,rfl⟩;have hz3:z≤65536*65536:=by rw [hz2];exact Nat.mul_le_mul (by omega) (by omega)
    have c6:IntKind.i64.wrap ((r2:Int)*(r2:Int))=(z:Int):=by rw [show (r2:Int)*(r2:Int)=(z:Int) by rw [hz2];exact (Int.natCast_mul r2 r2).symm,wi64 (by omega) (by omega)]
    rw [←hz2] at HOB;clear h1 hd hr2 hd2 hq hz hz2 hq2 hqn hz3 hr3;go_wp2_with fail
    refine (HON.out _).mono ?_;rintro e w' ⟨rfl,rfl⟩;by_cases h3:z=d
    ·have e1:((z:Int)==(d:Int))=true:=by rw [h3];simp
     by_cases h4:r2≤y
     ·have HX:Hid (R=some (y,r2)):=HS.out.trans (if_pos (HOB.out.trans (by rw [decide_eq_true h3,decide_eq_true h4];rfl)));clear HS HOB HXX h3;go_wp2;refine bodyPost_ret (v:=.tuple #[.int .i64 (y:Int),.int .i64 (r2:Int),.bool true]) ?_ rfl ?_
      ·simp [results,Tryz.results144,go_sem]
      ·rw [HX.out];exact ⟨rfl,rfl⟩
     ·have HX:Hid (R=twoZ n ((y:Int)-1)):=(HS.out.trans (if_neg (by rw [HOB.out,decide_eq_true h3,decide_eq_false h4];decide))).trans (twoZ_pred n y).symm;have c5:IntKind.i64.wrap ((y:Int)-1)=(y:Int)-1:=wi64 (by omega) (by omega);have HQ2:Hid (0≤(y:Int)-1→((y:Int)-1).toNat*((y:Int)-1).toNat≤n):=fun _=>Nat.le_trans (Nat.mul_le_mul (by omega) (by omega)) HXX.out
      clear HS HOB HXX h3;go_wp2;go_round
      case rel=>exact ⟨(y:Int)-1,rfl,by omega,by omega,HQ2,HX⟩
      case measure=>simp [intOf]
    ·have e1:((z:Int)==(d:Int))=false:=by rw [beq_eq_false_iff_ne];omega
     have HX:Hid (R=twoZ n ((y:Int)-1)):=(HS.out.trans (if_neg (by rw [HOB.out,decide_eq_false h3];simp))).trans (twoZ_pred n y).symm;have c5:IntKind.i64.wrap ((y:Int)-1)=(y:Int)-1:=wi64 (by omega) (by omega);have HQ2:Hid (0≤(y:Int)-1→((y:Int)-1).toNat*((y:Int)-1).toNat≤n):=fun _=>Nat.le_trans (Nat.mul_le_mul (by omega) (by omega)) HXX.out
     clear HS HOB HXX h3;go_wp2;go_round
     case rel=>exact ⟨(y:Int)-1,rfl,by omega,by omega,HQ2,HX⟩
     case measure=>simp [intOf]
def threeZ (n:Nat) (x:Int):Option (Nat × Nat × Nat):=if x<0 then none else threeF n x.toNat
theorem threeZ_nat (n x:Nat):threeZ n (x:Int)=threeF n x:=by rw [threeZ,if_neg (by omega)];rfl
theorem threeZ_pred (n x:Nat):threeZ n ((x:Int)-1)=if x=0 then none else threeF n (x-1):=by
 rw [threeZ];by_cases h:x=0
 ·rw [if_pos h,if_pos (by omega)]
 ·rw [if_neg h,if_neg (by omega)];congr 1;omega
theorem r25three_c (n most:Nat) (w:World) (hn:n<4294967296) (hm:most<4294967296) :
  Calls Tryz.prog 107 #[.int .i64 (n:Int),.int .i64 (most:Int)] w fun e w'=>∃g,e=.returned (.tuple #[.slice (some ⟨g,0,none⟩) 3 3,.bool (threeF n (min (rt n) most)).isSome])∧Blk w' g 3 [.int .i64 (th1 (threeF n (min (rt n) most)):Nat),.int .i64 (th2 (threeF n (min (rt n) most)):Nat),.int .i64 (th3 (threeF n (min (rt n) most)):Nat)]∧Below w.heap.size w w':=by
 have h2:=rt_lt (k:=65536) (show n<65536*65536 by omega);have h3:=(rt_spec n).1;obtain ⟨x0,hx0⟩:∃x,x=min (rt n) most:=⟨_,rfl⟩;have hx1:x0≤rt n:=by omega
 have hxx:x0*x0≤n:=Nat.le_trans (Nat.mul_le_mul hx1 hx1) h3;have hx2:x0<65536:=by omega
 obtain ⟨R,hR⟩:∃R,R=threeF n x0:=⟨_,rfl⟩;rw [←hx0,←hR];have HR:Hid (R=threeZ n (x0:Int)):=hR.trans (threeZ_nat n x0).symm;have HXX:=Lib.hid hxx;obtain ⟨r,hr⟩:∃r,r=rt n:=⟨_,rfl⟩;rw [←hr] at hx0;have hrb:min (r:Int) (most:Int)=(x0:Int):=by omega
 have HRT:Hid (∀w,Calls Tryz.prog 105 #[.int .i64 (n:Int)] w fun e w'=>e=.returned (.int .i64 (r:Nat))∧w=w'):=fun w=>by rw [hr];exact r25root_c n w hn
 clear h2 h3 hx1 hxx hR hx0 hr;go_enter Tryz.func107,Tryz.ntmps107
 go_wp2_with fail
 refine (HRT.out _).mono ?_;rintro e w' ⟨rfl,rfl⟩;go_wp2;go_loop [6] (fun v=>∃x:Int,v=.int .i64 x∧-1≤x∧x<65536∧Hid (0≤x→x.toNat*x.toNat≤n)∧Hid (R=threeZ n x)) (fun v=>(intOf v+1).toNat)
 case atStart=>exact ⟨x0,rfl,by omega,by omega,fun _=>HXX.out,HR⟩
 case round =>
  clear HR HXX hrb hx2;obtain ⟨x,rfl,hx1,hx,HXX,HR⟩:=hrel;by_cases h0:x<0
  ·have HX:Hid (R=none):=HR.out.trans (by rw [threeZ,if_pos h0]);have h0':¬ (0:Int)≤x:=by omega
   clear HR HXX;go_wp2;go_ret2
   rw [HX.out];exact ⟨_,rfl,Blk.new _ _ _,b1 _ _⟩
  ·have h0':(0:Int)≤x:=by omega
   obtain ⟨y,rfl⟩:∃y:Nat,x=(y:Int):=⟨x.toNat,by omega⟩;replace HXX:Hid (y*y≤n):=HXX.out h0';have hy:y<65536:=by omega
   clear h0 hx1 hx;have HS:=Lib.hid ((HR.out.trans (threeZ_nat n y)).trans (three_step n y));clear HR;obtain ⟨q,hq⟩:∃q,q=y*y:=⟨_,rfl⟩;have hq2:q≤65536*65536:=by rw [hq];exact Nat.mul_le_mul (by omega) (by omega)
   have hqn:q≤n:=by rw [hq];exact HXX.out
   have hz:3*y*y=3*q:=by rw [hq,Nat.mul_assoc]
   obtain ⟨d,hd⟩:∃d,d=n-q:=⟨_,rfl⟩;have hd2:d<4294967296:=by omega
   have HTW:=fun w=>r25two_c d y w hd2 (by omega)
   obtain ⟨T2,hT2⟩:∃t,t=twoF d (min (rt d) y):=⟨_,rfl⟩
   replace HS:Hid (R=if 3*q<n then none else thM y (threeZ n ((y:Int)-1)) T2):=by
    rw [Hid,HS.out,hz,←hq,←hd,←hT2,threeZ_pred];split <;> (cases T2 <;> rfl)
   rw [←hT2] at HTW;have HTT:=Lib.hid HTW;have c1:IntKind.i64.wrap (3*(y:Int))=3*(y:Int):=wi64 (by omega) (by omega)
   have c2:IntKind.i64.wrap (3*(y:Int)*(y:Int))=((3*q:Nat):Int):=by
    rw [show 3*(y:Int)*(y:Int)=((3*q:Nat):Int) by rw [←hz];simp only [Int.natCast_mul];rfl,wi64 (by omega) (by omega)]
   have c3:IntKind.i64.wrap ((y:Int)*(y:Int))=(q:Int):=by rw [show (y:Int)*(y:Int)=(q:Int) by rw [hq];exact (Int.natCast_mul y y).symm,wi64 (by omega) (by omega)]
   have c4:IntKind.i64.wrap ((n:Int)-(q:Int))=(d:Int):=by rw [wi64 (by omega) (by omega)];omega
   have c5:IntKind.i64.wrap ((y:Int)-1)=(y:Int)-1:=wi64 (by omega) (by omega);by_cases h1:3*q<n
   ·have HX:Hid (R=none):=HS.out.trans (if_pos h1);have h1':¬ n≤3*q:=by omega
    have h1i:¬ (n:Int)≤((3*q:Nat):Int):=by omega
    clear HS hq hz hd hd2 c4 h1 hq2 hqn HTW hT2 HTT;go_wp2;go_ret2
    rw [HX.out];exact ⟨_,rfl,Blk.new _ _ _,b1 _ _⟩
   ·have h1':n≤3*q:=by omega
    have h1i:(n:Int)≤((3*q:Nat):Int):=by omega
    replace HS:=Lib.hid (HS.out.trans (if_neg h1));clear h1 hd hd2 hq hz hq2 hqn HTW hT2;go_wp2_with fail
    refine (HTT.out _).mono ?_;rintro e w' ⟨rfl,rfl⟩;clear HTT;cases T2 with
    | none =>
     replace HS:Hid (R=threeZ n ((y:Int)-1)):=HS;simp only [tw1,tw2,Option.isSome_none];have HQ2:Hid (0≤(y:Int)-1→((y:Int)-1).toNat*((y:Int)-1).toNat≤n):=fun _=>Nat.le_trans (Nat.mul_le_mul (by omega) (by omega)) HXX.out
     clear HXX;go_wp2;go_round
     case rel=>exact ⟨(y:Int)-1,rfl,by omega,by omega,HQ2,HS⟩
     case measure=>simp [intOf]
    | some yz =>
     obtain ⟨y2,z2⟩:=yz;have HX:Hid (R=some (y,y2,z2)):=HS;clear HS HXX;simp only [tw1,tw2,Option.isSome_some];go_wp2;go_ret2
     rw [HX.out];exact ⟨_,rfl,Blk.new _ _ _,b1 _ _⟩
theorem r25number_c (n:Nat) (w:World) (h:n<256^128) :
  Calls Tryz.prog 104 #[.string (E n)] w fun e w'=>e=.returned (.tuple #[.int .i64 (if n<4294967296 then n else 0:Nat),.int .i64 (if n<4294967296 then 0 else 5)])∧w=w':=by
 have HV:Hid (∀w,Calls Tryz.prog 50 #[.string (E n)] w fun e w'=>e=.returned (.bool true)∧w=w'):=fun w=>rvalidE_c n w h
 by_cases h1:n<4294967296
 ·rw [if_pos h1,if_pos h1];have hs:(E n).size≤4:=(E_size_le n 4).2 (Nat.lt_of_lt_of_le h1 (by decide));have hs':¬ (4:Int)<((E n).size:Int):=by omega
  have HU:Hid (∀w,Calls Tryz.prog 127 #[.string (E n)] w fun e w'=>e=.returned (.int .u64 n)∧w=w'):=fun w=>ru64_c n w (Nat.lt_of_lt_of_le h1 (by decide))
  have c1:IntKind.i64.wrap (n:Int)=(n:Int):=wi64 (by omega) (by omega);clear h h1;go_enter Tryz.func104,Tryz.ntmps104
  go_wp2_with fail
  refine (HV.out _).mono ?_;rintro e w' ⟨rfl,rfl⟩;go_wp2_with fail
  refine (HU.out _).mono ?_;rintro e w' ⟨rfl,rfl⟩;go_wp2;go_ret2
  exact ⟨rfl,rfl⟩
 ·rw [if_neg h1,if_neg h1]
  have hs:4<(E n).size:=by
   apply Classical.byContradiction
   intro hn;have:=(E_size_le n 4).1 (by omega);exact h1 (Nat.lt_of_lt_of_le this (by decide))
  have hs':(4:Int)<((E n).size:Int):=by omega
  go_enter Tryz.func104,Tryz.ntmps104
  go_wp2_with fail
  refine (HV.out _).mono ?_;rintro e w' ⟨rfl,rfl⟩;go_wp2;go_ret2
  exact ⟨rfl,rfl⟩
theorem r25of_c (n:Nat) (w:World) (h:n<65536) :
  Calls Tryz.prog 108 #[.int .i64 (n:Int)] w fun e w'=>e=.returned (.string (E n))∧Below w.heap.size w w':=by
 have HO:Hid (∀w,Calls Tryz.prog 64 #[.int .u64 (n:Int)] w fun e w'=>e=.returned (.string (E n))∧Below w.heap.size w w'):=fun w=>rof_c n w (Nat.lt_of_lt_of_le h (by decide))
 have c1:IntKind.u64.wrap (n:Int)=(n:Int):=by rw [IntKind.wrap_u64];omega
 go_enter Tryz.func108,Tryz.ntmps108
 go_wp2_with fail
 refine (HO.out _).mono ?_;rintro e w' ⟨rfl,hb⟩;go_wp2;go_ret
 exact ⟨rfl,hb⟩
end
end Go.Proofs.YtfgandecbkbleaaGreatDoor
