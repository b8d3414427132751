import Derived.Test.YteahlbhjhjhljaaGreatDoorHp3
import Derived.Test.YteahlbhjhjhljaaGreatDoorInt4
import Derived.Test.YteahlbhjhjhljaaGreatDoorExp
set_option linter.unusedVariables false
set_option linter.unusedSimpArgs false
set_option maxRecDepth 100000
set_option maxHeartbeats 16000000
namespace Go.Proofs.YteahlbhjhjhljaaGreatDoor
section
open Go.RowKit
theorem valB_c (s:ByteArray) (b:Bool) (w:World) (hs:s.size≤1000) (h:vldB s=b):Calls Tryz.prog 67 #[.string s] w fun e w'=>e=.returned (.bool b)∧w'=w:=by
 rw [←h];exact (valid_c s w (by omega)).mono fun _ _ h=>⟨h.1,h.2.symm⟩
def gokB (g:ByteArray × ByteArray):Bool:=vldB g.1&&vldB g.2
def tokB (nv:Nat) (t:Trm):Bool:=decide (0≤t.var)&&decide (t.var<(nv:Int))&&vldB t.base&&ivB t.neg t.abs
def eokB (ng nv:Nat) (q:Eqn):Bool:=decide (0≤q.grp)&&decide (q.grp<(ng:Int))&&vldB q.tgt&&q.trms.all (tokB nv)
def formB (S:Sta):Bool:=S.grps.all gokB&&S.vars.all vldB&&S.eqs.all (eokB S.grps.length S.vars.length)
structure SSm (S:Sta):Prop where
 ng:S.grps.length≤1000
 nv:S.vars.length≤1000
 ne:S.eqs.length≤1000
 g:∀x∈S.grps,x.1.size≤1000∧x.2.size≤1000
 v:∀x∈S.vars,x.size≤1000
 e:∀x∈S.eqs,x.tgt.size≤1000∧x.trms.length≤1000∧∀t∈x.trms,t.base.size≤1000∧t.abs.size≤1000
theorem all_take {α:Type} (p:α→Bool) (l:List α) (k:Nat) (h:k<l.length):(l.take (k+1)).all p=((l.take k).all p&&p l[k]):=by
 rw [List.take_succ_eq_append_getElem h,List.all_append];simp
theorem all_bad {α:Type} (p:α→Bool) (l:List α) (k:Nat) (h:k<l.length) (hb:p l[k]=false):l.all p=false:=by
 rw [List.all_eq_false];exact ⟨l[k],List.getElem_mem h,by simp [hb]⟩
theorem all_end {α:Type} (p:α→Bool) (l:List α) (k:Nat) (h:k=l.length) (hb:(l.take k).all p=true):l.all p=true:=by
 rw [h,List.take_length] at hb;exact hb
end
section
open Go.RowKit
structure NTrm where
 base:Nat
 var:Nat
 coef:Int
structure NEqn where
 grp:Nat
 tgt:Nat
 trms:List NTrm
structure NSta where
 grps:List (Nat × Nat)
 vars:List Nat
 eqs:List NEqn
def NTrm.t (x:NTrm):Trm:=⟨E x.base,(x.var:Int),sg x.coef,E x.coef.natAbs⟩
def NEqn.q (x:NEqn):Eqn:=⟨(x.grp:Int),E x.tgt,x.trms.map NTrm.t⟩
def gE (g:Nat × Nat):ByteArray × ByteArray:=(E g.1,E g.2)
def NSta.s (x:NSta):Sta:=⟨x.grps.map gE,x.vars.map E,x.eqs.map NEqn.q⟩
structure NOk (N:NSta):Prop where
 ng:N.grps.length≤10
 nv:N.vars.length≤12
 ne:N.eqs.length≤12
 g:∀x∈N.grps,x.1<256^8∧x.2<256^8
 v:∀x∈N.vars,x<256^26
 e:∀q∈N.eqs,q.grp<N.grps.length∧q.tgt<256^16∧q.trms.length≤12∧∀t∈q.trms,t.base<256^16∧t.var<N.vars.length∧t.coef.natAbs<256^16
theorem lt_of_size {n k:Nat} (h:(E n).size≤k):n<256^k:=(E_size_le n k).1 h
theorem NOk.ssm {N:NSta} (h:NOk N):SSm N.s where
 ng:=by have:=h.ng;simp [NSta.s];omega
 nv:=by have:=h.nv;simp [NSta.s];omega
 ne:=by have:=h.ne;simp [NSta.s];omega
 g:=by
  intro x hx;obtain ⟨y,hy,rfl⟩:=List.mem_map.1 hx;have h1:=(E_size_le _ _).2 (h.g y hy).1;have h2:=(E_size_le _ _).2 (h.g y hy).2;exact ⟨by simp only [gE];omega,by simp only [gE];omega⟩
 v:=by
  intro x hx;obtain ⟨y,hy,rfl⟩:=List.mem_map.1 hx;have h1:=(E_size_le _ _).2 (h.v y hy);omega
 e:=by
  intro x hx;obtain ⟨y,hy,rfl⟩:=List.mem_map.1 hx;obtain ⟨_,h1,h2,h3⟩:=h.e y hy;have h1:=(E_size_le _ _).2 h1;refine ⟨by simp only [NEqn.q];omega,by simp only [NEqn.q,List.length_map];omega,fun t ht=>?_⟩;obtain ⟨z,hz,rfl⟩:=List.mem_map.1 ht;obtain ⟨h4,_,h5⟩:=h3 z hz;have h4:=(E_size_le _ _).2 h4;have h5:=(E_size_le _ _).2 h5;exact ⟨by simp only [NTrm.t];omega,by simp only [NTrm.t];omega⟩
theorem NOk.form {N:NSta} (h:NOk N):formB N.s=true:=by
 simp only [formB,Bool.and_eq_true,List.all_eq_true];refine ⟨⟨fun x hx=>?_,fun x hx=>?_⟩,fun x hx=>?_⟩
 ·obtain ⟨y,hy,rfl⟩:=List.mem_map.1 hx;simp only [gokB,gE,Bool.and_eq_true];exact ⟨vldB_E _ (Nat.lt_of_lt_of_le (h.g y hy).1 (by decide)),vldB_E _ (Nat.lt_of_lt_of_le (h.g y hy).2 (by decide))⟩
 ·obtain ⟨y,hy,rfl⟩:=List.mem_map.1 hx;exact vldB_E _ (Nat.lt_of_lt_of_le (h.v y hy) (by decide))
 ·obtain ⟨y,hy,rfl⟩:=List.mem_map.1 hx;obtain ⟨h1,h2,h3,h4⟩:=h.e y hy;simp only [eokB,NEqn.q,Bool.and_eq_true,decide_eq_true_eq,List.all_eq_true,NSta.s,List.length_map];refine ⟨⟨⟨decide_eq_true (Int.natCast_nonneg _),Int.ofNat_lt.2 h1⟩,vldB_E _ (Nat.lt_of_lt_of_le h2 (by decide))⟩,fun t ht=>?_⟩;obtain ⟨z,hz,rfl⟩:=List.mem_map.1 ht;obtain ⟨h5,h6,h7⟩:=h4 z hz;simp only [tokB,NTrm.t,Bool.and_eq_true,decide_eq_true_eq];exact ⟨⟨⟨decide_eq_true (Int.natCast_nonneg _),decide_eq_true (Int.ofNat_lt.2 h6)⟩,vldB_E _ (Nat.lt_of_lt_of_le h5 (by decide))⟩,ivB_I _ (Nat.lt_of_lt_of_le h7 (by decide))⟩
def NSta.gp (N:NSta) (q:NEqn):Nat × Nat:=N.grps.getD q.grp (0,0)
def NSta.ord (N:NSta):Nat:=((N.grps.map (·.2)).find? (· != 0)).getD 0
def hasQ (g:Nat × Nat) (t:NTrm):Bool:=hasB g.1 g.2 t.base
def elemQ (N:NSta) (q:NEqn):Bool:=hasB (N.gp q).1 (N.gp q).2 q.tgt&&q.trms.all (hasQ (N.gp q))
def gr0 (g:Nat × Nat):Bool:=grpE g.1 g.2==0
def NSta.elem (N:NSta):Bool:=N.grps.all gr0&&N.eqs.all (elemQ N)
def vz (n:Nat):Bool:=n==0
def NSta.tz (N:NSta) (t:NTrm):Bool:=vz (N.vars.getD t.var 0)
def gq (n:Nat) (g:Nat × Nat):Bool:=g.2 != 0&&g.2 != n
def kindQ (N:NSta) (q:NEqn):Bool:=!(vz (N.gp q).2) || !(q.trms.any N.tz)
def NSta.typ (N:NSta):Bool:=!(N.vars.any vz) || (!(vz N.ord)&&!(N.grps.any (gq N.ord))&&N.eqs.all (kindQ N))
def NSta.chk (N:NSta):Nat:=if 8<N.grps.length then 6 else if N.elem=false then 13 else if N.typ=false then 10 else 0
def NAt (w:World) (v1 v2 v3:Value) (N:NSta):Prop:=StAt w v1 v2 v3 N.s
def TNAt (w:World) (v:Value) (l:List NTrm):Prop:=TsAt w v (l.map NTrm.t)
theorem NAt.after {w w':World} {v1 v2 v3:Value} {N:NSta} (h:NAt w v1 v2 v3 N) (hb:Below w.heap.size w w'):NAt w' v1 v2 v3 N:=StAt.after h hb
theorem TNAt.after {w w':World} {v:Value} {l:List NTrm} (h:TNAt w v l) (hb:Below w.heap.size w w'):TNAt w' v l:=TsAt.after h hb
theorem NAt.forms {w:World} {v1 v2 v3:Value} {N:NSta} (h:NAt w v1 v2 v3 N):∃a1 c1 a2 c2 a3 c3,v1=.slice a1 N.grps.length c1∧v2=.slice a2 N.vars.length c2∧v3=.slice a3 N.eqs.length c3:=by
 obtain ⟨a1,c1,h1⟩:=RAt.form h.g;obtain ⟨a2,c2,h2⟩:=RAt.form h.v;obtain ⟨a3,c3,h3⟩:=RAt.form h.e;exact ⟨a1,c1,a2,c2,a3,c3,by rw [h1];simp [NSta.s],by rw [h2];simp [NSta.s],by rw [h3];simp [NSta.s]⟩
theorem TNAt.form {w:World} {v:Value} {l:List NTrm} (h:TNAt w v l):∃a c,v=.slice a l.length c:=by
 obtain ⟨a1,c1,h1⟩:=RAt.form h;exact ⟨a1,c1,by rw [h1];simp⟩
section
variable {w:World} {ao:Option Addr} {n c k:Nat} {v1 v2 v3:Value} {N:NSta}
theorem NAt.gat (h:NAt w (.slice ao n c) v2 v3 N) (hk:k<N.grps.length):∃b o,ao=some ⟨b,o,none⟩∧b<w.heap.size∧w.cell? ⟨b,o+k*2,none⟩=some (.string (E N.grps[k].1))∧w.cell? ⟨b,o+k*2+1,none⟩=some (.string (E N.grps[k].2)):=by
 have hk':k<N.s.grps.length:=by simpa [NSta.s] using hk
 obtain ⟨b,o,h1,h2,h3,h4⟩:=GsAt.at_ h.g hk';simp only [NSta.s,List.getElem_map,gE] at h3 h4;exact ⟨b,o,h1,h2,h3,h4⟩
theorem NAt.vat (h:NAt w v1 (.slice ao n c) v3 N) (hk:k<N.vars.length):∃b o,ao=some ⟨b,o,none⟩∧b<w.heap.size∧w.cell? ⟨b,o+k,none⟩=some (.string (E N.vars[k])):=by
 have hk':k<N.s.vars.length:=by simpa [NSta.s] using hk
 obtain ⟨b,o,h1,h2,h3⟩:=SsAt.at_ h.v hk';simp only [NSta.s,List.getElem_map] at h3;exact ⟨b,o,h1,h2,h3⟩
theorem NAt.eat (h:NAt w v1 v2 (.slice ao n c) N) (hk:k<N.eqs.length):∃b o tv,ao=some ⟨b,o,none⟩∧b<w.heap.size∧w.cell? ⟨b,o+k*3,none⟩=some (.int .i64 (N.eqs[k].grp:Int))∧w.cell? ⟨b,o+k*3+1,none⟩=some (.string (E N.eqs[k].tgt))∧w.cell? ⟨b,o+k*3+2,none⟩=some tv∧TNAt w tv N.eqs[k].trms:=by
 have hk':k<N.s.eqs.length:=by simpa [NSta.s] using hk
 obtain ⟨b,o,tv,h1,h2,h3,h4,h5,h6⟩:=EsAt.at_ h.e hk';simp only [NSta.s,List.getElem_map,NEqn.q] at h3 h4 h6;exact ⟨b,o,tv,h1,h2,h3,h4,h5,h6⟩
theorem TNAt.at_ {l:List NTrm} (h:TNAt w (.slice ao n c) l) (hk:k<l.length):∃b o,ao=some ⟨b,o,none⟩∧b<w.heap.size∧w.cell? ⟨b,o+k*4,none⟩=some (.string (E l[k].base))∧w.cell? ⟨b,o+k*4+1,none⟩=some (.int .i64 (l[k].var:Int))∧w.cell? ⟨b,o+k*4+2,none⟩=some (.bool (sg l[k].coef))∧w.cell? ⟨b,o+k*4+3,none⟩=some (.string (E l[k].coef.natAbs)):=by
 have hk':k<(l.map NTrm.t).length:=by simpa using hk
 obtain ⟨b,o,h1,h2,h3,h4,h5,h6⟩:=TsAt.at_ h hk';simp only [List.getElem_map,NTrm.t] at h3 h4 h5 h6;exact ⟨b,o,h1,h2,h3,h4,h5,h6⟩
end
end
section
open Go.RowKit
def IPost (b:Bool) (w:World) (e:Ending) (w':World):Prop:=∃i:Int,e=.returned (.int .i64 i)∧decide (0≤i)=b∧Below w.heap.size w w'
theorem any_take {α:Type} (p:α→Bool) (l:List α) (k:Nat) (h:k<l.length):(l.take (k+1)).any p=((l.take k).any p || p l[k]):=by
 rw [List.take_succ_eq_append_getElem h,List.any_append];simp
theorem any_hit {α:Type} (p:α→Bool) (l:List α) (k:Nat) (h:k<l.length) (hb:p l[k]=true):l.any p=true:=by
 rw [List.any_eq_true];exact ⟨l[k],List.getElem_mem h,hb⟩
theorem any_end {α:Type} (p:α→Bool) (l:List α) (k:Nat) (h:k=l.length) (hb:(l.take k).any p=false):l.any p=false:=by
 rw [h,List.take_length] at hb;exact hb
end
end Go.Proofs.YteahlbhjhjhljaaGreatDoor
