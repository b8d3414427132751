import Derived.Test.YteahlbhjhjhljaaGreatDoorLck1
import Derived.Test.YteahlbhjhjhljaaGreatDoorLdv1
set_option linter.unusedVariables false
set_option linter.unusedSimpArgs false
set_option maxRecDepth 100000
set_option maxHeartbeats 16000000
namespace Go.Proofs.YteahlbhjhjhljaaGreatDoor
section
open Go.RowKit
theorem gp_at (N:NSta) (q:NEqn) (h:q.grp<N.grps.length):N.gp q=N.grps[q.grp]:=by
 unfold NSta.gp;rw [List.getD_eq_getElem?_getD,List.getElem?_eq_getElem h];rfl
end
section
open Go.RowKit
theorem typ_vars (N:NSta) (h:N.vars.any vz=false):N.typ=true:=by unfold NSta.typ;rw [h];rfl
theorem typ_ord (N:NSta) (h:N.vars.any vz=true) (h0:N.ord=0):N.typ=false:=by unfold NSta.typ;rw [h,h0];rfl
theorem typ_gq (N:NSta) (h:N.vars.any vz=true) (h0:N.grps.any (gq N.ord)=true):N.typ=false:=by unfold NSta.typ;rw [h,h0];simp
theorem typ_kind (N:NSta) (h:N.vars.any vz=true) (k:Nat) (hk:k<N.eqs.length) (h0:kindQ N N.eqs[k]=false):N.typ=false:=by unfold NSta.typ;rw [h,all_bad (kindQ N) N.eqs k hk h0];simp
theorem typ_ok (N:NSta) (h1:N.ord≠0) (h2:N.grps.any (gq N.ord)=false) (h3:N.eqs.all (kindQ N)=true):N.typ=true:=by
 unfold NSta.typ;rw [h2,h3,show vz N.ord=false by simpa [vz] using h1];simp
end
section
open Go.RowKit
theorem run_index_agg {P:Program} {w:World} (t e:TypeId) (n:Nat) (cs:Array Value) (k:IntKind) (i:Int) (v:Value) (h:P.underlying t=some (.array n e)) (h0:0≤i) (h1:i<n)
  (hi:(P.info? e).map (fun i=>i.size)=some 1) (ha:(isAgg e).run P w=.ok false w) (hn:cs[i.toNat]?=some v):(Instr.index t (.agg cs) (.int k i)).run P w=.ok v w:=by
 have hb:0≤i∧i<(n:Int):=⟨h0,h1⟩;cases hx:P.info? e with
 | none=>rw [hx] at hi;cases hi
 | some i0 =>
  rw [hx] at hi;have hz:i0.size=1:=by simpa using hi
  simp [Instr.index,run_underlying h,asIntOf,hb,go_sem,part,sizeOf,typeInfo,hx,hz,hn,ha]
theorem chk_6 {N:NSta} (h:8<N.grps.length):N.chk=6:=by unfold NSta.chk;rw [if_pos h]
theorem chk_13 {N:NSta} (h:¬ 8<N.grps.length) (h2:N.elem=false):N.chk=13:=by unfold NSta.chk;rw [if_neg h,if_pos h2]
theorem chk_10 {N:NSta} (h:¬ 8<N.grps.length) (h2:N.elem=true) (h3:N.typ=false):N.chk=10:=by unfold NSta.chk;rw [if_neg h,if_neg (by simp [h2]),if_pos h3]
theorem chk_0 {N:NSta} (h:¬ 8<N.grps.length) (h2:N.elem=true) (h3:N.typ=true):N.chk=0:=by unfold NSta.chk;rw [if_neg h,if_neg (by simp [h2]),if_neg (by simp [h3])]
theorem chk_inv {N:NSta} (h:N.chk=0):¬ 8<N.grps.length∧N.elem=true∧N.typ=true:=by
 unfold NSta.chk at h;by_cases h1:8<N.grps.length
 ·rw [if_pos h1] at h;cases h
 ·rw [if_neg h1] at h;cases h2:N.elem
  ·rw [if_pos h2] at h;cases h
  ·rw [if_neg (by simp [h2])] at h;cases h3:N.typ
   ·rw [if_pos h3] at h;cases h
   ·exact ⟨h1,rfl,rfl⟩
def zI (z:Int):Bool × ByteArray:=(sg z,E z.natAbs)
def ZsAt (w:World) (v:Value) (l:List Int):Prop:=IsAt w v (l.map zI)
theorem ZsAt.after {w w':World} {v:Value} {l:List Int} (h:ZsAt w v l) (hb:Below w.heap.size w w'):ZsAt w' v l:=IsAt.after h hb
theorem ZsAt.form {w:World} {v:Value} {l:List Int} (h:ZsAt w v l):∃a c,v=.slice a l.length c:=by
 obtain ⟨a1,c1,h1⟩:=RAt.form h;exact ⟨a1,c1,by rw [h1];simp⟩
theorem ZsAt.at_ {w:World} {ao:Option Addr} {n c k:Nat} {l:List Int} (h:ZsAt w (.slice ao n c) l) (hk:k<l.length):∃b o,ao=some ⟨b,o,none⟩∧b<w.heap.size∧w.cell? ⟨b,o+k*2,none⟩=some (.bool (sg l[k]))∧w.cell? ⟨b,o+k*2+1,none⟩=some (.string (E l[k].natAbs)):=by
 have hk':k<(l.map zI).length:=by simpa using hk
 obtain ⟨b,o,h1,h2,h3,h4⟩:=IsAt.at_ h hk';simp only [List.getElem_map,zI] at h3 h4;exact ⟨b,o,h1,h2,h3,h4⟩
end
section
open Go.RowKit
theorem gcl {w:World} {a:Addr} {v:Value} (hb:a.block<w.heap.size) (h:w.cell? a=some v):∀x:GW w,(Proofs.YteahlbhjhjhljaaGreatDoor.gw x).cell? a=some v:=fun x=>((gw_below x).cell hb).trans h
theorem rmany_c (N:NSta) (v1 v2 v3:Value) (w:World) (hm:NOk N) (hS:NAt w v1 v2 v3 N) :
  Calls Tryz.prog 180 #[.agg #[v1,v2,v3]] w fun e w'=>e=.returned (.bool (decide (8<N.grps.length)))∧Below w.heap.size w w':=by
 obtain ⟨r,hr⟩:∃r:Bool,r=decide (8<N.grps.length):=⟨_,rfl⟩;have HRES:=Lib.hid hr;rw [←hr];clear hr;obtain ⟨a1,c1,a2,c2,a3,c3,rfl,rfl,rfl⟩:=hS.forms;obtain ⟨n1,hn1⟩:∃n,n=N.grps.length:=⟨_,rfl⟩;obtain ⟨n2,hn2⟩:∃n,n=N.vars.length:=⟨_,rfl⟩;obtain ⟨n3,hn3⟩:∃n,n=N.eqs.length:=⟨_,rfl⟩;have HN1:=Lib.hid hn1;have HN2:=Lib.hid hn2;have HN3:=Lib.hid hn3;have l1:n1≤10:=by rw [hn1];exact hm.ng
 have l2:n2≤12:=by rw [hn2];exact hm.nv
 have l3:n3≤12:=by rw [hn3];exact hm.ne
 have HM:=Lib.hid hm;rw [←hn1,←hn2,←hn3] at hS ⊢;clear hm hn1 hn2 hn3;have hP:=Blk.new w #[.slice a1 n1 c1,.slice a2 n2 c2,.slice a3 n3 c3] 43;have hBW:=b1 w (.cells #[.slice a1 n1 c1,.slice a2 n2 c2,.slice a3 n3 c3] 43);replace hS:=hS.after hBW;obtain ⟨hPc0,hPf0,hPc1,hPf1,hPc2,hPf2⟩:=hP.x3;go_enter Tryz.func180,Tryz.ntmps180
 go_wp2;clear hPc0 hPf0 hPc1 hPf1 hPc2 hPf2;generalize w.alloc (.cells #[.slice a1 n1 c1,.slice a2 n2 c2,.slice a3 n3 c3] 43)=w1 at hP hBW hS;replace hP:Blk w1 w.heap.size 43 [.slice a1 n1 c1,.slice a2 n2 c2,.slice a3 n3 c3]:=hP;go_loopw [3] (fun i wr=>∃k:Nat,k≤n3∧i=.int .i64 k∧Below w1.heap.size w1 wr) (fun i _=>n3-(intOf i).toNat)
 case atStart=>exact ⟨0,by omega,rfl,Below.refl _ _⟩
 case round =>
  obtain ⟨k,hk,rfl,hbr⟩:=hrel;obtain ⟨wp,hwp⟩:∃wp,wp=wr:=⟨_,rfl⟩;subst hwp;replace hS:=hS.after hbr;replace hP:=hP.after hbr;replace hBW:=bt hBW hbr;by_cases hlt:k<n3
  ·have hkl:k<N.eqs.length:=by rw [←HN3.out];exact hlt
   have HSZ:=Lib.hid (HM.out.e _ (List.getElem_mem hkl)).2.2.1;obtain ⟨b,o,tv,rfl,hbl,x1,x2,x3,hTs⟩:=hS.eat hkl;obtain ⟨to_,tc,rfl⟩:=hTs.form;generalize (N.eqs[k]'hkl).trms.length=n4 at x3 HSZ;have l4:n4≤12:=HSZ.out;have h4:decide ((64:Int)<(n4:Int))=false:=decide_eq_false (by omega);have h0k:(0:Int)≤(k:Int):=by omega
   have h1k:(k:Int)<(n3:Int):=by omega
   have hPl:=hP.lt;obtain ⟨hPc0,hPf0,hPc1,hPf1,hPc2,hPf2⟩:=hP.x3;go_wp2;go_roundw
   case rel=>exact ⟨k+1,by omega,by go_num,hbr⟩
   case measure=>simp [intOf];omega
  ·have e2:decide ((64:Int)<(n2:Int))=false:=decide_eq_false (by omega);have e3:decide ((64:Int)<(n3:Int))=false:=decide_eq_false (by omega);by_cases h8:8<n1
   ·have e1:decide ((8:Int)<(n1:Int))=true:=decide_eq_true (by omega);have HF:Hid (r=true):=by rw [Hid,HRES.out];exact decide_eq_true (by rw [←HN1.out];exact h8)
    clear h8;obtain ⟨hPc0,hPf0,hPc1,hPf1,hPc2,hPf2⟩:=hP.x3;go_wp2;go_ret
    exact ⟨by rw [HF.out];rfl,hBW⟩
   ·have e1:decide ((8:Int)<(n1:Int))=false:=decide_eq_false (by omega);have HF:Hid (r=false):=by rw [Hid,HRES.out];exact decide_eq_false (by rw [←HN1.out];exact h8)
    clear h8;obtain ⟨hPc0,hPf0,hPc1,hPf1,hPc2,hPf2⟩:=hP.x3;go_wp2;go_ret
    exact ⟨by rw [HF.out];rfl,hBW⟩
theorem relements_c (N:NSta) (v1 v2 v3:Value) (w:World) (hm:NOk N) (hS:NAt w v1 v2 v3 N) :
  Calls Tryz.prog 181 #[.agg #[v1,v2,v3]] w fun e w'=>e=.returned (.bool N.elem)∧Below w.heap.size w w':=by
 obtain ⟨r,hr⟩:∃r:Bool,r=N.elem:=⟨_,rfl⟩;have HRES:=Lib.hid hr;rw [←hr];clear hr;obtain ⟨a1,c1,a2,c2,a3,c3,rfl,rfl,rfl⟩:=hS.forms;obtain ⟨n1,hn1⟩:∃n,n=N.grps.length:=⟨_,rfl⟩;obtain ⟨n2,hn2⟩:∃n,n=N.vars.length:=⟨_,rfl⟩;obtain ⟨n3,hn3⟩:∃n,n=N.eqs.length:=⟨_,rfl⟩;have HN1:=Lib.hid hn1;have HN2:=Lib.hid hn2;have HN3:=Lib.hid hn3;have l1:n1≤10:=by rw [hn1];exact hm.ng
 have l2:n2≤12:=by rw [hn2];exact hm.nv
 have l3:n3≤12:=by rw [hn3];exact hm.ne
 have HM:=Lib.hid hm;rw [←hn1,←hn2,←hn3] at hS ⊢;clear hm hn1 hn2 hn3;have hP:=Blk.new w #[.slice a1 n1 c1,.slice a2 n2 c2,.slice a3 n3 c3] 43;have hBW:=b1 w (.cells #[.slice a1 n1 c1,.slice a2 n2 c2,.slice a3 n3 c3] 43);replace hS:=hS.after hBW;obtain ⟨hPc0,hPf0,hPc1,hPf1,hPc2,hPf2⟩:=hP.x3;go_enter Tryz.func181,Tryz.ntmps181
 go_wp2;clear hPc0 hPf0 hPc1 hPf1 hPc2 hPf2;generalize w.alloc (.cells #[.slice a1 n1 c1,.slice a2 n2 c2,.slice a3 n3 c3] 43)=w1 at hP hBW hS;replace hP:Blk w1 w.heap.size 43 [.slice a1 n1 c1,.slice a2 n2 c2,.slice a3 n3 c3]:=hP;go_loopw [3] (fun i wr=>∃k:Nat,k≤n1∧i=.int .i64 k∧Hid ((N.grps.take k).all gr0=true)∧Below w1.heap.size w1 wr) (fun i _=>n1-(intOf i).toNat)
 case atStart=>exact ⟨0,by omega,rfl,rfl,Below.refl _ _⟩
 case round =>
  obtain ⟨k,hk,rfl,HA,hbr⟩:=hrel;obtain ⟨wp,hwp⟩:∃wp,wp=wr:=⟨_,rfl⟩;subst hwp;replace hS:=hS.after hbr;replace hP:=hP.after hbr;replace hBW:=bt hBW hbr;by_cases hlt:k<n1
  ·have hkl:k<N.grps.length:=by rw [←HN1.out];exact hlt
   have HSZ:=Lib.hid (HM.out.g _ (List.getElem_mem hkl));have HT:=Lib.hid (all_take gr0 N.grps k hkl);have HBAD:Hid (gr0 (N.grps[k]'hkl)=false→N.elem=false):=fun h=>by unfold NSta.elem;rw [all_bad gr0 N.grps k hkl h];rfl
   have HOG:Hid (gr0 (N.grps[k]'hkl)=(grpE (N.grps[k]'hkl).1 (N.grps[k]'hkl).2==0)):=rfl;obtain ⟨b,o,rfl,hbl,x1,x2⟩:=hS.gat hkl;generalize gr0 (N.grps[k]'hkl)=ok at HT HOG HBAD;generalize (N.grps[k]'hkl).1=s1 at x1 HSZ HOG;generalize (N.grps[k]'hkl).2=s2 at x2 HSZ HOG;have h0k:(0:Int)≤(k:Int):=by omega
   have h1k:(k:Int)<(n1:Int):=by omega
   have hPl:=hP.lt;by_cases hg:grpE s1 s2=0
   ·have HG:=Lib.hid hg;have HX:Hid ((N.grps.take (k+1)).all gr0=true):=by rw [Hid,HT.out,HA.out,HOG.out,hg];rfl
    clear HBAD hg;obtain ⟨hPc0,hPf0,hPc1,hPf1,hPc2,hPf2⟩:=hP.x3;go_wp2_with fail
    refine (rpcheckV_c s1 s2 0 _ HSZ.out.1 (lt128 HSZ.out.2) HG.out).mono ?_;rintro e w2 ⟨rfl,hb2⟩;go_wp2;go_roundw
    case rel=>exact ⟨k+1,by omega,by go_num,HX,bt hbr hb2⟩
    case measure=>simp [intOf];omega
   ·have HG:=Lib.hid (grpE_13 hg);have HF:Hid (N.elem=false):=HBAD.out (by rw [HOG.out];simpa using hg);clear HBAD hg;obtain ⟨hPc0,hPf0,hPc1,hPf1,hPc2,hPf2⟩:=hP.x3;go_wp2_with fail
    refine (rpcheckV_c s1 s2 13 _ HSZ.out.1 (lt128 HSZ.out.2) HG.out).mono ?_;rintro e w2 ⟨rfl,hb2⟩;go_wp2;go_ret
    exact ⟨by rw [HRES.out,HF.out];rfl,bt hBW hb2⟩
  ·have HG:Hid (N.grps.all gr0=true):=all_end gr0 N.grps k (by rw [←HN1.out];omega) HA.out;clear hbr;obtain ⟨hPc0,hPf0,hPc1,hPf1,hPc2,hPf2⟩:=hP.x3;go_wp2;clear hPc0 hPf0 hPc1 hPf1 hPc2 hPf2;clear HA hlt hk;go_loopw [4] (fun i wr=>∃k:Nat,k≤n3∧i=.int .i64 k∧Hid ((N.eqs.take k).all (elemQ N)=true)∧Below wp.heap.size wp wr) (fun i _=>n3-(intOf i).toNat)
   case atStart=>exact ⟨0,by omega,rfl,rfl,Below.refl _ _⟩
   case round =>
    obtain ⟨k,hk,rfl,HA,hbr⟩:=hrel;obtain ⟨wt,hwp⟩:∃wp,wp=wr:=⟨_,rfl⟩;subst hwp;replace hS:=hS.after hbr;replace hP:=hP.after hbr;replace hBW:=bt hBW hbr;by_cases hlt:k<n3
    ·have hkl:k<N.eqs.length:=by rw [←HN3.out];exact hlt
     have HT:=Lib.hid (all_take (elemQ N) N.eqs k hkl);have HBAD:Hid (elemQ N (N.eqs[k]'hkl)=false→N.elem=false):=fun h=>by unfold NSta.elem;rw [all_bad (elemQ N) N.eqs k hkl h];simp
     have HSZ:=Lib.hid (HM.out.e _ (List.getElem_mem hkl));obtain ⟨b,o,tv,rfl,hbl,x1,x2,x3,hTs⟩:=hS.eat hkl;generalize (N.eqs[k]'hkl)=q at x1 x2 x3 hTs HSZ HT HBAD;have hgl:=HSZ.out.1;have hgn:q.grp<n1:=by rw [HN1.out];exact hgl
     have HGP:=Lib.hid (gp_at N q hgl);have HGO:Hid (gr0 (N.grps[q.grp]'hgl)=true):=List.all_eq_true.1 HG.out _ (List.getElem_mem hgl);have HGZ:=Lib.hid (HM.out.g _ (List.getElem_mem hgl));obtain ⟨b',o',rfl,hbl',y1,y2⟩:=hS.gat hgl;have HG0:Hid (grpE (N.grps[q.grp]'hgl).1 (N.grps[q.grp]'hgl).2=0):=by have:=HGO.out;unfold Hid;simpa [gr0] using this
     have HEQ:Hid (elemQ N q=(hasB (N.grps[q.grp]'hgl).1 (N.grps[q.grp]'hgl).2 q.tgt&&q.trms.all (hasQ (N.grps[q.grp]'hgl)))):=by rw [Hid,elemQ,HGP.out]
     generalize elemQ N q=ek at HT HBAD HEQ;generalize (N.grps[q.grp]'hgl)=gg at y1 y2 HGZ HG0 HEQ;clear hgl HGP HGO;obtain ⟨qg,qt,qs⟩:=q;simp only [] at x1 x2 x3 hTs HSZ HEQ hgn y1 y2;obtain ⟨to_,tc,rfl⟩:=hTs.form;obtain ⟨n4,hn4⟩:∃n,n=qs.length:=⟨_,rfl⟩;have HN4:=Lib.hid hn4;rw [←hn4] at x3 hTs;clear hn4;obtain ⟨p,qq⟩:=gg;simp only [] at y1 y2 HGZ HG0 HEQ;have hB:=Blk.new wt #[.int .i64 (qg:Int),.string (E qt),.slice to_ n4 tc] 120;have hC:=Blk.new (wt.alloc (.cells #[.int .i64 (qg:Int),.string (E qt),.slice to_ n4 tc] 120)) #[.string (E p),.string (E qq)] 24;have h0k:(0:Int)≤(k:Int):=by omega
     have h1k:(k:Int)<(n3:Int):=by omega
     have h0g:(0:Int)≤(qg:Int):=by omega
     have h1g:(qg:Int)<(n1:Int):=by omega
     have hPl:=hP.lt;have hBl:=hB.lt;have hCl:=hC.lt;cases hh:hasB p qq qt
     ·have HF:Hid (N.elem=false):=HBAD.out (by rw [HEQ.out,hh];rfl);have HH:=Lib.hid hh;clear hh;obtain ⟨hPc0,hPf0,hPc1,hPf1,hPc2,hPf2⟩:=hP.x3;go_wp2_with fail
      refine (rHasV_c p qq qt false _ HGZ.out.1 (lt128 HGZ.out.2) HG0.out (Nat.lt_of_lt_of_le HSZ.out.2.1 (by decide)) HH.out).mono ?_;rintro e w2 ⟨rfl,hb2⟩;go_wp2;go_ret
      exact ⟨by rw [HRES.out,HF.out];rfl,bt (ba (ba hBW _) _) hb2⟩
     ·have HH:=Lib.hid hh;have hB2:=hB.alloc (.cells #[.string (E p),.string (E qq)] 24);have hC2:Blk ((wt.alloc (.cells #[.int .i64 (qg:Int),.string (E qt),.slice to_ n4 tc] 120)).alloc (.cells #[.string (E p),.string (E qq)] 24)) (wt.heap.size+1) 24 [.string (E p),.string (E qq)]:=by simpa using hC
      replace hTs:=hTs.after (b2 wt (.cells #[.int .i64 (qg:Int),.string (E qt),.slice to_ n4 tc] 120) (.cells #[.string (E p),.string (E qq)] 24));have hP2:=(hP.alloc (.cells #[.int .i64 (qg:Int),.string (E qt),.slice to_ n4 tc] 120)).alloc (.cells #[.string (E p),.string (E qq)] 24);have hBW2:=ba (ba hBW (.cells #[.int .i64 (qg:Int),.string (E qt),.slice to_ n4 tc] 120)) (.cells #[.string (E p),.string (E qq)] 24);have hbr2:=ba (ba hbr (.cells #[.int .i64 (qg:Int),.string (E qt),.slice to_ n4 tc] 120)) (.cells #[.string (E p),.string (E qq)] 24);clear hh;obtain ⟨hPc0,hPf0,hPc1,hPf1,hPc2,hPf2⟩:=hP.x3;go_wp2_with fail
      refine (rHasV_c p qq qt true _ HGZ.out.1 (lt128 HGZ.out.2) HG0.out (Nat.lt_of_lt_of_le HSZ.out.2.1 (by decide)) HH.out).mono ?_;rintro e w2 ⟨rfl,hb2⟩;clear hPc0 hPf0 hPc1 hPf1 hPc2 hPf2;clear hP hB hC hBl hCl hPl;replace hB2:=hB2.after hb2;replace hC2:=hC2.after hb2;replace hP2:=hP2.after hb2;replace hTs:=hTs.after hb2;replace hBW2:=bt hBW2 hb2;replace hbr2:=bt hbr2 hb2;clear hb2 hBW hbr hS;have hBl:=hB2.lt;have hCl:=hC2.lt;obtain ⟨hB2c0,hB2f0,hB2c1,hB2f1,hB2c2,hB2f2⟩:=hB2.x3;go_wp2;clear hB2c0 hB2f0 hB2c1 hB2f1 hB2c2 hB2f2;have l4:n4≤12:=by rw [HN4.out];exact HSZ.out.2.2.1
      go_loopw [7] (fun i wr=>∃k:Nat,k≤n4∧i=.int .i64 k∧Hid ((qs.take k).all (hasQ (p,qq))=true)∧Below w2.heap.size w2 wr) (fun i _=>n4-(intOf i).toNat)
      case atStart=>exact ⟨0,by omega,rfl,rfl,Below.refl _ _⟩
      case round =>
       obtain ⟨j,hj,rfl,HJ,hbs⟩:=hrel;obtain ⟨wv,hwv⟩:∃wv,wv=wr:=⟨_,rfl⟩;subst hwv;replace hB2:=hB2.after hbs;replace hC2:=hC2.after hbs;replace hTs:=hTs.after hbs;replace hBW2:=bt hBW2 hbs;have hBl:=hB2.lt;have hCl:=hC2.lt;by_cases hltj:j<n4
       ·have hjl:j<qs.length:=by rw [←HN4.out];exact hltj
        have HSJ:=Lib.hid (HSZ.out.2.2.2 _ (List.getElem_mem hjl)).1;have HTJ:=Lib.hid (all_take (hasQ (p,qq)) qs j hjl);have HBJ:Hid (hasQ (p,qq) (qs[j]'hjl)=false→N.elem=false):=fun h=>HBAD.out (by rw [HEQ.out,all_bad (hasQ (p,qq)) qs j hjl h];simp)
        obtain ⟨b4,o4,rfl,hbl4,z1,z2,z3,z4⟩:=hTs.at_ hjl;have HHQ:Hid (hasQ (p,qq) (qs[j]'hjl)=hasB p qq (qs[j]'hjl).base):=rfl;generalize hasQ (p,qq) (qs[j]'hjl)=hk0 at HTJ HBJ HHQ;generalize (qs[j]'hjl).base=tb at z1 HSJ HHQ;have h0j:(0:Int)≤(j:Int):=by omega
        have h1j:(j:Int)<(n4:Int):=by omega
        cases hh:hasB p qq tb
        ·have HF:Hid (N.elem=false):=HBJ.out (by rw [HHQ.out,hh]);have HH2:=Lib.hid hh;clear hh;have g1:=gcl (a:=⟨b4,o4+j*4,none⟩) hbl4 z1;obtain ⟨hB2c0,hB2f0,hB2c1,hB2f1,hB2c2,hB2f2⟩:=hB2.x3;obtain ⟨hC2c0,hC2f0,hC2c1,hC2f1⟩:=hC2.x2;have hB2g0:=hB2.gcell 0;have hB2g1:=hB2.gcell 1;have hB2g2:=hB2.gcell 2;have hC2g0:=hC2.gcell 0;have hC2g1:=hC2.gcell 1;go_wp2_with fail
         refine wp_region_gw (by kernel_rfl) (by kernel_rfl) ?_;repeat (go_big_quiet_step (first | (go_at_call 177;exact gw_of (rHasV_c p qq tb false _ HGZ.out.1 (lt128 HGZ.out.2) HG0.out (Nat.lt_of_lt_of_le HSJ.out (by decide)) HH2.out))))
         refine wpQuiet_nil ?_;rintro w5 ⟨xw5,rfl⟩;have hb5:=gw_below xw5;generalize gw xw5=w5 at hb5;go_wp2;go_ret
         exact ⟨by rw [HRES.out,HF.out];rfl,bt hBW2 hb5⟩
        ·have HX:Hid ((qs.take (j+1)).all (hasQ (p,qq))=true):=by rw [Hid,HTJ.out,HJ.out,HHQ.out,hh];rfl
         have HH2:=Lib.hid hh;clear hh;have g1:=gcl (a:=⟨b4,o4+j*4,none⟩) hbl4 z1;obtain ⟨hB2c0,hB2f0,hB2c1,hB2f1,hB2c2,hB2f2⟩:=hB2.x3;obtain ⟨hC2c0,hC2f0,hC2c1,hC2f1⟩:=hC2.x2;have hB2g0:=hB2.gcell 0;have hB2g1:=hB2.gcell 1;have hB2g2:=hB2.gcell 2;have hC2g0:=hC2.gcell 0;have hC2g1:=hC2.gcell 1;go_wp2_with fail
         refine wp_region_gw (by kernel_rfl) (by kernel_rfl) ?_;repeat (go_big_quiet_step (first | (go_at_call 177;exact gw_of (rHasV_c p qq tb true _ HGZ.out.1 (lt128 HGZ.out.2) HG0.out (Nat.lt_of_lt_of_le HSJ.out (by decide)) HH2.out))))
         refine wpQuiet_nil ?_;rintro w5 ⟨xw5,rfl⟩;have hb5:=gw_below xw5;generalize gw xw5=w5 at hb5;go_wp2;go_roundw
         case rel=>exact ⟨j+1,by omega,by go_num,HX,bt hbs hb5⟩
         case measure=>simp [intOf];omega
       ·have HE4:Hid (qs.all (hasQ (p,qq))=true):=all_end (hasQ (p,qq)) qs j (by rw [←HN4.out];omega) HJ.out;have HX:Hid ((N.eqs.take (k+1)).all (elemQ N)=true):=by rw [Hid,HT.out,HA.out,HEQ.out,HH.out,HE4.out];rfl
        obtain ⟨hB2c0,hB2f0,hB2c1,hB2f1,hB2c2,hB2f2⟩:=hB2.x3;go_wp2;go_roundw
        case rel=>exact ⟨k+1,by omega,by go_num,HX,bt hbr2 hbs⟩
        case measure=>simp [intOf];omega
    ·have HE:Hid (N.eqs.all (elemQ N)=true):=all_end (elemQ N) N.eqs k (by rw [←HN3.out];omega) HA.out;have HF:Hid (N.elem=true):=by unfold Hid NSta.elem;rw [HG.out,HE.out];rfl
     obtain ⟨hPc0,hPf0,hPc1,hPf1,hPc2,hPf2⟩:=hP.x3;go_wp2;go_ret
     exact ⟨by rw [HRES.out,HF.out];rfl,hBW⟩
end
end Go.Proofs.YteahlbhjhjhljaaGreatDoor
