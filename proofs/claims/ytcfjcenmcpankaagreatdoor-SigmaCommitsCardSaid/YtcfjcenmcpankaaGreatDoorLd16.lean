import Derived.Test.YtcfjcenmcpankaaGreatDoorSat1
import Derived.Test.YtcfjcenmcpankaaGreatDoorBase
import Derived.Below
import Derived.ChangeSame
import Derived.ChangeMaps5
import Derived.JoinedOf
import Derived.JoinedAt
import Derived.RowKit3
import Derived.Deep.Strs
import Derived.Lib.SmallJoins
import Derived.OpenShut
import Derived.ProofKit
import Derived.Carry
import Derived.ChangeSlices
import Derived.WideKeyArgs
import Derived.Deep.Slices
import Derived.Test.YtcfjcenmcpankaaGreatDoorRows
import Derived.LaidMore
import Derived.Stop.Joined
set_option linter.unusedVariables false
set_option linter.unusedSimpArgs false
set_option maxRecDepth 100000
set_option maxHeartbeats 16000000
namespace Go.Proofs.YtcfjcenmcpankaaGreatDoor
section
open Go.RowKit Go.Shelf
structure SSz (S:Sta):Prop where
 g:∀x∈S.grps,x.1.size≤9223372036854775807∧x.2.size≤9223372036854775807
 v:∀x∈S.vars,x.size≤9223372036854775807
 e:∀x∈S.eqs,x.tgt.size≤9223372036854775807∧x.trms.length≤9223372036854775807∧∀t∈x.trms,t.base.size≤9223372036854775807∧t.abs.size≤9223372036854775807
theorem dzT {n k:Nat} (h:¬ n≤k):decide ((k:Int)<(n:Int))=true:=decide_eq_true (by omega)
theorem dzF {n k:Nat} (h:n≤k):decide ((k:Int)<(n:Int))=false:=decide_eq_false (by omega)
def ruleB (S:Sta) (C K:ByteArray):Bool:=decide (C.size≤16)&&decide (K.size≤16)&&fewB S
theorem few16_c (S:Sta) (C K:ByteArray) (v1 v2 v3:Value) (w:World) (hC:C.size≤9223372036854775807) (hK:K.size≤9223372036854775807) (hm:SSz S) (hS:StAt w v1 v2 v3 S) :
  Calls Tryz.prog 11 #[.agg #[.string C,.string K],.agg #[v1,v2,v3]] w fun e w'=>e=.returned (.bool (ruleB S C K))∧Below w.heap.size w w':=by
 obtain ⟨r,hr⟩:∃r:Bool,r=ruleB S C K:=⟨_,rfl⟩;have HRES:=Lib.hid hr;rw [←hr];clear hr;have HQ:Hid (ruleB S C K=(decide (C.size≤16)&&decide (K.size≤16)&&fewB S)):=rfl;obtain ⟨a1,c1,rfl⟩:=hS.g.form;obtain ⟨a2,c2,rfl⟩:=hS.v.form;obtain ⟨a3,c3,rfl⟩:=hS.e.form;have HM:=Lib.hid hm;obtain ⟨n1,hn1⟩:∃n,n=S.grps.length:=⟨_,rfl⟩;obtain ⟨n2,hn2⟩:∃n,n=S.vars.length:=⟨_,rfl⟩;obtain ⟨n3,hn3⟩:∃n,n=S.eqs.length:=⟨_,rfl⟩;have HN1:=Lib.hid hn1;have HN2:=Lib.hid hn2;have HN3:=Lib.hid hn3;rw [←hn1,←hn2,←hn3] at hS ⊢;clear hm hn1 hn2 hn3;have hR:=blk2a w #[.string C,.string K] #[.slice a1 n1 c1,.slice a2 n2 c2,.slice a3 n3 c3] 24 29;have hP:=blk2b w #[.string C,.string K] #[.slice a1 n1 c1,.slice a2 n2 c2,.slice a3 n3 c3] 24 29;have hBW:=b2 w (.cells #[.string C,.string K] 24) (.cells #[.slice a1 n1 c1,.slice a2 n2 c2,.slice a3 n3 c3] 29);replace hS:=hS.after hBW;by_cases g1:C.size≤16
 rotate_left
 ·have e1:decide ((16:Int)<(C.size:Int))=true:=dzT g1;have HF:Hid (r=false):=by rw [Hid,HRES.out,HQ.out];rw [decide_eq_false g1];rfl
  clear g1;obtain ⟨hRc0,hRf0,hRc1,hRf1⟩:=hR.x2;obtain ⟨hPc0,hPf0,hPc1,hPf1,hPc2,hPf2⟩:=hP.x3;go_enter Tryz.func11,Tryz.ntmps11
  go_wp2;go_ret
  exact ⟨by rw [HF.out];rfl,hBW⟩
 have e1:decide ((16:Int)<(C.size:Int))=false:=dzF g1;by_cases g2:K.size≤16
 rotate_left
 ·have e2:decide ((16:Int)<(K.size:Int))=true:=dzT g2;have HF:Hid (r=false):=by rw [Hid,HRES.out,HQ.out];rw [decide_eq_false g2,Bool.and_false];rfl
  clear g1 g2;obtain ⟨hRc0,hRf0,hRc1,hRf1⟩:=hR.x2;obtain ⟨hPc0,hPf0,hPc1,hPf1,hPc2,hPf2⟩:=hP.x3;go_enter Tryz.func11,Tryz.ntmps11
  go_wp2;go_ret
  exact ⟨by rw [HF.out];rfl,hBW⟩
 have e2:decide ((16:Int)<(K.size:Int))=false:=dzF g2;by_cases g3:n1≤4
 rotate_left
 ·have e3:decide ((4:Int)<(n1:Int))=true:=dzT g3;have HF:Hid (r=false):=by rw [Hid,HRES.out,HQ.out];unfold fewB;rw [←HN1.out,decide_eq_false g3];simp
  clear g1 g2 g3;obtain ⟨hRc0,hRf0,hRc1,hRf1⟩:=hR.x2;obtain ⟨hPc0,hPf0,hPc1,hPf1,hPc2,hPf2⟩:=hP.x3;go_enter Tryz.func11,Tryz.ntmps11
  go_wp2;go_ret
  exact ⟨by rw [HF.out];rfl,hBW⟩
 have e3:decide ((4:Int)<(n1:Int))=false:=dzF g3;by_cases g4:n2≤6
 rotate_left
 ·have e4:decide ((6:Int)<(n2:Int))=true:=dzT g4;have HF:Hid (r=false):=by rw [Hid,HRES.out,HQ.out];unfold fewB;rw [←HN2.out,decide_eq_false g4];simp
  clear g1 g2 g3 g4;obtain ⟨hRc0,hRf0,hRc1,hRf1⟩:=hR.x2;obtain ⟨hPc0,hPf0,hPc1,hPf1,hPc2,hPf2⟩:=hP.x3;go_enter Tryz.func11,Tryz.ntmps11
  go_wp2;go_ret
  exact ⟨by rw [HF.out];rfl,hBW⟩
 have e4:decide ((6:Int)<(n2:Int))=false:=dzF g4;by_cases g5:n3≤6
 rotate_left
 ·have e5:decide ((6:Int)<(n3:Int))=true:=dzT g5;have HF:Hid (r=false):=by rw [Hid,HRES.out,HQ.out];unfold fewB;rw [←HN3.out,decide_eq_false g5];simp
  clear g1 g2 g3 g4 g5;obtain ⟨hRc0,hRf0,hRc1,hRf1⟩:=hR.x2;obtain ⟨hPc0,hPf0,hPc1,hPf1,hPc2,hPf2⟩:=hP.x3;go_enter Tryz.func11,Tryz.ntmps11
  go_wp2;go_ret
  exact ⟨by rw [HF.out];rfl,hBW⟩
 have e5:decide ((6:Int)<(n3:Int))=false:=dzF g5;have HL1:Hid (decide (S.grps.length≤4)=true):=decide_eq_true (by have:=HN1.out;omega);have HL2:Hid (decide (S.vars.length≤6)=true):=decide_eq_true (by have:=HN2.out;omega);have HL3:Hid (decide (S.eqs.length≤6)=true):=decide_eq_true (by have:=HN3.out;omega);have HQ2:Hid (r=fewB S):=by rw [Hid,HRES.out,HQ.out,decide_eq_true g1,decide_eq_true g2];rfl
 clear HRES HQ;have HRES:=HQ2;clear HQ2;obtain ⟨hRc0,hRf0,hRc1,hRf1⟩:=hR.x2;obtain ⟨hPc0,hPf0,hPc1,hPf1,hPc2,hPf2⟩:=hP.x3;go_enter Tryz.func11,Tryz.ntmps11
 go_wp2;clear hRc0 hRf0 hRc1 hRf1;clear hPc0 hPf0 hPc1 hPf1 hPc2 hPf2;clear e1 e2 e3 e4 e5 g1 g2 hR;generalize (w.alloc (.cells #[.string C,.string K] 24)).alloc (.cells #[.slice a1 n1 c1,.slice a2 n2 c2,.slice a3 n3 c3] 29)=w1 at hP hBW hS ⊢;go_loopw [44] (fun i wr=>∃k:Nat,k≤n1∧i=.int .i64 k∧Hid ((S.grps.take k).all gszB=true)∧Below w1.heap.size w1 wr) (fun i _=>n1-(intOf i).toNat)
 case atStart=>exact ⟨0,by omega,rfl,rfl,Below.refl _ _⟩
 case round =>
  obtain ⟨k,hk,rfl,HA,hbr⟩:=hrel;obtain ⟨wp,hwp⟩:∃wp,wp=wr:=⟨_,rfl⟩;subst hwp;replace hS:=hS.after hbr;replace hP:=hP.after hbr;replace hBW:=bt hBW hbr;by_cases hlt:k<n1
  ·have hkl:k<S.grps.length:=by rw [←HN1.out];exact hlt
   have HSZ:=Lib.hid (HM.out.g _ (List.getElem_mem hkl));have HT:=Lib.hid (all_take gszB S.grps k hkl);have HBAD:Hid (gszB S.grps[k]=false→fewB S=false):=fun h=>by unfold fewB;rw [all_bad gszB S.grps k hkl h];simp
   obtain ⟨b,o,rfl,hbl,x1,x2⟩:=hS.g.at_ hkl;have HG:Hid (gszB S.grps[k]=(decide (S.grps[k].1.size≤8)&&decide (S.grps[k].2.size≤8))):=rfl;generalize gszB (S.grps[k]'hkl)=gk at HT HBAD HG;generalize (S.grps[k]'hkl).1=s1 at x1 HSZ HG;generalize (S.grps[k]'hkl).2=s2 at x2 HSZ HG;have z1:=HSZ.out.1;have z2:=HSZ.out.2;have h0k:(0:Int)≤(k:Int):=by omega
   have h1k:(k:Int)<(n1:Int):=by omega
   by_cases q1:s1.size≤8
   ·have d1:decide ((8:Int)<(s1.size:Int))=false:=dzF q1;by_cases q2:s2.size≤8
    ·have d2:decide ((8:Int)<(s2.size:Int))=false:=dzF q2;have HX:Hid ((S.grps.take (k+1)).all gszB=true):=by rw [Hid,HT.out,HA.out,HG.out,decide_eq_true q1,decide_eq_true q2];rfl
     clear q1 q2;go_wp2;go_roundw
     case rel=>exact ⟨k+1,by omega,by go_num,HX,ba hbr _⟩
     case measure=>simp [intOf];omega
    ·have d2:decide ((8:Int)<(s2.size:Int))=true:=dzT q2;have HF:Hid (fewB S=false):=HBAD.out (by rw [HG.out,decide_eq_false q2,Bool.and_false]);clear q1 q2;go_wp2;go_ret
     exact ⟨by rw [HRES.out,HF.out];rfl,ba hBW _⟩
   ·have d1:decide ((8:Int)<(s1.size:Int))=true:=dzT q1;have HF:Hid (fewB S=false):=HBAD.out (by rw [HG.out,decide_eq_false q1];rfl);clear q1;go_wp2;go_ret
    exact ⟨by rw [HRES.out,HF.out];rfl,ba hBW _⟩
  ·have HG:Hid (S.grps.all gszB=true):=all_end gszB S.grps k (by rw [←HN1.out];omega) HA.out;clear hbr;obtain ⟨hPc0,hPf0,hPc1,hPf1,hPc2,hPf2⟩:=hP.x3;go_wp2;clear hPc0 hPf0 hPc1 hPf1 hPc2 hPf2;clear HA hlt hk;go_loopw [62] (fun i wr=>∃k:Nat,k≤n2∧i=.int .i64 k∧Hid ((S.vars.take k).all vszB=true)∧Below wp.heap.size wp wr) (fun i _=>n2-(intOf i).toNat)
   case atStart=>exact ⟨0,by omega,rfl,rfl,Below.refl _ _⟩
   case round =>
    obtain ⟨k,hk,rfl,HA,hbr⟩:=hrel;obtain ⟨wq,hwq⟩:∃wq,wq=wr:=⟨_,rfl⟩;subst hwq;replace hS:=hS.after hbr;replace hP:=hP.after hbr;replace hBW:=bt hBW hbr;by_cases hlt:k<n2
    ·have hkl:k<S.vars.length:=by rw [←HN2.out];exact hlt
     have hsz:=HM.out.v _ (List.getElem_mem hkl);have HT:=Lib.hid (all_take vszB S.vars k hkl);have HBAD:Hid (vszB S.vars[k]=false→fewB S=false):=fun h=>by unfold fewB;rw [all_bad vszB S.vars k hkl h];simp
     have HQ:Hid (vszB S.vars[k]=decide (S.vars[k].size≤16)):=rfl;obtain ⟨b,o,rfl,hbl,x1⟩:=hS.v.at_ hkl;generalize vszB (S.vars[k]'hkl)=vk at HT HBAD HQ;generalize S.vars[k]'hkl=s1 at x1 hsz HQ;have h0k:(0:Int)≤(k:Int):=by omega
     have h1k:(k:Int)<(n2:Int):=by omega
     by_cases q1:s1.size≤16
     ·have d1:decide ((16:Int)<(s1.size:Int))=false:=dzF q1;have HX:Hid ((S.vars.take (k+1)).all vszB=true):=by rw [Hid,HT.out,HA.out,HQ.out,decide_eq_true q1];rfl
      clear q1;go_wp2;go_roundw
      case rel=>exact ⟨k+1,by omega,by go_num,HX,ba hbr _⟩
      case measure=>simp [intOf];omega
     ·have d1:decide ((16:Int)<(s1.size:Int))=true:=dzT q1;have HF:Hid (fewB S=false):=HBAD.out (by rw [HQ.out,decide_eq_false q1]);clear q1;go_wp2;go_ret
      exact ⟨by rw [HRES.out,HF.out];rfl,ba hBW _⟩
    ·have HV:Hid (S.vars.all vszB=true):=all_end vszB S.vars k (by rw [←HN2.out];omega) HA.out;clear hbr;obtain ⟨hPc0,hPf0,hPc1,hPf1,hPc2,hPf2⟩:=hP.x3;go_wp2;clear hPc0 hPf0 hPc1 hPf1 hPc2 hPf2;clear HA hlt hk;go_loopw [74] (fun i wr=>∃k:Nat,k≤n3∧i=.int .i64 k∧Hid ((S.eqs.take k).all eszB=true)∧Below wq.heap.size wq wr) (fun i _=>n3-(intOf i).toNat)
     case atStart=>exact ⟨0,by omega,rfl,rfl,Below.refl _ _⟩
     case round =>
      obtain ⟨k,hk,rfl,HA,hbr⟩:=hrel;obtain ⟨wt,hwt⟩:∃wt,wt=wr:=⟨_,rfl⟩;subst hwt;replace hS:=hS.after hbr;replace hBW:=bt hBW hbr;by_cases hlt:k<n3
      ·have hkl:k<S.eqs.length:=by rw [←HN3.out];exact hlt
       have HSZ:=Lib.hid (HM.out.e _ (List.getElem_mem hkl));have HT:=Lib.hid (all_take eszB S.eqs k hkl);have HBAD:Hid (eszB S.eqs[k]=false→fewB S=false):=fun h=>by unfold fewB;rw [all_bad eszB S.eqs k hkl h];simp
       obtain ⟨b,o,tv,rfl,hbl,x1,x2,x3,hTs⟩:=hS.e.at_ hkl;generalize S.eqs[k]'hkl=q at x1 x2 x3 hTs HSZ HT HBAD;obtain ⟨qg,qt,qs⟩:=q;simp only [] at x1 x2 x3 hTs;obtain ⟨to_,tc,rfl⟩:=RAt.form hTs;obtain ⟨n4,hn4⟩:∃n,n=qs.length:=⟨_,rfl⟩;have HN4:=Lib.hid hn4;rw [←hn4] at x3 hTs;clear hn4;have z1:=HSZ.out.1;have h0k:(0:Int)≤(k:Int):=by omega
       have h1k:(k:Int)<(n3:Int):=by omega
       have HQ:Hid (eszB ⟨qg,qt,qs⟩=(decide (qs.length≤6)&&decide (qt.size≤16)&&qs.all tszB)):=rfl;generalize eszB ⟨qg,qt,qs⟩=ek at HT HBAD HQ;by_cases q1:qt.size≤16
       rotate_left
       ·have d1:decide ((16:Int)<(qt.size:Int))=true:=dzT q1;have HF:Hid (fewB S=false):=HBAD.out (by rw [HQ.out,decide_eq_false q1,Bool.and_false];rfl);clear q1;go_wp2;go_ret
        exact ⟨by rw [HRES.out,HF.out];rfl,ba hBW _⟩
       have d1:decide ((16:Int)<(qt.size:Int))=false:=dzF q1;by_cases q4:n4≤6
       rotate_left
       ·have d4:decide ((6:Int)<(n4:Int))=true:=dzT q4;have HF:Hid (fewB S=false):=HBAD.out (by rw [HQ.out,←HN4.out,decide_eq_false q4];rfl);clear q1 q4;go_wp2;go_ret
        exact ⟨by rw [HRES.out,HF.out];rfl,ba hBW _⟩
       have d4:decide ((6:Int)<(n4:Int))=false:=dzF q4;have HY:Hid (decide (qs.length≤6)=true):=decide_eq_true (by have:=HN4.out;omega);have HV9:Hid (decide (qt.size≤16)=true):=decide_eq_true q1;clear q1;have hbE:=b1 wt (.cells #[.int .i64 qg,.string qt,.slice to_ n4 tc] 84);have hTs2:=TsAt.after hTs hbE;go_wp2;clear d1 d4 x1 x2 x3 hTs hbl;generalize wt.alloc (.cells #[.int .i64 qg,.string qt,.slice to_ n4 tc] 84)=wu at hbE hTs2 ⊢;replace hBW:=bt hBW hbE;replace hbr:=bt hbr hbE;go_loopw [91] (fun i wr=>∃k:Nat,k≤n4∧i=.int .i64 k∧Hid ((qs.take k).all tszB=true)∧Below wu.heap.size wu wr) (fun i _=>n4-(intOf i).toNat)
       case atStart=>exact ⟨0,by omega,rfl,rfl,Below.refl _ _⟩
       case round =>
        obtain ⟨j,hj,rfl,HJ,hbs⟩:=hrel;obtain ⟨wv,hwv⟩:∃wv,wv=wr:=⟨_,rfl⟩;subst hwv;replace hTs2:=TsAt.after hTs2 hbs;replace hBW:=bt hBW hbs;by_cases hltj:j<n4
        ·have hjl:j<qs.length:=by rw [←HN4.out];exact hltj
         have HSJ:=Lib.hid (HSZ.out.2.2 _ (List.getElem_mem hjl));have HTJ:=Lib.hid (all_take tszB qs j hjl);have HBJ:Hid (tszB qs[j]=false→fewB S=false):=fun h=>HBAD.out (by rw [HQ.out,all_bad tszB qs j hjl h];simp)
         obtain ⟨b4,o4,rfl,hbl4,y1,y2,y3,y4⟩:=TsAt.at_ hTs2 hjl;generalize qs[j]'hjl=t at y1 y2 y3 y4 HSJ HTJ HBJ;obtain ⟨tb,tv,tn,ta⟩:=t;simp only [] at y1 y2 y3 y4;have z2:=HSJ.out.1;have z3:=HSJ.out.2;simp only [] at z2 z3;have h0j:(0:Int)≤(j:Int):=by omega
         have h1j:(j:Int)<(n4:Int):=by omega
         have HTK:Hid (tszB ⟨tb,tv,tn,ta⟩=(decide (tb.size≤16)&&decide (ta.size≤16))):=rfl;generalize tszB ⟨tb,tv,tn,ta⟩=tk at HTJ HBJ HTK;by_cases q1:tb.size≤16
         ·have d1:decide ((16:Int)<(tb.size:Int))=false:=dzF q1;by_cases q2:ta.size≤16
          ·have d2:decide ((16:Int)<(ta.size:Int))=false:=dzF q2;have HX:Hid ((qs.take (j+1)).all tszB=true):=by rw [Hid,HTJ.out,HJ.out,HTK.out,decide_eq_true q1,decide_eq_true q2];rfl
           clear q1 q2;go_wp2;go_roundw
           case rel=>exact ⟨j+1,by omega,by go_num,HX,ba hbs _⟩
           case measure=>simp [intOf];omega
          ·have d2:decide ((16:Int)<(ta.size:Int))=true:=dzT q2;have HF:Hid (fewB S=false):=HBJ.out (by rw [HTK.out,decide_eq_false q2,Bool.and_false]);clear q1 q2;go_wp2;go_ret
           exact ⟨by rw [HRES.out,HF.out];rfl,ba hBW _⟩
         ·have d1:decide ((16:Int)<(tb.size:Int))=true:=dzT q1;have HF:Hid (fewB S=false):=HBJ.out (by rw [HTK.out,decide_eq_false q1];rfl);clear q1;go_wp2;go_ret
          exact ⟨by rw [HRES.out,HF.out];rfl,ba hBW _⟩
        ·have HE4:Hid (qs.all tszB=true):=all_end tszB qs j (by rw [←HN4.out];omega) HJ.out;have HX:Hid ((S.eqs.take (k+1)).all eszB=true):=by rw [Hid,HT.out,HA.out,HQ.out,HY.out,HV9.out,HE4.out];rfl
         go_wp2;go_roundw
         case rel=>exact ⟨k+1,by omega,by go_num,HX,bt hbr hbs⟩
         case measure=>simp [intOf];omega
      ·have HE:Hid (S.eqs.all eszB=true):=all_end eszB S.eqs k (by rw [←HN3.out];omega) HA.out;have HF:Hid (fewB S=true):=by unfold Hid fewB;rw [HL1.out,HL2.out,HL3.out,HG.out,HV.out,HE.out];rfl
       go_wp2;go_ret
       exact ⟨by rw [HRES.out,HF.out];rfl,hBW⟩
end
section
/- A row's last step. -/
open Go.RowKit Go.WideShapes Go.ChangeShapes Go.ChangeAt Go.Joins Go.Deep
open Go.ChangeMaps (open_string shut_string)
section
variable {H:Type} {enc:TypeId × Value→H} {P:Program}
theorem post_of_below {f:Func} {s:ChangeSpec} {apart fresh handsOn again:Bool} {W W':World} {args:Array Value} {v:Value} {ds gs:List (DataW H)} {before pa pv:List MemPlace}
  (hW:DataW.Whole enc P f.params.toList s.vars apart W args.toList ds gs before)
  (hres:∀(b:Nat) (sp:Nat→Bool) (hd:Bool),DataW.TrodAll enc P W' b sp hd f.resultTypes.toList (v.resultList f.resultTypes.size) (s.fn H (ds++gs)).results [])
  (hargs:∀sp:Nat→Bool,(∀p∈before,sp p.block=true)→DataW.TrodAll enc P W' 0 sp true f.params.toList args.toList (s.fn H (ds++gs)).args pa)
  (hvars:∀sp:Nat→Bool,(∀p∈before,sp p.block=true)→DataW.TrodVars enc P W' sp s.vars (s.fn H (ds++gs)).vars pv)
  (hps:before=pa++pv) (hb:Below W.heap.size W W')
  (hok:∀(j:Nat) (t:TypeId) (r:Value),f.resultTypes[j]?=some t→(v.resultList f.resultTypes.size)[j]?=some r→Value.okWide P W' .any 0 t r) :
  s.post enc P f apart fresh handsOn again W args v W':=by
 have hlt:∀p∈before,p.block<W.heap.size:=fun p hp=>hW.lt p hp
 have hold:∀p∈before,(fun b=>decide (b<W.heap.size)) p.block=true:=fun p hp=>by simpa using hlt p hp
 refine ⟨ds,gs,before,[],pa,pv,hW,hres _ _ _,hargs _ hold,hvars _ hold,World.keptBut_mono (fun p hp=>⟨hp,?_⟩) (hb.frame (·∈before)),fun _=>?_⟩
 ·rw [hps,List.mem_append] at hp;exact Or.inr hp
 ·obtain ⟨_,_,_,_,_,hz,hn⟩:=hW;refine ⟨hok,_,_,([]++pa)++pv,⟨[]++pa,pv,trodAll_append (hargs _ (fun _ _=>rfl)) (hres _ _ _),hvars _ (fun _ _=>rfl),rfl,?_,?_⟩,?_⟩
  ·intro b off hp;have hin:MemPlace.cell b off∈before:=by rw [hps];simpa using hp
   rw [hb.frozen (hlt _ hin)];exact hz b off hin
  ·intro ha;have:=hn ha;rw [hps] at this;simpa using this
  ·intro p hp _;rw [hps];simpa using hp
end
theorem own_knob:ownKnob Tryz.prog.godebug=none:=by kernel_rfl
end
section
/- A rule and a statement as arguments: opened into what their slices read. -/
open Go.RowKit Go.WideShapes Go.ChangeShapes Go.ChangeAt Go.Joins Go.Deep
open Go.ChangeMaps (open_string shut_string)
theorem laid_out:laidOutB Tryz.prog=true:=by kernel_rfl
theorem list1 {α:Type} {l:List α} (h:l.length=1):∃a,l=[a]:=by
 match l,h with
 | [a],_=>exact ⟨a,rfl⟩
theorem list2 {α:Type} {l:List α} (h:l.length=2):∃a b,l=[a,b]:=by
 match l,h with
 | [a,b],_=>exact ⟨a,b,rfl⟩
theorem list3 {α:Type} {l:List α} (h:l.length=3):∃a b c,l=[a,b,c]:=by
 match l,h with
 | [a,b,c],_=>exact ⟨a,b,c,rfl⟩
theorem list4 {α:Type} {l:List α} (h:l.length=4):∃a b c d,l=[a,b,c,d]:=by
 match l,h with
 | [a,b,c,d],_=>exact ⟨a,b,c,d,rfl⟩
theorem array2 {α:Type} {l:Array α} (h:l.size=2):∃a b,l=#[a,b]:=by
 obtain ⟨l⟩:=l;match l,h with
 | [a,b],_=>exact ⟨a,b,rfl⟩
theorem array3 {α:Type} {l:Array α} (h:l.size=3):∃a b c,l=#[a,b,c]:=by
 obtain ⟨l⟩:=l;match l,h with
 | [a,b,c],_=>exact ⟨a,b,c,rfl⟩
theorem zNat:Tryz.prog.cellsOf 22=1:=by kernel_rfl
theorem zVar:Tryz.prog.cellsOf 99=1:=by kernel_rfl
theorem zGrp:Tryz.prog.cellsOf 90=2:=by kernel_rfl
theorem zInt:Tryz.prog.cellsOf 72=2:=by kernel_rfl
theorem zTrm:Tryz.prog.cellsOf 86=4:=by kernel_rfl
theorem zEqn:Tryz.prog.cellsOf 84=3:=by kernel_rfl
theorem zi64:Tryz.prog.cellsOf 3=1:=by kernel_rfl
theorem zB:Tryz.prog.cellsOf 4=1:=by kernel_rfl
theorem zTs:Tryz.prog.cellsOf 82=1:=by kernel_rfl
theorem zGs:Tryz.prog.cellsOf 25=1:=by kernel_rfl
theorem zVs:Tryz.prog.cellsOf 26=1:=by kernel_rfl
theorem zEs:Tryz.prog.cellsOf 27=1:=by kernel_rfl
theorem zNs:Tryz.prog.cellsOf 32=1:=by kernel_rfl
theorem zZs:Tryz.prog.cellsOf 39=1:=by kernel_rfl
theorem zRule:Tryz.prog.cellsOf 24=2:=by kernel_rfl
theorem zSta:Tryz.prog.cellsOf 29=3:=by kernel_rfl
theorem zTape:Tryz.prog.cellsOf 41=3:=by kernel_rfl
theorem zStr:Tryz.prog.cellsOf 9=1:=by kernel_rfl
section
variable {H:Type} {enc:TypeId × Value→H} {w:World} {base:Nat} {held:Bool}
theorem row_of {α:Type} {Q:World→α→List Value→Prop} {Sz:α→Prop} (d:α) {size fuel:Nat} {t e:TypeId} {cs:List Value} {x:DataW H × List MemPlace} (ht:Tryz.prog.underlying t=some (.slice e)) (hc:Tryz.prog.cellsOf e=size) (h0:0<size)
  (h:DataW.trod enc Tryz.prog w base (fun _=>true) held fuel t cs=some x)
  (elem:∀n cs' y,cs'.length=size→DataW.trod enc Tryz.prog w base (fun _=>true) held n e cs'=some y→∃a,Q w a cs'∧Sz a) :
  ∃ao n c l,cs=[.slice ao n c]∧RAt Q size w (.slice ao n c) l∧(∀a∈l,Sz a)∧l.length≤maxLen:=by
 rcases open_slice ht h with ⟨rfl,_⟩ | ⟨a,len,cap,m,n,D,Pl,rfl,hb,hl,hm,hmm,_,hel⟩
 ·exact ⟨none,0,0,[],rfl,⟨none,0,rfl,.inl rfl⟩,by simp,by simp⟩
 ·rw [if_pos rfl] at hmm;subst hmm;rw [hc] at hel;haveI:Inhabited α:=⟨d⟩
  obtain ⟨f,hf⟩:=choose_lt (α:=α) (n:=len) (p:=fun i y=>∃cs',w.cells? base (a.add (i*size)) size=some cs'∧Q w y cs'∧Sz y) (fun i hi=>by
   obtain ⟨cs',h1,h2⟩:=hel i (by omega);obtain ⟨y,hy1,hy2⟩:=elem n cs' _ (World.cells?_some h1).2.1 h2;exact ⟨y,cs',h1,hy1,hy2⟩)
  have hlen:((List.range len).map f).length=len:=by simp
  refine ⟨some a,len,m,(List.range len).map f,rfl,⟨some a,m,by rw [hlen],?_⟩,fun y hy=>?_,by rw [hlen];omega⟩
  ·by_cases hl0:len=0
   ·exact .inl (by rw [hlen];exact hl0)
   ·obtain ⟨b,off,spot⟩:=a;obtain ⟨cs0,g1,_⟩:=hf 0 (by omega);obtain ⟨_,g2,g3⟩:=World.cells?_some g1;have g4:=g3 0 h0;have g5:0<cs0.length:=by omega
    rw [List.getElem?_eq_getElem g5] at g4;have hspot:spot=none:=by simpa [Addr.add] using World.cell?_spot g4
    subst hspot;refine .inr ⟨b,off,rfl,?_,fun j hj=>?_⟩
    ·rw [add_plain,add_plain] at g4;apply Classical.byContradiction
     intro hge;have hnone:w.heap[b]?=none:=by simpa using hge
     simp [World.cell?,hnone] at g4
    ·obtain ⟨cs',k1,k2,_⟩:=hf j (by rw [←hlen];exact hj);refine ⟨cs',by simpa using k2,fun i hi=>?_⟩;have:=(World.cells?_some k1).2.2 i hi;rw [add_plain,add_plain] at this;exact this
  ·obtain ⟨j,hj,rfl⟩:=List.mem_map.1 hy;obtain ⟨cs',_,_,hz⟩:=hf j (List.mem_range.1 hj);exact hz
def szT (t:Trm):Prop:=t.base.size≤maxLen∧t.abs.size≤maxLen
def szQ (q:Eqn):Prop:=q.tgt.size≤maxLen∧q.trms.length≤maxLen∧∀t∈q.trms,szT t
theorem el_nat {n:Nat} {cs:List Value} {y:DataW H × List MemPlace} (hl:cs.length=1) (h:DataW.trod enc Tryz.prog w base (fun _=>true) held n 22 cs=some y):∃a,QStr w a cs∧a.size≤maxLen:=by
 obtain ⟨s,rfl,_,hs⟩:=DataW.trod_string Tryz.underlying22 h;exact ⟨s,rfl,hs⟩
theorem el_var {n:Nat} {cs:List Value} {y:DataW H × List MemPlace} (hl:cs.length=1) (h:DataW.trod enc Tryz.prog w base (fun _=>true) held n 99 cs=some y):∃a,QStr w a cs∧a.size≤maxLen:=by
 obtain ⟨c0,rfl⟩:=list1 hl;obtain ⟨y0,m,_,_,h0⟩:=trod_struct1 Tryz.underlying99 h;obtain ⟨s,hs,_,hz⟩:=DataW.trod_string Tryz.underlying22 h0;simp [zNat] at hs;subst hs;exact ⟨s,rfl,hz⟩
theorem el_grp {n:Nat} {cs:List Value} {y:DataW H × List MemPlace} (hl:cs.length=2) (h:DataW.trod enc Tryz.prog w base (fun _=>true) held n 90 cs=some y):∃a,QGrp w a cs∧(a.1.size≤maxLen∧a.2.size≤maxLen):=by
 obtain ⟨c0,c1,rfl⟩:=list2 hl;obtain ⟨y0,y1,m,_,_,h0,h1⟩:=trod_struct2 Tryz.underlying90 h;obtain ⟨s,hs,_,hz⟩:=DataW.trod_string Tryz.underlying22 h0;obtain ⟨s',hs',_,hz'⟩:=DataW.trod_string Tryz.underlying22 h1;simp [zNat] at hs hs';subst hs hs';exact ⟨(s,s'),rfl,hz,hz'⟩
theorem el_int {n:Nat} {cs:List Value} {y:DataW H × List MemPlace} (hl:cs.length=2) (h:DataW.trod enc Tryz.prog w base (fun _=>true) held n 72 cs=some y):∃a,QInt w a cs∧a.2.size≤maxLen:=by
 obtain ⟨c0,c1,rfl⟩:=list2 hl;obtain ⟨y0,y1,m,_,_,h0,h1⟩:=trod_struct2 Tryz.underlying72 h;obtain ⟨s,hs,_⟩:=DataW.trod_bool Tryz.underlying4 h0;obtain ⟨s',hs',_,hz'⟩:=DataW.trod_string Tryz.underlying22 h1;simp [zNat,zB] at hs hs';subst hs hs';exact ⟨(s,s'),rfl,hz'⟩
theorem el_trm {n:Nat} {cs:List Value} {y:DataW H × List MemPlace} (hl:cs.length=4) (h:DataW.trod enc Tryz.prog w base (fun _=>true) held n 86 cs=some y):∃a,QTrm w a cs∧szT a:=by
 obtain ⟨c0,c1,c2,c3,rfl⟩:=list4 hl;obtain ⟨y0,y1,y2,m,_,_,h0,h1,h2⟩:=trod_struct3 Tryz.underlying86 h;obtain ⟨z0,z1,m',_,_,g0,g1⟩:=trod_struct2 Tryz.underlying72 h2;obtain ⟨s,hs,_,hz⟩:=DataW.trod_string Tryz.underlying22 h0;obtain ⟨i,hi,_⟩:=DataW.trod_int Tryz.underlying3 h1;obtain ⟨b,hb,_⟩:=DataW.trod_bool Tryz.underlying4 g0;obtain ⟨s',hs',_,hz'⟩:=DataW.trod_string Tryz.underlying22 g1;simp [zNat,zB,zi64,zInt] at hs hi hb hs';subst hs hi hb hs';exact ⟨⟨s,i,b,s'⟩,rfl,hz,hz'⟩
theorem el_eqn {n:Nat} {cs:List Value} {y:DataW H × List MemPlace} (hl:cs.length=3) (h:DataW.trod enc Tryz.prog w base (fun _=>true) held n 84 cs=some y):∃a,QEqn w a cs∧szQ a:=by
 obtain ⟨c0,c1,c2,rfl⟩:=list3 hl;obtain ⟨y0,y1,y2,m,_,_,h0,h1,h2⟩:=trod_struct3 Tryz.underlying84 h;obtain ⟨i,hi,_⟩:=DataW.trod_int Tryz.underlying3 h0;obtain ⟨s,hs,_,hz⟩:=DataW.trod_string Tryz.underlying22 h1;obtain ⟨ao,k,c,l,hts,hr,hsz,hlen⟩:=row_of (Q:=QTrm) (Sz:=szT) ⟨s,0,false,s⟩ Tryz.underlying82 zTrm (by decide) h2 (fun n cs' y hl h=>el_trm hl h);simp [zNat,zi64,zTs] at hs hi hts;subst hs hi hts;exact ⟨⟨i,s,l⟩,⟨_,rfl,hr⟩,hz,hlen,hsz⟩
theorem open_rule {r:Reach} {b0:Nat} {v:Value} {d:DataW H} {p:List MemPlace} (hv:Value.okWide Tryz.prog w r b0 24 v) (h:DataW.Trod enc Tryz.prog w base (fun _=>true) held 24 v d p) :
  ∃C K:ByteArray,v=.agg #[.string C,.string K]∧C.size≤9223372036854775807∧K.size≤9223372036854775807:=by
 obtain ⟨cs,rfl,hsz⟩:=okWide_struct Tryz.underlying24 hv;obtain ⟨c0,c1,rfl⟩:=array2 (hsz.trans zRule);obtain ⟨fuel,hf⟩:=h;obtain ⟨_,_,m0,_,_,r0,r1⟩:=trod_struct2 Tryz.underlying24 hf;simp only [Value.cells,zNat,List.drop_succ_cons,List.drop_zero,List.take_succ_cons,List.take_zero] at r0 r1;obtain ⟨C,hC,_,sC⟩:=DataW.trod_string Tryz.underlying22 r0;obtain ⟨K,hK,_,sK⟩:=DataW.trod_string Tryz.underlying22 r1;simp only [List.cons.injEq,and_true] at hC hK;subst hC hK;unfold maxLen at sC sK;exact ⟨C,K,rfl,sC,sK⟩
theorem open_sta {r:Reach} {b0:Nat} {v:Value} {d:DataW H} {p:List MemPlace} (hv:Value.okWide Tryz.prog w r b0 29 v) (h:DataW.Trod enc Tryz.prog w base (fun _=>true) held 29 v d p) :
  ∃(S:Sta) (s1 s2 s3:Option Addr) (m1 m2 m3 d1 d2 d3:Nat),v=.agg #[.slice s1 m1 d1,.slice s2 m2 d2,.slice s3 m3 d3]∧SSz S∧StAt w (.slice s1 m1 d1) (.slice s2 m2 d2) (.slice s3 m3 d3) S:=by
 obtain ⟨cs,rfl,hsz⟩:=okWide_struct Tryz.underlying29 hv;obtain ⟨c0,c1,c2,rfl⟩:=array3 (hsz.trans zSta);obtain ⟨fuel,hf⟩:=h;obtain ⟨_,_,_,m1,_,_,t0,t1,t2⟩:=trod_struct3 Tryz.underlying29 hf;simp only [Value.cells,zGs,zVs,zEs,List.drop_succ_cons,List.drop_zero,List.take_succ_cons,List.take_zero] at t0 t1 t2;obtain ⟨g1,g2,g3,G,hG,rG,sG,_⟩:=row_of (Q:=QGrp) (Sz:=fun a=>a.1.size≤maxLen∧a.2.size≤maxLen) (⟨#[]⟩,⟨#[]⟩) Tryz.underlying25 zGrp (by decide) t0 (fun n cs' y hl h=>el_grp hl h);obtain ⟨v1,v2,v3,V,hV,rV,sV,_⟩:=row_of (Q:=QStr) (Sz:=fun a=>a.size≤maxLen) ⟨#[]⟩ Tryz.underlying26 zVar (by decide) t1 (fun n cs' y hl h=>el_var hl h);obtain ⟨q1,q2,q3,Qs,hQ,rQ,sQ,_⟩:=row_of (Q:=QEqn) (Sz:=szQ) ⟨0,⟨#[]⟩,[]⟩ Tryz.underlying27 zEqn (by decide) t2 (fun n cs' y hl h=>el_eqn hl h);simp only [List.cons.injEq,and_true] at hG hV hQ;subst hG hV hQ;unfold maxLen at sG sV;refine ⟨⟨G,V,Qs⟩,_,_,_,_,_,_,_,_,_,rfl,⟨sG,sV,fun x hx=>?_⟩,⟨rG,rV,rQ⟩⟩;have:=sQ x hx;unfold szQ szT maxLen at this;exact this
end
end
section
def laid3:List (String × DataW Unit):=[("math/bits.deBruijn32tab",Rows.laid_math_bits_deBruijn32tab),("math/bits.deBruijn64tab",Rows.laid_math_bits_deBruijn64tab),("internal/strconv.uint64pow10",Rows.laid_internal_strconv_uint64pow10)]
theorem door_met (os:Os) (args:Array Value):laidMetH Tryz.prog laid3 ((World.doorLaid Tryz.prog 24 os).forCall (fun _ _=>0) ⟨#[],args,[]⟩).memory:=
 laidMetH_of_parts3 (fuel:=8) (laidMet_of_run' 8 (by kernel_rfl) (by kernel_rfl)) (by kernel_rfl) (by kernel_rfl)
end
end Go.Proofs.YtcfjcenmcpankaaGreatDoor
