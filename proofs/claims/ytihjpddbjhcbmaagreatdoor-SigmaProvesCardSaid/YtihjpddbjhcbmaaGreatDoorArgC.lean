/- A tape as an argument. -/
import Derived.Test.YtihjpddbjhcbmaaGreatDoorSat1
import Derived.Test.YtihjpddbjhcbmaaGreatDoorLd16
import Derived.Carry
import Derived.ChangeSlices
import Derived.WideKeyArgs
import Derived.Deep.Slices
set_option linter.unusedVariables false
set_option linter.unusedSimpArgs false
set_option maxRecDepth 100000
set_option maxHeartbeats 16000000
namespace Go.Proofs.YtihjpddbjhcbmaaGreatDoor
section
open Go.RowKit Go.Shelf
def tszC (t:Trm):Bool:=decide (t.base.size≤16)&&decide (t.abs.size≤16)
def eszC (q:Eqn):Bool:=decide (q.trms.length≤6)&&decide (q.tgt.size≤16)&&q.trms.all tszC
def fewC (S:Sta):Bool:=decide (S.grps.length≤4)&&decide (S.vars.length≤6)&&decide (S.eqs.length≤6)&&S.grps.all gszB&&S.vars.all vszB&&S.eqs.all eszC
theorem few_C {S:Sta} (h:fewC S=true):fewB S=true:=by
 simp only[fewC,eszC,tszC,Bool.and_eq_true,decide_eq_true_eq,List.all_eq_true]at h;simp only[fewB,eszB,tszB,Bool.and_eq_true,decide_eq_true_eq,List.all_eq_true];obtain⟨⟨⟨⟨⟨h1,h2⟩,h3⟩,h4⟩,h5⟩,h6⟩:=h;refine⟨⟨⟨⟨⟨by omega,by omega⟩,by omega⟩,h4⟩,h5⟩,fun q hq=>?_⟩;obtain⟨⟨a,b⟩,c⟩:=h6 q hq;refine⟨⟨by omega,by omega⟩,fun t ht=>?_⟩;obtain⟨d,e⟩:=c t ht;exact⟨by omega,by omega⟩
structure SSz (S:Sta):Prop where
 g:∀x∈S.grps,x.1.size≤9223372036854775807∧x.2.size≤9223372036854775807
 v:∀x∈S.vars,x.size≤9223372036854775807
 e:∀x∈S.eqs,x.tgt.size≤9223372036854775807∧x.trms.length≤9223372036854775807∧∀t∈x.trms,t.base.size≤9223372036854775807∧t.abs.size≤9223372036854775807
theorem dzT {n k:Nat} (h:¬ n≤k):decide ((k:Int)<(n:Int))=true:=Dt (by omega)
theorem dzF {n k:Nat} (h:n≤k):decide ((k:Int)<(n:Int))=false:=decide_eq_false (by omega)
def ruleB (S:Sta) (C K:ByteArray):Bool:=decide (C.size≤16)&&decide (K.size≤16)&&fewC S
theorem few16_c (S:Sta) (C K:ByteArray) (v1 v2 v3:Value) (w:World) (hC:C.size≤9223372036854775807) (hK:K.size≤9223372036854775807) (hm:SSz S) (hS:StAt w v1 v2 v3 S) :
  Calls Tryz.prog 15 #[.agg #[.string C,.string K],.agg #[v1,v2,v3]] w fun e w'=>e=.returned (.bool (ruleB S C K))∧Bw w w':=by
 obtain⟨r,hr⟩:∃r:Bool,r=ruleB S C K:=⟨_,rfl⟩;have hb:=Kh hr;rw[←hr];clear hr;have HQ:Hid (ruleB S C K=(decide (C.size≤16)&&decide (K.size≤16)&&fewC S)):=rfl;obtain⟨a1,c1,rfl⟩:=hS.g.form;obtain⟨a2,c2,rfl⟩:=hS.v.form;obtain⟨a3,c3,rfl⟩:=hS.e.form;have HM:=Kh hm;obtain⟨n1,hI⟩:∃n,n=S.grps.length:=⟨_,rfl⟩;obtain⟨n2,hJ⟩:∃n,n=S.vars.length:=⟨_,rfl⟩;obtain⟨n3,hL⟩:∃n,n=S.eqs.length:=⟨_,rfl⟩;have hz:=Kh hI;have hA:=Kh hJ;have hB:=Kh hL;rw[←hI,←hJ,←hL]at hS ⊢;clear hm hI hJ hL;obtain⟨hR,hP,hc⟩:=blk2 w #[.string C,.string K] #[.slice a1 n1 c1,.slice a2 n2 c2,.slice a3 n3 c3] 24 29;replace hS:=hS.after hc;by_cases g1:C.size≤16
 rotate_left
 ·have e1:decide ((16:Int)<(C.size:Int))=true:=dzT g1;have HF:Hid (r=false):=by rw[Hid,hb.out,HQ.out];rw[decide_eq_false g1];rfl
  clear g1;obtain⟨hp,hq,ht,hu⟩:=hR.x2;obtain⟨he,hf,hg,hh,hi,hl⟩:=hP.x3;go_enter Tryz.func15,Tryz.ntmps15
  go_wp2;go_ret
  exact⟨by rw[HF.out];rfl,hc⟩
 have e1:decide ((16:Int)<(C.size:Int))=false:=dzF g1;by_cases g2:K.size≤16
 rotate_left
 ·have e2:decide ((16:Int)<(K.size:Int))=true:=dzT g2;have HF:Hid (r=false):=by rw[Hid,hb.out,HQ.out];rw[decide_eq_false g2,Bool.and_false];rfl
  clear g1 g2;obtain⟨hp,hq,ht,hu⟩:=hR.x2;obtain⟨he,hf,hg,hh,hi,hl⟩:=hP.x3;go_enter Tryz.func15,Tryz.ntmps15
  go_wp2;go_ret
  exact⟨by rw[HF.out];rfl,hc⟩
 have e2:decide ((16:Int)<(K.size:Int))=false:=dzF g2;by_cases g3:n1≤4
 rotate_left
 ·have e3:decide ((4:Int)<(n1:Int))=true:=dzT g3;have HF:Hid (r=false):=by rw[Hid,hb.out,HQ.out];unfold fewC;rw[←hz.out,decide_eq_false g3];simp
  clear g1 g2 g3;obtain⟨hp,hq,ht,hu⟩:=hR.x2;obtain⟨he,hf,hg,hh,hi,hl⟩:=hP.x3;go_enter Tryz.func15,Tryz.ntmps15
  go_wp2;go_ret
  exact⟨by rw[HF.out];rfl,hc⟩
 have e3:decide ((4:Int)<(n1:Int))=false:=dzF g3;by_cases g4:n2≤6
 rotate_left
 ·have e4:decide ((6:Int)<(n2:Int))=true:=dzT g4;have HF:Hid (r=false):=by rw[Hid,hb.out,HQ.out];unfold fewC;rw[←hA.out,decide_eq_false g4];simp
  clear g1 g2 g3 g4;obtain⟨hp,hq,ht,hu⟩:=hR.x2;obtain⟨he,hf,hg,hh,hi,hl⟩:=hP.x3;go_enter Tryz.func15,Tryz.ntmps15
  go_wp2;go_ret
  exact⟨by rw[HF.out];rfl,hc⟩
 have e4:decide ((6:Int)<(n2:Int))=false:=dzF g4;by_cases g5:n3≤6
 rotate_left
 ·have e5:decide ((6:Int)<(n3:Int))=true:=dzT g5;have HF:Hid (r=false):=by rw[Hid,hb.out,HQ.out];unfold fewC;rw[←hB.out,decide_eq_false g5];simp
  clear g1 g2 g3 g4 g5;obtain⟨hp,hq,ht,hu⟩:=hR.x2;obtain⟨he,hf,hg,hh,hi,hl⟩:=hP.x3;go_enter Tryz.func15,Tryz.ntmps15
  go_wp2;go_ret
  exact⟨by rw[HF.out];rfl,hc⟩
 have e5:decide ((6:Int)<(n3:Int))=false:=dzF g5;have hX:Hid (decide (S.grps.length≤4)=true):=Dt (by have:=hz.out;omega);have hY:Hid (decide (S.vars.length≤6)=true):=Dt (by have:=hA.out;omega);have hZ:Hid (decide (S.eqs.length≤6)=true):=Dt (by have:=hB.out;omega);have hU:Hid (r=fewC S):=by rw[Hid,hb.out,HQ.out,Dt g1,Dt g2];rfl
 clear hb HQ;have hb:=hU;clear hU;obtain⟨hp,hq,ht,hu⟩:=hR.x2;obtain⟨he,hf,hg,hh,hi,hl⟩:=hP.x3;go_enter Tryz.func15,Tryz.ntmps15
 go_wp2;clear hp hq ht hu;clear he hf hg hh hi hl;clear e1 e2 e3 e4 e5 g1 g2 hR;generalize (w.alloc (.cells #[.string C,.string K] 24)).alloc (.cells #[.slice a1 n1 c1,.slice a2 n2 c2,.slice a3 n3 c3] 29)=w1 at hP hc hS ⊢;go_loopw [44] (fun i wr=>∃k:Nat,k≤n1∧i=.int .i64 k∧Hid ((S.grps.take k).all gszB=true)∧Bw w1 wr) (fun i _=>n1-(intOf i).toNat)
 case atStart=>exact⟨0,by omega,rfl,rfl,Br⟩
 case round =>
  obtain⟨k,hk,rfl,HA,ho⟩:=hrel;obtain⟨wp,h0⟩:∃wp,wp=wr:=⟨_,rfl⟩;subst h0;replace hS:=hS.after ho;replace hP:=hP.after ho;replace hc:=bt hc ho;by_cases hlt:k<n1
  ·have hn:k<S.grps.length:=by rw[←hz.out];exact hlt
   have hw:=Kh (HM.out.g _ (Gm hn));have HT:=Kh (all_take gszB S.grps k hn);have hd:Hid (gszB S.grps[k]=false→fewC S=false):=fun h=>by unfold fewC;rw[all_bad gszB S.grps k hn h];simp
   obtain⟨b,o,rfl,hM,x1,x2⟩:=hS.g.at_ hn;have HG:Hid (gszB S.grps[k]=(decide (S.grps[k].1.size≤8)&&decide (S.grps[k].2.size≤8))):=rfl;generalize gszB (S.grps[k]'hn)=gk at HT hd HG;generalize (S.grps[k]'hn).1=s1 at x1 hw HG;generalize (S.grps[k]'hn).2=s2 at x2 hw HG;have z1:=hw.out.1;have z2:=hw.out.2;have hV:(0:Int)≤(k:Int):=by omega
   have hW:(k:Int)<(n1:Int):=by omega
   by_cases q1:s1.size≤8
   ·have d1:decide ((8:Int)<(s1.size:Int))=false:=dzF q1;by_cases q2:s2.size≤8
    ·have d2:decide ((8:Int)<(s2.size:Int))=false:=dzF q2;have HX:Hid ((S.grps.take (k+1)).all gszB=true):=by rw[Hid,HT.out,HA.out,HG.out,Dt q1,Dt q2];rfl
     clear q1 q2;go_wp2;go_roundw
     case rel=>exact⟨k+1,by omega,by go_num,HX,ba ho _⟩
     case measure=>simp[intOf];omega
    ·have d2:decide ((8:Int)<(s2.size:Int))=true:=dzT q2;have HF:Hid (fewC S=false):=hd.out (by rw[HG.out,decide_eq_false q2,Bool.and_false]);clear q1 q2;go_wp2;go_ret
     exact⟨by rw[hb.out,HF.out];rfl,ba hc _⟩
   ·have d1:decide ((8:Int)<(s1.size:Int))=true:=dzT q1;have HF:Hid (fewC S=false):=hd.out (by rw[HG.out,decide_eq_false q1];rfl);clear q1;go_wp2;go_ret
    exact⟨by rw[hb.out,HF.out];rfl,ba hc _⟩
  ·have HG:Hid (S.grps.all gszB=true):=all_end gszB S.grps k (by rw[←hz.out];omega) HA.out;clear ho;obtain⟨he,hf,hg,hh,hi,hl⟩:=hP.x3;go_wp2;clear he hf hg hh hi hl;clear HA hlt hk;go_loopw [62] (fun i wr=>∃k:Nat,k≤n2∧i=.int .i64 k∧Hid ((S.vars.take k).all vszB=true)∧Bw wp wr) (fun i _=>n2-(intOf i).toNat)
   case atStart=>exact⟨0,by omega,rfl,rfl,Br⟩
   case round =>
    obtain⟨k,hk,rfl,HA,ho⟩:=hrel;obtain⟨wq,h1⟩:∃wq,wq=wr:=⟨_,rfl⟩;subst h1;replace hS:=hS.after ho;replace hP:=hP.after ho;replace hc:=bt hc ho;by_cases hlt:k<n2
    ·have hn:k<S.vars.length:=by rw[←hA.out];exact hlt
     have h2:=HM.out.v _ (Gm hn);have HT:=Kh (all_take vszB S.vars k hn);have hd:Hid (vszB S.vars[k]=false→fewC S=false):=fun h=>by unfold fewC;rw[all_bad vszB S.vars k hn h];simp
     have HQ:Hid (vszB S.vars[k]=decide (S.vars[k].size≤16)):=rfl;obtain⟨b,o,rfl,hM,x1⟩:=hS.v.at_ hn;generalize vszB (S.vars[k]'hn)=vk at HT hd HQ;generalize S.vars[k]'hn=s1 at x1 h2 HQ;have hV:(0:Int)≤(k:Int):=by omega
     have hW:(k:Int)<(n2:Int):=by omega
     by_cases q1:s1.size≤16
     ·have d1:decide ((16:Int)<(s1.size:Int))=false:=dzF q1;have HX:Hid ((S.vars.take (k+1)).all vszB=true):=by rw[Hid,HT.out,HA.out,HQ.out,Dt q1];rfl
      clear q1;go_wp2;go_roundw
      case rel=>exact⟨k+1,by omega,by go_num,HX,ba ho _⟩
      case measure=>simp[intOf];omega
     ·have d1:decide ((16:Int)<(s1.size:Int))=true:=dzT q1;have HF:Hid (fewC S=false):=hd.out (by rw[HQ.out,decide_eq_false q1]);clear q1;go_wp2;go_ret
      exact⟨by rw[hb.out,HF.out];rfl,ba hc _⟩
    ·have HV:Hid (S.vars.all vszB=true):=all_end vszB S.vars k (by rw[←hA.out];omega) HA.out;clear ho;obtain⟨he,hf,hg,hh,hi,hl⟩:=hP.x3;go_wp2;clear he hf hg hh hi hl;clear HA hlt hk;go_loopw [74] (fun i wr=>∃k:Nat,k≤n3∧i=.int .i64 k∧Hid ((S.eqs.take k).all eszC=true)∧Bw wq wr) (fun i _=>n3-(intOf i).toNat)
     case atStart=>exact⟨0,by omega,rfl,rfl,Br⟩
     case round =>
      obtain⟨k,hk,rfl,HA,ho⟩:=hrel;obtain⟨wt,h3⟩:∃wt,wt=wr:=⟨_,rfl⟩;subst h3;replace hS:=hS.after ho;replace hc:=bt hc ho;by_cases hlt:k<n3
      ·have hn:k<S.eqs.length:=by rw[←hB.out];exact hlt
       have hw:=Kh (HM.out.e _ (Gm hn));have HT:=Kh (all_take eszC S.eqs k hn);have hd:Hid (eszC S.eqs[k]=false→fewC S=false):=fun h=>by unfold fewC;rw[all_bad eszC S.eqs k hn h];simp
       obtain⟨b,o,tv,rfl,hM,x1,x2,x3,hx⟩:=hS.e.at_ hn;generalize S.eqs[k]'hn=q at x1 x2 x3 hx hw HT hd;obtain⟨qg,qt,qs⟩:=q;simp only[]at x1 x2 x3 hx;obtain⟨to_,tc,rfl⟩:=RAt.form hx;obtain⟨n4,hN⟩:∃n,n=qs.length:=⟨_,rfl⟩;have hD:=Kh hN;rw[←hN]at x3 hx;clear hN;have z1:=hw.out.1;have hV:(0:Int)≤(k:Int):=by omega
       have hW:(k:Int)<(n3:Int):=by omega
       have HQ:Hid (eszC ⟨qg,qt,qs⟩=(decide (qs.length≤6)&&decide (qt.size≤16)&&qs.all tszC)):=rfl;generalize eszC ⟨qg,qt,qs⟩=ek at HT hd HQ;by_cases q1:qt.size≤16
       rotate_left
       ·have d1:decide ((16:Int)<(qt.size:Int))=true:=dzT q1;have HF:Hid (fewC S=false):=hd.out (by rw[HQ.out,decide_eq_false q1,Bool.and_false];rfl);clear q1;go_wp2;go_ret
        exact⟨by rw[hb.out,HF.out];rfl,ba hc _⟩
       have d1:decide ((16:Int)<(qt.size:Int))=false:=dzF q1;by_cases q4:n4≤6
       rotate_left
       ·have d4:decide ((6:Int)<(n4:Int))=true:=dzT q4;have HF:Hid (fewC S=false):=hd.out (by rw[HQ.out,←hD.out,decide_eq_false q4];rfl);clear q1 q4;go_wp2;go_ret
        exact⟨by rw[hb.out,HF.out];rfl,ba hc _⟩
       have d4:decide ((6:Int)<(n4:Int))=false:=dzF q4;have HY:Hid (decide (qs.length≤6)=true):=Dt (by have:=hD.out;omega);have h4:Hid (decide (qt.size≤16)=true):=Dt q1;clear q1;have hE:=b1 wt (.cells #[.int .i64 qg,.string qt,.slice to_ n4 tc] 131);have hv:=TsAt.after hx hE;go_wp2;clear d1 d4 x1 x2 x3 hx hM;generalize wt.alloc (.cells #[.int .i64 qg,.string qt,.slice to_ n4 tc] 131)=wu at hE hv ⊢;replace hc:=bt hc hE;replace ho:=bt ho hE;go_loopw [91] (fun i wr=>∃k:Nat,k≤n4∧i=.int .i64 k∧Hid ((qs.take k).all tszC=true)∧Bw wu wr) (fun i _=>n4-(intOf i).toNat)
       case atStart=>exact⟨0,by omega,rfl,rfl,Br⟩
       case round =>
        obtain⟨j,hj,rfl,HJ,hF⟩:=hrel;obtain⟨wv,h5⟩:∃wv,wv=wr:=⟨_,rfl⟩;subst h5;replace hv:=TsAt.after hv hF;replace hc:=bt hc hF;by_cases hO:j<n4
        ·have hy:j<qs.length:=by rw[←hD.out];exact hO
         have hQ:=Kh (hw.out.2.2 _ (Gm hy));have hT:=Kh (all_take tszC qs j hy);have hG:Hid (tszC qs[j]=false→fewC S=false):=fun h=>hd.out (by rw[HQ.out,all_bad tszC qs j hy h];simp)
         obtain⟨b4,o4,rfl,h6,y1,y2,y3,y4⟩:=TsAt.at_ hv hy;generalize qs[j]'hy=t at y1 y2 y3 y4 hQ hT hG;obtain⟨tb,tv,tn,ta⟩:=t;simp only[]at y1 y2 y3 y4;have z2:=hQ.out.1;have z3:=hQ.out.2;simp only[]at z2 z3;have h8:(0:Int)≤(j:Int):=by omega
         have h9:(j:Int)<(n4:Int):=by omega
         have hH:Hid (tszC ⟨tb,tv,tn,ta⟩=(decide (tb.size≤16)&&decide (ta.size≤16))):=rfl;generalize tszC ⟨tb,tv,tn,ta⟩=tk at hT hG hH;by_cases q1:tb.size≤16
         ·have d1:decide ((16:Int)<(tb.size:Int))=false:=dzF q1;by_cases q2:ta.size≤16
          ·have d2:decide ((16:Int)<(ta.size:Int))=false:=dzF q2;have HX:Hid ((qs.take (j+1)).all tszC=true):=by rw[Hid,hT.out,HJ.out,hH.out,Dt q1,Dt q2];rfl
           clear q1 q2;go_wp2;go_roundw
           case rel=>exact⟨j+1,by omega,by go_num,HX,ba hF _⟩
           case measure=>simp[intOf];omega
          ·have d2:decide ((16:Int)<(ta.size:Int))=true:=dzT q2;have HF:Hid (fewC S=false):=hG.out (by rw[hH.out,decide_eq_false q2,Bool.and_false]);clear q1 q2;go_wp2;go_ret
           exact⟨by rw[hb.out,HF.out];rfl,ba hc _⟩
         ·have d1:decide ((16:Int)<(tb.size:Int))=true:=dzT q1;have HF:Hid (fewC S=false):=hG.out (by rw[hH.out,decide_eq_false q1];rfl);clear q1;go_wp2;go_ret
          exact⟨by rw[hb.out,HF.out];rfl,ba hc _⟩
        ·have h7:Hid (qs.all tszC=true):=all_end tszC qs j (by rw[←hD.out];omega) HJ.out;have HX:Hid ((S.eqs.take (k+1)).all eszC=true):=by rw[Hid,HT.out,HA.out,HQ.out,HY.out,h4.out,h7.out];rfl
         go_wp2;go_roundw
         case rel=>exact⟨k+1,by omega,by go_num,HX,bt ho hF⟩
         case measure=>simp[intOf];omega
      ·have HE:Hid (S.eqs.all eszC=true):=all_end eszC S.eqs k (by rw[←hB.out];omega) HA.out;have HF:Hid (fewC S=true):=by unfold Hid fewC;rw[hX.out,hY.out,hZ.out,HG.out,HV.out,HE.out];rfl
       go_wp2;go_ret
       exact⟨by rw[hb.out,HF.out];rfl,hc⟩
end
section
/- A rule and a statement as arguments: opened into what their slices read. -/
open Go.RowKit Go.WideShapes Go.ChangeShapes Go.ChangeAt Go.Joins Go.Deep
open Go.ChangeMaps (open_string shut_string)
theorem laid_out:laidOutB Tryz.prog=true:=by kernel_rfl
theorem list1 {α:Type} {l:List α} (h:l.length=1):∃a,l=[a]:=by
 match l,h with
 | [a],_=>exact⟨a,rfl⟩
theorem list2 {α:Type} {l:List α} (h:l.length=2):∃a b,l=[a,b]:=by
 match l,h with
 | [a,b],_=>exact⟨a,b,rfl⟩
theorem list3 {α:Type} {l:List α} (h:l.length=3):∃a b c,l=[a,b,c]:=by
 match l,h with
 | [a,b,c],_=>exact⟨a,b,c,rfl⟩
theorem list4 {α:Type} {l:List α} (h:l.length=4):∃a b c d,l=[a,b,c,d]:=by
 match l,h with
 | [a,b,c,d],_=>exact⟨a,b,c,d,rfl⟩
theorem array2 {α:Type} {l:Array α} (h:l.size=2):∃a b,l=#[a,b]:=by
 obtain⟨l⟩:=l;match l,h with
 | [a,b],_=>exact⟨a,b,rfl⟩
theorem array3 {α:Type} {l:Array α} (h:l.size=3):∃a b c,l=#[a,b,c]:=by
 obtain⟨l⟩:=l;match l,h with
 | [a,b,c],_=>exact⟨a,b,c,rfl⟩
theorem zNat:Tryz.prog.cellsOf 22=1:=by kernel_rfl
theorem zVar:Tryz.prog.cellsOf 71=1:=by kernel_rfl
theorem zGrp:Tryz.prog.cellsOf 86=2:=by kernel_rfl
theorem zInt:Tryz.prog.cellsOf 74=2:=by kernel_rfl
theorem zTrm:Tryz.prog.cellsOf 133=4:=by kernel_rfl
theorem zEqn:Tryz.prog.cellsOf 131=3:=by kernel_rfl
theorem zi64:Tryz.prog.cellsOf 3=1:=by kernel_rfl
theorem zB:Tryz.prog.cellsOf 4=1:=by kernel_rfl
theorem zTs:Tryz.prog.cellsOf 129=1:=by kernel_rfl
theorem zGs:Tryz.prog.cellsOf 25=1:=by kernel_rfl
theorem zVs:Tryz.prog.cellsOf 26=1:=by kernel_rfl
theorem zEs:Tryz.prog.cellsOf 27=1:=by kernel_rfl
theorem zNs:Tryz.prog.cellsOf 31=1:=by kernel_rfl
theorem zZs:Tryz.prog.cellsOf 30=1:=by kernel_rfl
theorem zRule:Tryz.prog.cellsOf 24=2:=by kernel_rfl
theorem zSta:Tryz.prog.cellsOf 29=3:=by kernel_rfl
theorem zTape:Tryz.prog.cellsOf 33=3:=by kernel_rfl
theorem zStr:Tryz.prog.cellsOf 9=1:=by kernel_rfl
section
variable {H:Type} {enc:TypeId × Value→H} {w:World} {base:Nat} {held:Bool}
theorem row_of {α:Type} {Q:World→α→List Value→Prop} {Sz:α→Prop} (d:α) {size fuel:Nat} {t e:TypeId} {cs:List Value} {x:DataW H × List MemPlace} (ht:Tryz.prog.underlying t=some (.slice e)) (hc:Tryz.prog.cellsOf e=size) (h0:0<size)
  (h:DataW.trod enc Tryz.prog w base (fun _=>true) held fuel t cs=some x)
  (elem:∀n cs' y,cs'.length=size→DataW.trod enc Tryz.prog w base (fun _=>true) held n e cs'=some y→∃a,Q w a cs'∧Sz a) :
  ∃ao n c l,cs=[.slice ao n c]∧RAt Q size w (.slice ao n c) l∧(∀a∈l,Sz a)∧l.length≤maxLen:=by
 rcases open_slice ht h with⟨rfl,_⟩ | ⟨a,len,cap,m,n,D,Pl,rfl,hb,hl,hm,hh,_,hk⟩
 ·exact⟨none,0,0,[],rfl,⟨none,0,rfl,.inl rfl⟩,by simp,by simp⟩
 ·rw[if_pos rfl]at hh;subst hh;rw[hc]at hk;haveI:Inhabited α:=⟨d⟩
  obtain⟨f,hf⟩:=choose_lt (α:=α) (n:=len) (p:=fun i y=>∃cs',w.cells? base (a.add (i*size)) size=some cs'∧Q w y cs'∧Sz y) (fun i hi=>by
   obtain⟨cs',h1,h2⟩:=hk i (by omega);obtain⟨y,hy1,hn⟩:=elem n cs' _ (World.cells?_some h1).2.1 h2;exact⟨y,cs',h1,hy1,hn⟩)
  have hd:((List.range len).map f).length=len:=by simp
  refine⟨some a,len,m,(List.range len).map f,rfl,⟨some a,m,by rw[hd],?_⟩,fun y hy=>?_,by rw[hd];omega⟩
  ·by_cases ho:len=0
   ·exact .inl (by rw[hd];exact ho)
   ·obtain⟨b,off,spot⟩:=a;obtain⟨cs0,g1,_⟩:=hf 0 (by omega);obtain⟨_,g2,g3⟩:=World.cells?_some g1;have g4:=g3 0 h0;have g5:0<cs0.length:=by omega
    rw[List.getElem?_eq_getElem g5]at g4;have he:spot=none:=by simpa [Addr.add] using World.cell?_spot g4
    subst he;refine .inr ⟨b,off,rfl,?_,fun j hj=>?_⟩
    ·rw[add_plain,add_plain]at g4;apply Classical.byContradiction
     intro hp;have hg:w.heap[b]?=none:=by simpa using hp
     simp[World.cell?,hg]at g4
    ·obtain⟨cs',k1,k2,_⟩:=hf j (by rw[←hd];exact hj);refine⟨cs',by simpa using k2,fun i hi=>?_⟩;have:=(World.cells?_some k1).2.2 i hi;rw[add_plain,add_plain]at this;exact this
  ·obtain⟨j,hj,rfl⟩:=List.mem_map.1 hy;obtain⟨cs',_,_,hz⟩:=hf j (List.mem_range.1 hj);exact hz
def szT (t:Trm):Prop:=t.base.size≤maxLen∧t.abs.size≤maxLen
def szQ (q:Eqn):Prop:=q.tgt.size≤maxLen∧q.trms.length≤maxLen∧∀t∈q.trms,szT t
theorem el_nat {n:Nat} {cs:List Value} {y:DataW H × List MemPlace} (hl:cs.length=1) (h:DataW.trod enc Tryz.prog w base (fun _=>true) held n 22 cs=some y):∃a,QStr w a cs∧a.size≤maxLen:=by
 obtain⟨s,rfl,_,hs⟩:=DataW.trod_string Tryz.underlying22 h;exact⟨s,rfl,hs⟩
theorem el_var {n:Nat} {cs:List Value} {y:DataW H × List MemPlace} (hl:cs.length=1) (h:DataW.trod enc Tryz.prog w base (fun _=>true) held n 71 cs=some y):∃a,QStr w a cs∧a.size≤maxLen:=by
 obtain⟨c0,rfl⟩:=list1 hl;obtain⟨y0,m,_,_,h0⟩:=trod_struct1 Tryz.underlying71 h;obtain⟨s,hs,_,hz⟩:=DataW.trod_string Tryz.underlying22 h0;simp[zNat]at hs;subst hs;exact⟨s,rfl,hz⟩
theorem el_grp {n:Nat} {cs:List Value} {y:DataW H × List MemPlace} (hl:cs.length=2) (h:DataW.trod enc Tryz.prog w base (fun _=>true) held n 86 cs=some y):∃a,QGrp w a cs∧(a.1.size≤maxLen∧a.2.size≤maxLen):=by
 obtain⟨c0,c1,rfl⟩:=list2 hl;obtain⟨y0,y1,m,_,_,h0,h1⟩:=trod_struct2 Tryz.underlying86 h;obtain⟨s,hs,_,hz⟩:=DataW.trod_string Tryz.underlying22 h0;obtain⟨s',hb,_,hc⟩:=DataW.trod_string Tryz.underlying22 h1;simp[zNat]at hs hb;subst hs hb;exact⟨(s,s'),rfl,hz,hc⟩
theorem el_int {n:Nat} {cs:List Value} {y:DataW H × List MemPlace} (hl:cs.length=2) (h:DataW.trod enc Tryz.prog w base (fun _=>true) held n 74 cs=some y):∃a,QInt w a cs∧a.2.size≤maxLen:=by
 obtain⟨c0,c1,rfl⟩:=list2 hl;obtain⟨y0,y1,m,_,_,h0,h1⟩:=trod_struct2 Tryz.underlying74 h;obtain⟨s,hs,_⟩:=DataW.trod_bool Tryz.underlying4 h0;obtain⟨s',hb,_,hc⟩:=DataW.trod_string Tryz.underlying22 h1;simp[zNat,zB]at hs hb;subst hs hb;exact⟨(s,s'),rfl,hc⟩
theorem el_trm {n:Nat} {cs:List Value} {y:DataW H × List MemPlace} (hl:cs.length=4) (h:DataW.trod enc Tryz.prog w base (fun _=>true) held n 133 cs=some y):∃a,QTrm w a cs∧szT a:=by
 obtain⟨c0,c1,c2,c3,rfl⟩:=list4 hl;obtain⟨y0,y1,y2,m,_,_,h0,h1,h2⟩:=trod_struct3 Tryz.underlying133 h;obtain⟨z0,z1,m',_,_,g0,g1⟩:=trod_struct2 Tryz.underlying74 h2;obtain⟨s,hs,_,hz⟩:=DataW.trod_string Tryz.underlying22 h0;obtain⟨i,hi,_⟩:=DataW.trod_int Tryz.underlying3 h1;obtain⟨b,hb,_⟩:=DataW.trod_bool Tryz.underlying4 g0;obtain⟨s',hc,_,hd⟩:=DataW.trod_string Tryz.underlying22 g1;simp[zNat,zB,zi64,zInt]at hs hi hb hc;subst hs hi hb hc;exact⟨⟨s,i,b,s'⟩,rfl,hz,hd⟩
theorem el_eqn {n:Nat} {cs:List Value} {y:DataW H × List MemPlace} (hl:cs.length=3) (h:DataW.trod enc Tryz.prog w base (fun _=>true) held n 131 cs=some y):∃a,QEqn w a cs∧szQ a:=by
 obtain⟨c0,c1,c2,rfl⟩:=list3 hl;obtain⟨y0,y1,y2,m,_,_,h0,h1,h2⟩:=trod_struct3 Tryz.underlying131 h;obtain⟨i,hi,_⟩:=DataW.trod_int Tryz.underlying3 h0;obtain⟨s,hs,_,hz⟩:=DataW.trod_string Tryz.underlying22 h1;obtain⟨ao,k,c,l,hc,hr,hd,hb⟩:=row_of (Q:=QTrm) (Sz:=szT) ⟨s,0,false,s⟩ Tryz.underlying129 zTrm (by decide) h2 (fun n cs' y hl h=>el_trm hl h);simp[zNat,zi64,zTs]at hs hi hc;subst hs hi hc;exact⟨⟨i,s,l⟩,⟨_,rfl,hr⟩,hz,hb,hd⟩
theorem open_rule {r:Reach} {b0:Nat} {v:Value} {d:DataW H} {p:List MemPlace} (hv:Value.okWide Tryz.prog w r b0 24 v) (h:DataW.Trod enc Tryz.prog w base (fun _=>true) held 24 v d p) :
  ∃C K:ByteArray,v=.agg #[.string C,.string K]∧C.size≤9223372036854775807∧K.size≤9223372036854775807:=by
 obtain⟨cs,rfl,hb⟩:=okWide_struct Tryz.underlying24 hv;obtain⟨c0,c1,rfl⟩:=array2 (hb.trans zRule);obtain⟨fuel,hf⟩:=h;obtain⟨_,_,m0,_,_,r0,r1⟩:=trod_struct2 Tryz.underlying24 hf;simp only[Value.cells,zNat,List.drop_succ_cons,List.drop_zero,List.take_succ_cons,List.take_zero]at r0 r1;obtain⟨C,hC,_,sC⟩:=DataW.trod_string Tryz.underlying22 r0;obtain⟨K,hK,_,sK⟩:=DataW.trod_string Tryz.underlying22 r1;simp only[List.cons.injEq,and_true]at hC hK;subst hC hK;unfold maxLen at sC sK;exact⟨C,K,rfl,sC,sK⟩
theorem open_sta {r:Reach} {b0:Nat} {v:Value} {d:DataW H} {p:List MemPlace} (hv:Value.okWide Tryz.prog w r b0 29 v) (h:DataW.Trod enc Tryz.prog w base (fun _=>true) held 29 v d p) :
  ∃(S:Sta) (s1 s2 s3:Option Addr) (m1 m2 m3 d1 d2 d3:Nat),v=.agg #[.slice s1 m1 d1,.slice s2 m2 d2,.slice s3 m3 d3]∧SSz S∧StAt w (.slice s1 m1 d1) (.slice s2 m2 d2) (.slice s3 m3 d3) S:=by
 obtain⟨cs,rfl,hb⟩:=okWide_struct Tryz.underlying29 hv;obtain⟨c0,c1,c2,rfl⟩:=array3 (hb.trans zSta);obtain⟨fuel,hf⟩:=h;obtain⟨_,_,_,m1,_,_,t0,t1,t2⟩:=trod_struct3 Tryz.underlying29 hf;simp only[Value.cells,zGs,zVs,zEs,List.drop_succ_cons,List.drop_zero,List.take_succ_cons,List.take_zero]at t0 t1 t2;obtain⟨g1,g2,g3,G,hG,rG,sG,_⟩:=row_of (Q:=QGrp) (Sz:=fun a=>a.1.size≤maxLen∧a.2.size≤maxLen) (⟨#[]⟩,⟨#[]⟩) Tryz.underlying25 zGrp (by decide) t0 (fun n cs' y hl h=>el_grp hl h);obtain⟨v1,v2,v3,V,hV,rV,sV,_⟩:=row_of (Q:=QStr) (Sz:=fun a=>a.size≤maxLen) ⟨#[]⟩ Tryz.underlying26 zVar (by decide) t1 (fun n cs' y hl h=>el_var hl h);obtain⟨q1,q2,q3,Qs,hQ,rQ,sQ,_⟩:=row_of (Q:=QEqn) (Sz:=szQ) ⟨0,⟨#[]⟩,[]⟩ Tryz.underlying27 zEqn (by decide) t2 (fun n cs' y hl h=>el_eqn hl h);simp only[List.cons.injEq,and_true]at hG hV hQ;subst hG hV hQ;unfold maxLen at sG sV;refine⟨⟨G,V,Qs⟩,_,_,_,_,_,_,_,_,_,rfl,⟨sG,sV,fun x hx=>?_⟩,⟨rG,rV,rQ⟩⟩;have:=sQ x hx;unfold szQ szT maxLen at this;exact this
end
end
section
open Go.RowKit
theorem idx_lst (l:List ByteArray) (p:ByteArray→Bool) (v:Value) (w:World) (hn:l.length≤1000) (hR:SsAt w v l)
  (hf:∀k (hk:k<l.length) (w':World),Bw w w'→Calls Tryz.prog 176 #[.string (l[k]'hk)] w' fun e w''=>e=.returned (.bool (p (l[k]'hk)))∧Bw w' w'') :
  Calls Tryz.prog 252 #[v,.func (.func 176) #[] #[]] w (IPost (l.any p) w):=by
 obtain⟨ao,c,rfl⟩:=RAt.form hR;obtain⟨n,hd⟩:∃n,n=l.length:=⟨_,rfl⟩;have HN:=Kh hd;rw[←hd]at hR hn ⊢;clear hd;have HF:=Kh hf;clear hf;go_enter Tryz.func252,Tryz.ntmps252
 go_wp2;go_loopw [8] (fun i wr=>∃k:Nat,k≤n∧i=.int .i64 k∧Hid ((l.take k).any p=false)∧Bw w wr) (fun i _=>n-(intOf i).toNat)
 case atStart=>exact⟨0,by omega,rfl,rfl,Br⟩
 case round =>
  obtain⟨k,hk,rfl,HA,hc⟩:=hrel;obtain⟨wp,hg⟩:∃wp,wp=wr:=⟨_,rfl⟩;subst hg;replace hR:=SsAt.after hR hc;by_cases hlt:k<n
  ·have hb:k<l.length:=by rw[←HN.out];exact hlt
   have HT:=Kh (any_take p l k hb);have HB:Hid (p (l[k]'hb)=true→l.any p=true):=any_hit p l k hb;obtain⟨b,o,rfl,hi,x1⟩:=SsAt.at_ hR hb;have HC:=Kh (HF.out k hb _ hc);generalize p (l[k]'hb)=pk at HT HB HC;generalize (l[k]'hb)=x at x1 HC;have hh:(0:Int)≤(k:Int):=by omega
   have hj:(k:Int)<(n:Int):=by omega
   clear hR;cases pk
   ·have HX:Hid ((l.take (k+1)).any p=false):=by rw[Hid,HT.out,HA.out];rfl
    clear HT HB;go_wp2_with fail
    refine (HC.out).mono ?_;rintro e w2 ⟨rfl,he⟩;go_wp2;go_roundw
    case rel=>exact⟨k+1,by omega,by go_num,HX,bt hc he⟩
    case measure=>simp[intOf];omega
   ·have HX:Hid (l.any p=true):=HB.out rfl;clear HT HB;go_wp2_with fail
    refine (HC.out).mono ?_;rintro e w2 ⟨rfl,he⟩;go_wp2;go_ret
    exact⟨(k:Int),rfl,by rw[HX.out];exact Dt hh,bt hc he⟩
  ·have HX:Hid (l.any p=false):=any_end p l k (by rw[←HN.out];omega) HA.out;go_wp2;go_ret
   exact⟨-1,rfl,by rw[HX.out];rfl,hc⟩
theorem cont_lst (l:List ByteArray) (p:ByteArray→Bool) (b:Bool) (v:Value) (w:World) (hn:l.length≤1000) (hR:SsAt w v l) (hb:l.any p=b)
  (hf:∀k (hk:k<l.length) (w':World),Bw w w'→Calls Tryz.prog 176 #[.string (l[k]'hk)] w' fun e w''=>e=.returned (.bool (p (l[k]'hk)))∧Bw w' w'') :
  Calls Tryz.prog 175 #[v,.func (.func 176) #[] #[]] w fun e w'=>e=.returned (.bool b)∧Bw w w':=by
 have HE:=Kh (idx_lst l p v w hn hR hf);rw[hb]at HE;obtain⟨ao,c,rfl⟩:=RAt.form hR;generalize l.length=n at HE;clear hn hR hf hb;go_enter Tryz.func175,Tryz.ntmps175
 go_wp2_with fail
 refine HE.out.mono ?_;rintro e w1 ⟨i,rfl,hi,hc⟩;have HI:=Kh hi;clear hi;cases b
 ·have hi:decide (0≤i)=false:=HI.out;go_wp2;go_ret
  exact⟨rfl,hc⟩
 ·have hi:decide (0≤i)=true:=HI.out;go_wp2;go_ret
  exact⟨rfl,hc⟩
theorem idx_lsh (l:List (Bool × ByteArray)) (p:(Bool × ByteArray)→Bool) (v:Value) (w:World) (hn:l.length≤1000) (hR:IsAt w v l)
  (hf:∀k (hk:k<l.length) (w':World),Bw w w'→Calls Tryz.prog 174 #[.agg #[.bool (l[k]'hk).1,.string (l[k]'hk).2]] w' fun e w''=>e=.returned (.bool (p (l[k]'hk)))∧Bw w' w'') :
  Calls Tryz.prog 251 #[v,.func (.func 174) #[] #[]] w (IPost (l.any p) w):=by
 obtain⟨ao,c,rfl⟩:=RAt.form hR;obtain⟨n,hd⟩:∃n,n=l.length:=⟨_,rfl⟩;have HN:=Kh hd;rw[←hd]at hR hn ⊢;clear hd;have HF:=Kh hf;clear hf;go_enter Tryz.func251,Tryz.ntmps251
 go_wp2;go_loopw [8] (fun i wr=>∃k:Nat,k≤n∧i=.int .i64 k∧Hid ((l.take k).any p=false)∧Bw w wr) (fun i _=>n-(intOf i).toNat)
 case atStart=>exact⟨0,by omega,rfl,rfl,Br⟩
 case round =>
  obtain⟨k,hk,rfl,HA,hc⟩:=hrel;obtain⟨wp,hg⟩:∃wp,wp=wr:=⟨_,rfl⟩;subst hg;replace hR:=IsAt.after hR hc;by_cases hlt:k<n
  ·have hb:k<l.length:=by rw[←HN.out];exact hlt
   have HT:=Kh (any_take p l k hb);have HB:Hid (p (l[k]'hb)=true→l.any p=true):=any_hit p l k hb;obtain⟨b,o,rfl,hi,x1,x2⟩:=IsAt.at_ hR hb;have HC:=Kh (HF.out k hb _ hc);generalize p (l[k]'hb)=pk at HT HB HC;generalize (l[k]'hb)=x at x1 x2 HC;obtain⟨y1,y2⟩:=x;simp only[]at x1 x2 HC;have hh:(0:Int)≤(k:Int):=by omega
   have hj:(k:Int)<(n:Int):=by omega
   clear hR;cases pk
   ·have HX:Hid ((l.take (k+1)).any p=false):=by rw[Hid,HT.out,HA.out];rfl
    clear HT HB;go_wp2_with fail
    refine (HC.out).mono ?_;rintro e w2 ⟨rfl,he⟩;go_wp2;go_roundw
    case rel=>exact⟨k+1,by omega,by go_num,HX,bt hc he⟩
    case measure=>simp[intOf];omega
   ·have HX:Hid (l.any p=true):=HB.out rfl;clear HT HB;go_wp2_with fail
    refine (HC.out).mono ?_;rintro e w2 ⟨rfl,he⟩;go_wp2;go_ret
    exact⟨(k:Int),rfl,by rw[HX.out];exact Dt hh,bt hc he⟩
  ·have HX:Hid (l.any p=false):=any_end p l k (by rw[←HN.out];omega) HA.out;go_wp2;go_ret
   exact⟨-1,rfl,by rw[HX.out];rfl,hc⟩
theorem cont_lsh (l:List (Bool × ByteArray)) (p:(Bool × ByteArray)→Bool) (b:Bool) (v:Value) (w:World) (hn:l.length≤1000) (hR:IsAt w v l) (hb:l.any p=b)
  (hf:∀k (hk:k<l.length) (w':World),Bw w w'→Calls Tryz.prog 174 #[.agg #[.bool (l[k]'hk).1,.string (l[k]'hk).2]] w' fun e w''=>e=.returned (.bool (p (l[k]'hk)))∧Bw w' w'') :
  Calls Tryz.prog 173 #[v,.func (.func 174) #[] #[]] w fun e w'=>e=.returned (.bool b)∧Bw w w':=by
 have HE:=Kh (idx_lsh l p v w hn hR hf);rw[hb]at HE;obtain⟨ao,c,rfl⟩:=RAt.form hR;generalize l.length=n at HE;clear hn hR hf hb;go_enter Tryz.func173,Tryz.ntmps173
 go_wp2_with fail
 refine HE.out.mono ?_;rintro e w1 ⟨i,rfl,hi,hc⟩;have HI:=Kh hi;clear hi;cases b
 ·have hi:decide (0≤i)=false:=HI.out;go_wp2;go_ret
  exact⟨rfl,hc⟩
 ·have hi:decide (0≤i)=true:=HI.out;go_wp2;go_ret
  exact⟨rfl,hc⟩
end
section
/- Proofs and runs as arguments. -/
open Go.RowKit Go.WideShapes Go.ChangeShapes Go.ChangeAt Go.Joins Go.Deep
open Go.ChangeMaps (open_string shut_string)
theorem array6 {α:Type} {l:Array α} (h:l.size=6):∃a b c d e f,l=#[a,b,c,d,e,f]:=by
 obtain⟨l⟩:=l;match l,h with
 | [a,b,c,d,e,f],_=>exact⟨a,b,c,d,e,f,rfl⟩
theorem zRun:Tryz.prog.cellsOf 35=6:=by kernel_rfl
section
variable {H:Type} {enc:TypeId × Value→H} {w:World} {base:Nat} {held:Bool}
theorem open_run {r:Reach} {b0:Nat} {v:Value} {d:DataW H} {p:List MemPlace} (hv:Value.okWide Tryz.prog w r b0 35 v) (h:DataW.Trod enc Tryz.prog w base (fun _=>true) held 35 v d p) :
  ∃(W M:List (Bool × ByteArray)) (ch:ByteArray) (V:List ByteArray) (sd:ByteArray) (i:Int) (s1 s2 s3:Option Addr) (m1 m2 m3 d1 d2 d3:Nat),v=.agg #[.slice s1 m1 d1,.slice s2 m2 d2,.string ch,.slice s3 m3 d3,.string sd,.int .i64 i] ∧
   (∀x∈W,x.2.size≤9223372036854775807)∧(∀x∈M,x.2.size≤9223372036854775807)∧ch.size≤9223372036854775807∧(∀x∈V,x.size≤9223372036854775807)∧sd.size≤9223372036854775807 ∧
   IsAt w (.slice s1 m1 d1) W∧IsAt w (.slice s2 m2 d2) M∧SsAt w (.slice s3 m3 d3) V:=by
 obtain⟨cs,rfl,hd⟩:=okWide_struct Tryz.underlying35 hv;obtain⟨c0,c1,c2,c3,c4,c5,rfl⟩:=array6 (hd.trans zRun);obtain⟨fuel,hf⟩:=h;obtain⟨_,_,_,_,m1,_,_,t0,t1,t2,t3⟩:=trod_struct4 Tryz.underlying35 hf;obtain⟨_,_,_,m2,_,_,u0,u1,u2⟩:=trod_struct3 Tryz.underlying33 t3;simp only[Value.cells,zNs,zNat,zZs,zStr,zTape,zi64,List.drop_succ_cons,List.drop_zero,List.take_succ_cons,List.take_zero,Nat.reduceAdd]at t0 t1 t2 u0 u1 u2;obtain⟨g1,g2,g3,W,hW,rW,sW,_⟩:=row_of (Q:=QInt) (Sz:=fun a=>a.2.size≤maxLen) (false,⟨#[]⟩) Tryz.underlying30 zInt (by decide) t0 (fun n cs' y hl h=>el_int hl h);obtain⟨k1,k2,k3,M,hM,rM,sM,_⟩:=row_of (Q:=QInt) (Sz:=fun a=>a.2.size≤maxLen) (false,⟨#[]⟩) Tryz.underlying30 zInt (by decide) t1 (fun n cs' y hl h=>el_int hl h);obtain⟨s,hs,_,hz⟩:=DataW.trod_string Tryz.underlying22 t2;obtain⟨q1,q2,q3,V,hV,rV,sV,_⟩:=row_of (Q:=QStr) (Sz:=fun a=>a.size≤maxLen) ⟨#[]⟩ Tryz.underlying31 zNat (by decide) u0 (fun n cs' y hl h=>el_nat hl h);obtain⟨sd,hb,_,hc⟩:=DataW.trod_string Tryz.underlying9 u1;obtain⟨i,hi,_⟩:=DataW.trod_int Tryz.underlying3 u2;simp only[List.cons.injEq,and_true]at hW hM hs hV hb hi;subst hW hM hs hV hb hi;unfold maxLen at sW sM hz sV hc;exact⟨W,M,s,V,sd,i,_,_,_,_,_,_,_,_,_,rfl,sW,sM,hz,sV,hc,rW,rM,rV⟩
end
end
section
/- The small tests of the layer's laws: integers,tapes,runs. -/
open Go.RowKit Go.Shelf
def lgB (k:Int) (s:ByteArray):Bool:=decide (k<(s.size:Int))
def shB (l:List (Bool × ByteArray)):Bool:=decide (l.length≤10)&&!(l.any fun x=>lgB 60 x.2)
def stB (V:List ByteArray) (sd:ByteArray):Bool:=decide (V.length≤80)&&decide (sd.size≤100)&&!(V.any (lgB 60))
theorem lsh1_c (b:Bool) (s:ByteArray) (w:World) (hs:s.size≤9223372036854775807) :
  Calls Tryz.prog 174 #[.agg #[.bool b,.string s]] w fun e w'=>e=.returned (.bool (lgB 60 s))∧Bw w w':=by
 obtain⟨r,hr⟩:∃r,r=lgB 60 s:=⟨_,rfl⟩;rw[←hr];have e1:decide ((60:Int)<(s.size:Int))=r:=hr.symm;clear hr;obtain⟨hP,hb⟩:=blk1 w #[.bool b,.string s] 74;obtain⟨hc,hd,he,hf⟩:=hP.x2;go_enter Tryz.func174,Tryz.ntmps174
 go_wp2;go_ret
 exact⟨rfl,hb⟩
theorem lst1_c (s:ByteArray) (w:World) (hs:s.size≤9223372036854775807) :
  Calls Tryz.prog 176 #[.string s] w fun e w'=>e=.returned (.bool (lgB 60 s))∧Bw w w':=by
 obtain⟨r,hr⟩:∃r,r=lgB 60 s:=⟨_,rfl⟩;rw[←hr];have e1:decide ((60:Int)<(s.size:Int))=r:=hr.symm;clear hr;go_enter Tryz.func176,Tryz.ntmps176
 go_wp2;go_ret
 exact⟨rfl,Br⟩
theorem short_c (l:List (Bool × ByteArray)) (v:Value) (w:World) (hz:∀x∈l,x.2.size≤9223372036854775807) (hR:IsAt w v l) :
  Calls Tryz.prog 71 #[v] w fun e w'=>e=.returned (.bool (shB l))∧Bw w w':=by
 obtain⟨r,hr⟩:∃r,r=l.any fun x=>lgB 60 x.2:=⟨_,rfl⟩
 have HQ:Hid (shB l=(decide (l.length≤10)&&!r)):=by rw[hr];rfl
 have HC:Hid (l.length≤10→Calls Tryz.prog 173 #[v,.func (.func 174) #[] #[]] w fun e w'=>e=.returned (.bool r)∧Bw w w'):=fun h=>by
  rw[hr];exact cont_lsh l (fun x=>lgB 60 x.2) _ v w (by omega) hR rfl (fun k hk w2 _=>lsh1_c _ _ w2 (hz _ (Gm hk)))
 obtain⟨ao,c,rfl⟩:=RAt.form hR;generalize shB l=g at HQ ⊢;generalize l.length=n at HQ HC ⊢;clear hz hR hr;by_cases h:n≤10
 ·have HX:Hid (g=!r):=by rw[Hid,HQ.out,Dt h];rfl
  have HD:=Kh (HC.out h);have e1:decide ((n:Int)≤10)=true:=Dt (by omega);clear h HC HQ;go_enter Tryz.func71,Tryz.ntmps71
  go_wp2_with fail
  refine HD.out.mono ?_;rintro e w2 ⟨rfl,hb⟩;go_wp2;go_ret
  exact⟨by rw[HX.out];rfl,hb⟩
 ·have HX:Hid (g=false):=by rw[Hid,HQ.out,decide_eq_false h];rfl
  have e1:decide ((n:Int)≤10)=false:=decide_eq_false (by omega);clear h HC HQ;go_enter Tryz.func71,Tryz.ntmps71
  go_wp2;go_ret
  exact⟨by rw[HX.out];rfl,Br⟩
theorem shortTape_c (V:List ByteArray) (sd:ByteArray) (p:Int) (v:Value) (w:World) (hs:sd.size≤9223372036854775807) (hz:∀x∈V,x.size≤9223372036854775807) (hR:SsAt w v V) :
  Calls Tryz.prog 72 #[.agg #[v,.string sd,.int .i64 p]] w fun e w'=>e=.returned (.bool (stB V sd))∧Bw w w':=by
 obtain⟨r,hr⟩:∃r,r=V.any (lgB 60):=⟨_,rfl⟩;have HQ:Hid (stB V sd=(decide (V.length≤80)&&decide (sd.size≤100)&&!r)):=by rw[hr];rfl
 have HC:Hid (V.length≤80→∀w',Bw w w'→Calls Tryz.prog 175 #[v,.func (.func 176) #[] #[]] w' fun e w''=>e=.returned (.bool r)∧Bw w' w''):=fun h w' hb=>by
  rw[hr];exact cont_lst V (lgB 60) _ v w' (by omega) (SsAt.after hR hb) rfl (fun k hk w2 _=>lst1_c _ w2 (hz _ (Gm hk)))
 obtain⟨ao,c,rfl⟩:=RAt.form hR;generalize stB V sd=g at HQ ⊢;generalize V.length=n at HQ HC ⊢;clear hz hR hr;obtain⟨hP,hi⟩:=blk1 w #[.slice ao n c,.string sd,.int .i64 p] 33;by_cases h:n≤80
 ·by_cases h2:sd.size≤100
  ·have HX:Hid (g=!r):=by rw[Hid,HQ.out,Dt h,Dt h2];rfl
   have HD:=Kh (HC.out h);have e1:decide ((n:Int)≤80)=true:=Dt (by omega);have e2:decide ((sd.size:Int)≤100)=true:=Dt (by omega);clear h h2 HC HQ;obtain⟨hc,hd,he,hf,hg,hh⟩:=hP.x3;go_enter Tryz.func72,Tryz.ntmps72
   go_wp2_with fail
   refine (HD.out _ hi).mono ?_;rintro e w2 ⟨rfl,hb⟩;go_wp2;go_ret
   exact⟨by rw[HX.out];rfl,bt hi hb⟩
  ·have HX:Hid (g=false):=by rw[Hid,HQ.out,decide_eq_false h2];simp
   have e1:decide ((n:Int)≤80)=true:=Dt (by omega);have e2:decide ((sd.size:Int)≤100)=false:=decide_eq_false (by omega);clear h h2 HC HQ;obtain⟨hc,hd,he,hf,hg,hh⟩:=hP.x3;go_enter Tryz.func72,Tryz.ntmps72
   go_wp2;go_ret
   exact⟨by rw[HX.out];rfl,hi⟩
 ·have HX:Hid (g=false):=by rw[Hid,HQ.out,decide_eq_false h];rfl
  have e1:decide ((n:Int)≤80)=false:=decide_eq_false (by omega);clear h HC HQ;obtain⟨hc,hd,he,hf,hg,hh⟩:=hP.x3;go_enter Tryz.func72,Tryz.ntmps72
  go_wp2;go_ret
  exact⟨by rw[HX.out];rfl,hi⟩
def smB (W M:List (Bool × ByteArray)) (ch:ByteArray) (V:List ByteArray) (sd:ByteArray):Bool:=shB W&&(shB M&&(decide (ch.size≤20)&&stB V sd))
theorem smallR_c (W M:List (Bool × ByteArray)) (ch:ByteArray) (V:List ByteArray) (sd:ByteArray) (p:Int) (vw vm vt:Value) (w:World) (hw:∀x∈W,x.2.size≤9223372036854775807) (hm:∀x∈M,x.2.size≤9223372036854775807) (hc:ch.size≤9223372036854775807) (hs:sd.size≤9223372036854775807) (hv:∀x∈V,x.size≤9223372036854775807)
  (hW:IsAt w vw W) (hM:IsAt w vm M) (hV:SsAt w vt V) :
  Calls Tryz.prog 16 #[.agg #[vw,vm,.string ch,vt,.string sd,.int .i64 p]] w fun e w'=>e=.returned (.bool (smB W M ch V sd))∧Bw w w':=by
 have HA:Hid (∀w',Bw w w'→Calls Tryz.prog 71 #[vw] w' fun e w''=>e=.returned (.bool (shB W))∧Bw w' w''):=fun w' hb=>short_c W vw w' hw (IsAt.after hW hb)
 have HB:Hid (∀w',Bw w w'→Calls Tryz.prog 71 #[vm] w' fun e w''=>e=.returned (.bool (shB M))∧Bw w' w''):=fun w' hb=>short_c M vm w' hm (IsAt.after hM hb)
 have HT:Hid (∀w',Bw w w'→Calls Tryz.prog 72 #[.agg #[vt,.string sd,.int .i64 p]] w' fun e w''=>e=.returned (.bool (stB V sd))∧Bw w' w''):=fun w' hb=>shortTape_c V sd p vt w' hs hv (SsAt.after hV hb)
 have HQ:Hid (smB W M ch V sd=(shB W&&(shB M&&(decide (ch.size≤20)&&stB V sd)))):=rfl;obtain⟨ao,c1,rfl⟩:=RAt.form hW;obtain⟨bo,c2,rfl⟩:=RAt.form hM;obtain⟨co,c3,rfl⟩:=RAt.form hV;generalize smB W M ch V sd=g at HQ ⊢;generalize shB W=a at HA HQ;generalize shB M=b at HB HQ;generalize stB V sd=t at HT HQ;generalize W.length=m1 at HA ⊢;generalize M.length=m2 at HB ⊢;generalize V.length=m3 at HT ⊢;clear hw hm hs hv hW hM hV;obtain⟨hP,hq⟩:=blk1 w #[.slice ao m1 c1,.slice bo m2 c2,.string ch,.slice co m3 c3,.string sd,.int .i64 p] 35;cases a
 ·have HX:Hid (g=false):=by rw[Hid,HQ.out];rfl
  clear HQ;obtain⟨hd,he,hf,hg,hh,hi,hj,hk,hl,hn,ho,hp⟩:=hP.x6;go_enter Tryz.func16,Tryz.ntmps16
  go_wp2_with fail
  refine (HA.out _ hq).mono ?_;rintro e w2 ⟨rfl,hb⟩;clear hd he hf hg hh hi hj hk hl hn ho hp;replace hP:=hP.after hb;replace hq:=bt hq hb;clear hb;obtain⟨hd,he,hf,hg,hh,hi,hj,hk,hl,hn,ho,hp⟩:=hP.x6;go_wp2;go_ret
  exact⟨by rw[HX.out];rfl,hq⟩
 ·cases b
  ·have HX:Hid (g=false):=by rw[Hid,HQ.out];rfl
   clear HQ;obtain⟨hd,he,hf,hg,hh,hi,hj,hk,hl,hn,ho,hp⟩:=hP.x6;go_enter Tryz.func16,Tryz.ntmps16
   go_wp2_with fail
   refine (HA.out _ hq).mono ?_;rintro e w2 ⟨rfl,hb⟩;clear hd he hf hg hh hi hj hk hl hn ho hp;replace hP:=hP.after hb;replace hq:=bt hq hb;clear hb;obtain⟨hd,he,hf,hg,hh,hi,hj,hk,hl,hn,ho,hp⟩:=hP.x6;go_wp2_with fail
   refine (HB.out _ hq).mono ?_;rintro e w2 ⟨rfl,hb⟩;clear hd he hf hg hh hi hj hk hl hn ho hp;replace hP:=hP.after hb;replace hq:=bt hq hb;clear hb;obtain⟨hd,he,hf,hg,hh,hi,hj,hk,hl,hn,ho,hp⟩:=hP.x6;go_wp2;go_ret
   exact⟨by rw[HX.out];rfl,hq⟩
  ·by_cases h:ch.size≤20
   ·have HX:Hid (g=t):=by rw[Hid,HQ.out,Dt h];rfl
    have e1:decide ((ch.size:Int)≤20)=true:=Dt (by omega);clear HQ;obtain⟨hd,he,hf,hg,hh,hi,hj,hk,hl,hn,ho,hp⟩:=hP.x6;go_enter Tryz.func16,Tryz.ntmps16
    go_wp2_with fail
    refine (HA.out _ hq).mono ?_;rintro e w2 ⟨rfl,hb⟩;clear hd he hf hg hh hi hj hk hl hn ho hp;replace hP:=hP.after hb;replace hq:=bt hq hb;clear hb;obtain⟨hd,he,hf,hg,hh,hi,hj,hk,hl,hn,ho,hp⟩:=hP.x6;go_wp2_with fail
    refine (HB.out _ hq).mono ?_;rintro e w2 ⟨rfl,hb⟩;clear hd he hf hg hh hi hj hk hl hn ho hp;replace hP:=hP.after hb;replace hq:=bt hq hb;clear hb;obtain⟨hd,he,hf,hg,hh,hi,hj,hk,hl,hn,ho,hp⟩:=hP.x6;go_wp2_with fail
    refine (HT.out _ hq).mono ?_;rintro e w2 ⟨rfl,hb⟩;clear hd he hf hg hh hi hj hk hl hn ho hp;replace hP:=hP.after hb;replace hq:=bt hq hb;clear hb;obtain⟨hd,he,hf,hg,hh,hi,hj,hk,hl,hn,ho,hp⟩:=hP.x6;go_wp2;go_ret
    exact⟨by rw[HX.out];rfl,hq⟩
   ·have HX:Hid (g=false):=by rw[Hid,HQ.out,decide_eq_false h];rfl
    have e1:decide ((ch.size:Int)≤20)=false:=decide_eq_false (by omega);clear HQ;obtain⟨hd,he,hf,hg,hh,hi,hj,hk,hl,hn,ho,hp⟩:=hP.x6;go_enter Tryz.func16,Tryz.ntmps16
    go_wp2_with fail
    refine (HA.out _ hq).mono ?_;rintro e w2 ⟨rfl,hb⟩;clear hd he hf hg hh hi hj hk hl hn ho hp;replace hP:=hP.after hb;replace hq:=bt hq hb;clear hb;obtain⟨hd,he,hf,hg,hh,hi,hj,hk,hl,hn,ho,hp⟩:=hP.x6;go_wp2_with fail
    refine (HB.out _ hq).mono ?_;rintro e w2 ⟨rfl,hb⟩;clear hd he hf hg hh hi hj hk hl hn ho hp;replace hP:=hP.after hb;replace hq:=bt hq hb;clear hb;obtain⟨hd,he,hf,hg,hh,hi,hj,hk,hl,hn,ho,hp⟩:=hP.x6;go_wp2;go_ret
    exact⟨by rw[HX.out];rfl,hq⟩
end
section
open Go.RowKit Go.WideShapes Go.ChangeShapes Go.ChangeAt Go.Joins Go.Deep
open Go.ChangeMaps (open_string shut_string)
section
variable {H:Type} {enc:TypeId × Value→H} {w:World} {base:Nat} {held:Bool}
end
end
end Go.Proofs.YtihjpddbjhcbmaaGreatDoor
