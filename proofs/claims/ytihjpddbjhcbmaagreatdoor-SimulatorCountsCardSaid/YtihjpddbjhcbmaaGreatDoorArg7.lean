/- A case of the simulator's laws as an argument: opened into what its slices read. -/
import Derived.Test.YtihjpddbjhcbmaaGreatDoorDrp
import Derived.Test.YtihjpddbjhcbmaaGreatDoorLd16
import Derived.Carry
import Derived.ChangeSlices
import Derived.WideKeyArgs
import Derived.Deep.Slices
set_option linter.unusedVariables false
set_option linter.unusedSimpArgs false
set_option maxRecDepth 100000
set_option maxHeartbeats 16000000
namespace Go.Proofs.YtihjpddbjhcbmaaGreatDoor
section
open Go.RowKit Go.Shelf
def tszC (t:Trm):Bool:=decide (t.base.size≤12)&&decide (t.abs.size≤8)
def eszC (q:Eqn):Bool:=decide (q.trms.length≤12)&&decide (q.tgt.size≤12)&&q.trms.all tszC
def fewC (S:Sta):Bool:=decide (S.grps.length≤10)&&decide (S.vars.length≤12)&&decide (S.eqs.length≤12)&&S.grps.all gszB&&S.vars.all vszB&&S.eqs.all eszC
theorem few_C {S:Sta} (h:fewC S=true):fewB S=true:=by
 simp only[fewC,eszC,tszC,Bool.and_eq_true,decide_eq_true_eq,List.all_eq_true]at h;simp only[fewB,eszB,tszB,Bool.and_eq_true,decide_eq_true_eq,List.all_eq_true];obtain⟨⟨⟨⟨⟨h1,h2⟩,h3⟩,h4⟩,h5⟩,h6⟩:=h;refine⟨⟨⟨⟨⟨by omega,by omega⟩,by omega⟩,h4⟩,h5⟩,fun q hq=>?_⟩;obtain⟨⟨a,b⟩,c⟩:=h6 q hq;refine⟨⟨by omega,by omega⟩,fun t ht=>?_⟩;obtain⟨d,e⟩:=c t ht;exact⟨by omega,by omega⟩
structure SSz (S:Sta):Prop where
 g:∀x∈S.grps,x.1.size≤9223372036854775807∧x.2.size≤9223372036854775807
 v:∀x∈S.vars,x.size≤9223372036854775807
 e:∀x∈S.eqs,x.tgt.size≤9223372036854775807∧x.trms.length≤9223372036854775807∧∀t∈x.trms,t.base.size≤9223372036854775807∧t.abs.size≤9223372036854775807
structure CSz (W L:List (Bool × ByteArray)) (V:List ByteArray) (ch sd:ByteArray):Prop where
 wn:W.length≤9223372036854775807
 w:∀x∈W,x.2.size≤9223372036854775807
 ln:L.length≤9223372036854775807
 l:∀x∈L,x.2.size≤9223372036854775807
 vn:V.length≤9223372036854775807
 v:∀x∈V,x.size≤9223372036854775807
 c:ch.size≤9223372036854775807
 s:sd.size≤9223372036854775807
theorem dzT {n k:Nat} (h:¬ n≤k):decide ((k:Int)<(n:Int))=true:=Dt (by omega)
theorem dzF {n k:Nat} (h:n≤k):decide ((k:Int)<(n:Int))=false:=decide_eq_false (by omega)
def iszB (x:Bool × ByteArray):Bool:=decide (x.2.size≤24)
def shI (L:List (Bool × ByteArray)):Bool:=L.all iszB&&decide (L.length≤20)
theorem short17_c (L:List (Bool × ByteArray)) (v:Value) (w:World) (hn:L.length≤9223372036854775807) (hs:∀x∈L,x.2.size≤9223372036854775807) (hR:IsAt w v L) :
  Calls Tryz.prog 29 #[v] w fun e w'=>e=.returned (.bool (shI L))∧Bw w w':=by
 obtain⟨ao,c,rfl⟩:=RAt.form hR;obtain⟨r,hr⟩:∃r,r=shI L:=⟨_,rfl⟩;rw[←hr];have HR:=Kh hr;obtain⟨m,hm⟩:∃m,m=L.length:=⟨_,rfl⟩;have HM:=Kh hm;rw[←hm]at hR hn ⊢;have HS:=Kh hs;clear hr hm hs;go_enter Tryz.func29,Tryz.ntmps29
 go_wp2;go_loop [3] (fun i=>∃k:Nat,k≤m∧k≤20∧i=.int .i64 k∧Hid ((L.take k).all iszB=true)) (fun i=>m-(intOf i).toNat)
 case atStart=>exact⟨0,by omega,by omega,rfl,rfl⟩
 case round =>
  obtain⟨k,hk,he,rfl,HK⟩:=hrel;by_cases hlt:k<m
  ·by_cases hf:k<20
   ·have hc:k<L.length:=by rw[←HM.out];exact hlt
    obtain⟨b,o,rfl,hb,x1,x2⟩:=IsAt.at_ hR hc;have hg:=HS.out _ (Gm hc);have hj:(0:Int)≤(k:Int):=by omega
    have hh:(k:Int)<(m:Int):=by omega
    have hl:(k:Int)<20:=by omega
    have HT:=Kh (all_take iszB L k hc);have HB:Hid (iszB L[k]=false→shI L=false):=fun h=>by unfold shI;rw[all_bad iszB L k hc h];rfl
    have HQ:Hid (iszB L[k]=decide (L[k].2.size≤24)):=rfl;generalize iszB (L[k]'hc)=q at HT HB HQ;generalize (L[k]'hc).2=s at x2 hg HQ;by_cases h8:s.size≤24
    ·have hd:decide ((24:Int)<(s.size:Int))=false:=dzF h8;have HX:Hid ((L.take (k+1)).all iszB=true):=by rw[Hid,HT.out,HK.out,HQ.out,Dt h8];rfl
     clear h8;go_wp2;go_round
     case rel=>exact⟨k+1,by omega,by omega,by go_num,HX⟩
     case measure=>simp[intOf];omega
    ·have hd:decide ((24:Int)<(s.size:Int))=true:=dzT h8;have HF:Hid (r=false):=by rw[Hid,HR.out];exact HB.out (by rw[HQ.out];exact decide_eq_false h8)
     clear h8;go_wp2;go_ret
     exact⟨by rw[HF.out];rfl,Br⟩
   ·have hi:k=20:=by omega
    have HF:Hid (r=false):=by
     rw[Hid,HR.out,shI,decide_eq_false (show ¬ L.length≤20 by have:=HM.out;omega),Bool.and_false]
    have hh:(k:Int)<(m:Int):=by omega
    have hq:decide ((m:Int)≤20)=false:=decide_eq_false (by omega);subst hi;clear hf he;go_wp2;go_ret
    exact⟨by rw[HF.out];rfl,Br⟩
  ·have HF:Hid (r=true):=by
    rw[Hid,HR.out,shI,all_end iszB L k (by rw[←HM.out];omega) HK.out,Dt (show L.length≤20 by have:=HM.out;omega)];rfl
   obtain rfl:k=m:=by omega
   have hq:decide ((k:Int)≤20)=true:=Dt (by omega);clear he;go_wp2;go_ret
   exact⟨by rw[HF.out];rfl,Br⟩
theorem fewS_c (S:Sta) (v1 v2 v3:Value) (w:World) (hm:SSz S) (hS:StAt w v1 v2 v3 S) :
  Calls Tryz.prog 191 #[.agg #[v1,v2,v3]] w fun e w'=>e=.returned (.bool (fewC S))∧Bw w w':=by
 obtain⟨r,hr⟩:∃r:Bool,r=fewC S:=⟨_,rfl⟩;have hi:=Kh hr;rw[←hr];clear hr;obtain⟨a1,c1,rfl⟩:=hS.g.form;obtain⟨a2,c2,rfl⟩:=hS.v.form;obtain⟨a3,c3,rfl⟩:=hS.e.form;have HM:=Kh hm;obtain⟨n1,hz⟩:∃n,n=S.grps.length:=⟨_,rfl⟩;obtain⟨n2,hA⟩:∃n,n=S.vars.length:=⟨_,rfl⟩;obtain⟨n3,hB⟩:∃n,n=S.eqs.length:=⟨_,rfl⟩;have ht:=Kh hz;have hu:=Kh hA;have hv:=Kh hB;rw[←hz,←hA,←hB]at hS ⊢;clear hm hz hA hB;obtain⟨hP,hn⟩:=blk1 w #[.slice a1 n1 c1,.slice a2 n2 c2,.slice a3 n3 c3] 29;replace hS:=hS.after hn;by_cases g1:n1≤10
 rotate_left
 ·have e1:decide ((10:Int)<(n1:Int))=true:=dzT g1;have HF:Hid (fewC S=false):=by unfold Hid fewC;rw[←ht.out,decide_eq_false g1];simp
  clear g1;obtain⟨hb,hc,hd,he,hf,hg⟩:=hP.x3;go_enter Tryz.func191,Tryz.ntmps191
  go_wp2;go_ret
  exact⟨by rw[hi.out,HF.out];rfl,hn⟩
 have e1:decide ((10:Int)<(n1:Int))=false:=dzF g1;by_cases g2:n2≤12
 rotate_left
 ·have e2:decide ((12:Int)<(n2:Int))=true:=dzT g2;have HF:Hid (fewC S=false):=by unfold Hid fewC;rw[←hu.out,decide_eq_false g2];simp
  clear g1 g2;obtain⟨hb,hc,hd,he,hf,hg⟩:=hP.x3;go_enter Tryz.func191,Tryz.ntmps191
  go_wp2;go_ret
  exact⟨by rw[hi.out,HF.out];rfl,hn⟩
 have e2:decide ((12:Int)<(n2:Int))=false:=dzF g2;by_cases g3:n3≤12
 rotate_left
 ·have e3:decide ((12:Int)<(n3:Int))=true:=dzT g3;have HF:Hid (fewC S=false):=by unfold Hid fewC;rw[←hv.out,decide_eq_false g3];simp
  clear g1 g2 g3;obtain⟨hb,hc,hd,he,hf,hg⟩:=hP.x3;go_enter Tryz.func191,Tryz.ntmps191
  go_wp2;go_ret
  exact⟨by rw[hi.out,HF.out];rfl,hn⟩
 have e3:decide ((12:Int)<(n3:Int))=false:=dzF g3;have hK:Hid (decide (S.grps.length≤10)=true):=Dt (by have:=ht.out;omega);have hL:Hid (decide (S.vars.length≤12)=true):=Dt (by have:=hu.out;omega);have hM:Hid (decide (S.eqs.length≤12)=true):=Dt (by have:=hv.out;omega);obtain⟨hb,hc,hd,he,hf,hg⟩:=hP.x3;go_enter Tryz.func191,Tryz.ntmps191
 go_wp2;clear hb hc hd he hf hg;clear e1 e2 e3;generalize w.alloc (.cells #[.slice a1 n1 c1,.slice a2 n2 c2,.slice a3 n3 c3] 29)=w1 at hP hn hS;obtain⟨gp,hC⟩:∃g,w.heap.size=g:=⟨_,rfl⟩;have hT:=Kh hC;replace hP:Blk w1 w.heap.size 29 [.slice a1 n1 c1,.slice a2 n2 c2,.slice a3 n3 c3]:=hP;rw[hC]at hP ⊢;clear hC;go_loop [3] (fun i=>∃k:Nat,k≤n1∧i=.int .i64 k∧Hid ((S.grps.take k).all gszB=true)) (fun i=>n1-(intOf i).toNat)
 case atStart=>exact⟨0,by omega,rfl,rfl⟩
 case round =>
  obtain⟨k,hk,rfl,HA⟩:=hrel;by_cases hlt:k<n1
  ·have hl:k<S.grps.length:=by rw[←ht.out];exact hlt
   have ho:=Kh (HM.out.g _ (Gm hl));have HT:=Kh (all_take gszB S.grps k hl);have hh:Hid (gszB S.grps[k]=false→fewC S=false):=fun h=>by unfold fewC;rw[all_bad gszB S.grps k hl h];simp
   obtain⟨b,o,rfl,hH,x1,x2⟩:=hS.g.at_ hl;have HG:Hid (gszB S.grps[k]=(decide (S.grps[k].1.size≤8)&&decide (S.grps[k].2.size≤8))):=rfl;generalize gszB (S.grps[k]'hl)=gk at HT hh HG;generalize (S.grps[k]'hl).1=s1 at x1 ho HG;generalize (S.grps[k]'hl).2=s2 at x2 ho HG;have z1:=ho.out.1;have z2:=ho.out.2;have hI:(0:Int)≤(k:Int):=by omega
   have hJ:(k:Int)<(n1:Int):=by omega
   obtain⟨hb,hc,hd,he,hf,hg⟩:=hP.x3;by_cases q1:s1.size≤8
   ·have d1:decide ((8:Int)<(s1.size:Int))=false:=dzF q1;by_cases q2:s2.size≤8
    ·have d2:decide ((8:Int)<(s2.size:Int))=false:=dzF q2;have HX:Hid ((S.grps.take (k+1)).all gszB=true):=by rw[Hid,HT.out,HA.out,HG.out,Dt q1,Dt q2];rfl
     clear q1 q2;go_wp2;go_round
     case rel=>exact⟨k+1,by omega,by go_num,HX⟩
     case measure=>simp[intOf];omega
    ·have d2:decide ((8:Int)<(s2.size:Int))=true:=dzT q2;have HF:Hid (fewC S=false):=hh.out (by rw[HG.out,decide_eq_false q2,Bool.and_false]);clear q1 q2;go_wp2;go_ret
     exact⟨by rw[hi.out,HF.out];rfl,hn⟩
   ·have d1:decide ((8:Int)<(s1.size:Int))=true:=dzT q1;have HF:Hid (fewC S=false):=hh.out (by rw[HG.out,decide_eq_false q1];rfl);clear q1;go_wp2;go_ret
    exact⟨by rw[hi.out,HF.out];rfl,hn⟩
  ·have HG:Hid (S.grps.all gszB=true):=all_end gszB S.grps k (by rw[←ht.out];omega) HA.out;obtain⟨hb,hc,hd,he,hf,hg⟩:=hP.x3;go_wp2;clear hb hc hd he hf hg;clear HA hlt hk;go_loop [4] (fun i=>∃k:Nat,k≤n2∧i=.int .i64 k∧Hid ((S.vars.take k).all vszB=true)) (fun i=>n2-(intOf i).toNat)
   case atStart=>exact⟨0,by omega,rfl,rfl⟩
   case round =>
    obtain⟨k,hk,rfl,HA⟩:=hrel;by_cases hlt:k<n2
    ·have hl:k<S.vars.length:=by rw[←hu.out];exact hlt
     have hN:=HM.out.v _ (Gm hl);have HT:=Kh (all_take vszB S.vars k hl);have hh:Hid (vszB S.vars[k]=false→fewC S=false):=fun h=>by unfold fewC;rw[all_bad vszB S.vars k hl h];simp
     have HQ:Hid (vszB S.vars[k]=decide (S.vars[k].size≤16)):=rfl;obtain⟨b,o,rfl,hH,x1⟩:=hS.v.at_ hl;generalize vszB (S.vars[k]'hl)=vk at HT hh HQ;generalize S.vars[k]'hl=s1 at x1 hN HQ;have hI:(0:Int)≤(k:Int):=by omega
     have hJ:(k:Int)<(n2:Int):=by omega
     obtain⟨hb,hc,hd,he,hf,hg⟩:=hP.x3;by_cases q1:s1.size≤16
     ·have d1:decide ((16:Int)<(s1.size:Int))=false:=dzF q1;have HX:Hid ((S.vars.take (k+1)).all vszB=true):=by rw[Hid,HT.out,HA.out,HQ.out,Dt q1];rfl
      clear q1;go_wp2;go_round
      case rel=>exact⟨k+1,by omega,by go_num,HX⟩
      case measure=>simp[intOf];omega
     ·have d1:decide ((16:Int)<(s1.size:Int))=true:=dzT q1;have HF:Hid (fewC S=false):=hh.out (by rw[HQ.out,decide_eq_false q1]);clear q1;go_wp2;go_ret
      exact⟨by rw[hi.out,HF.out];rfl,hn⟩
    ·have HV:Hid (S.vars.all vszB=true):=all_end vszB S.vars k (by rw[←hu.out];omega) HA.out;obtain⟨hb,hc,hd,he,hf,hg⟩:=hP.x3;go_wp2;clear hb hc hd he hf hg;clear HA hlt hk;go_loop [5] (fun i=>∃k:Nat,k≤n3∧i=.int .i64 k∧Hid ((S.eqs.take k).all eszC=true)) (fun i=>n3-(intOf i).toNat)
     case atStart=>exact⟨0,by omega,rfl,rfl⟩
     case round =>
      obtain⟨k,hk,rfl,HA⟩:=hrel;by_cases hlt:k<n3
      ·have hl:k<S.eqs.length:=by rw[←hv.out];exact hlt
       have ho:=Kh (HM.out.e _ (Gm hl));have HT:=Kh (all_take eszC S.eqs k hl);have hh:Hid (eszC S.eqs[k]=false→fewC S=false):=fun h=>by unfold fewC;rw[all_bad eszC S.eqs k hl h];simp
       obtain⟨b,o,tv,rfl,hH,x1,x2,x3,hp⟩:=hS.e.at_ hl;generalize S.eqs[k]'hl=q at x1 x2 x3 hp ho HT hh;obtain⟨qg,qt,qs⟩:=q;simp only[]at x1 x2 x3 hp;obtain⟨to_,tc,rfl⟩:=RAt.form hp;obtain⟨n4,hD⟩:∃n,n=qs.length:=⟨_,rfl⟩;have hw:=Kh hD;rw[←hD]at x3 hp;clear hD;have z1:=ho.out.1;have hI:(0:Int)≤(k:Int):=by omega
       have hJ:(k:Int)<(n3:Int):=by omega
       have HQ:Hid (eszC ⟨qg,qt,qs⟩=(decide (qs.length≤12)&&decide (qt.size≤12)&&qs.all tszC)):=rfl;generalize eszC ⟨qg,qt,qs⟩=ek at HT hh HQ;obtain⟨hb,hc,hd,he,hf,hg⟩:=hP.x3;by_cases q1:qt.size≤12
       rotate_left
       ·have d1:decide ((12:Int)<(qt.size:Int))=true:=dzT q1;have HF:Hid (fewC S=false):=hh.out (by rw[HQ.out,decide_eq_false q1,Bool.and_false];rfl);clear q1;go_wp2;go_ret
        exact⟨by rw[hi.out,HF.out];rfl,hn⟩
       have d1:decide ((12:Int)<(qt.size:Int))=false:=dzF q1;by_cases q4:n4≤12
       rotate_left
       ·have d4:decide ((12:Int)<(n4:Int))=true:=dzT q4;have HF:Hid (fewC S=false):=hh.out (by rw[HQ.out,←hw.out,decide_eq_false q4];rfl);clear q1 q4;go_wp2;go_ret
        exact⟨by rw[hi.out,HF.out];rfl,hn⟩
       have d4:decide ((12:Int)<(n4:Int))=false:=dzF q4;have HY:Hid (decide (qs.length≤12)=true):=Dt (by have:=hw.out;omega);have hO:Hid (decide (qt.size≤12)=true):=Dt q1;clear q1;go_wp2;clear d1 d4;clear hb hc hd he hf hg;go_loop [6] (fun i=>∃k:Nat,k≤n4∧i=.int .i64 k∧Hid ((qs.take k).all tszC=true)) (fun i=>n4-(intOf i).toNat)
       case atStart=>exact⟨0,by omega,rfl,rfl⟩
       case round =>
        obtain⟨j,hj,rfl,HJ⟩:=hrel;by_cases hE:j<n4
        ·have hq:j<qs.length:=by rw[←hw.out];exact hE
         have hF:=Kh (ho.out.2.2 _ (Gm hq));have hG:=Kh (all_take tszC qs j hq);have hx:Hid (tszC qs[j]=false→fewC S=false):=fun h=>hh.out (by rw[HQ.out,all_bad tszC qs j hq h];simp)
         obtain⟨b4,o4,rfl,hQ,y1,y2,y3,y4⟩:=TsAt.at_ hp hq;generalize qs[j]'hq=t at y1 y2 y3 y4 hF hG hx;obtain⟨tb,tv,tn,ta⟩:=t;simp only[]at y1 y2 y3 y4;have z2:=hF.out.1;have z3:=hF.out.2;simp only[]at z2 z3;have hU:(0:Int)≤(j:Int):=by omega
         have hV:(j:Int)<(n4:Int):=by omega
         have hy:Hid (tszC ⟨tb,tv,tn,ta⟩=(decide (tb.size≤12)&&decide (ta.size≤8))):=rfl;generalize tszC ⟨tb,tv,tn,ta⟩=tk at hG hx hy;obtain⟨hb,hc,hd,he,hf,hg⟩:=hP.x3;by_cases q1:tb.size≤12
         ·have d1:decide ((12:Int)<(tb.size:Int))=false:=dzF q1;by_cases q2:ta.size≤8
          ·have d2:decide ((8:Int)<(ta.size:Int))=false:=dzF q2;have HX:Hid ((qs.take (j+1)).all tszC=true):=by rw[Hid,hG.out,HJ.out,hy.out,Dt q1,Dt q2];rfl
           clear q1 q2;go_wp2;go_round
           case rel=>exact⟨j+1,by omega,by go_num,HX⟩
           case measure=>simp[intOf];omega
          ·have d2:decide ((8:Int)<(ta.size:Int))=true:=dzT q2;have HF:Hid (fewC S=false):=hx.out (by rw[hy.out,decide_eq_false q2,Bool.and_false]);clear q1 q2;go_wp2;go_ret
           exact⟨by rw[hi.out,HF.out];rfl,hn⟩
         ·have d1:decide ((12:Int)<(tb.size:Int))=true:=dzT q1;have HF:Hid (fewC S=false):=hx.out (by rw[hy.out,decide_eq_false q1];rfl);clear q1;go_wp2;go_ret
          exact⟨by rw[hi.out,HF.out];rfl,hn⟩
        ·have hR:Hid (qs.all tszC=true):=all_end tszC qs j (by rw[←hw.out];omega) HJ.out;have HX:Hid ((S.eqs.take (k+1)).all eszC=true):=by rw[Hid,HT.out,HA.out,HQ.out,HY.out,hO.out,hR.out];rfl
         obtain⟨hb,hc,hd,he,hf,hg⟩:=hP.x3;go_wp2;go_round
         case rel=>exact⟨k+1,by omega,by go_num,HX⟩
         case measure=>simp[intOf];omega
      ·have HE:Hid (S.eqs.all eszC=true):=all_end eszC S.eqs k (by rw[←hv.out];omega) HA.out;have HF:Hid (fewC S=true):=by unfold Hid fewC;rw[hK.out,hL.out,hM.out,HG.out,HV.out,HE.out];rfl
       obtain⟨hb,hc,hd,he,hf,hg⟩:=hP.x3;go_wp2;go_ret
       exact⟨by rw[hi.out,HF.out];rfl,hn⟩
def ruleB (S:Sta) (C K:ByteArray):Bool:=decide (C.size≤8)&&decide (K.size≤4)&&fewC S
theorem fewR_c (S:Sta) (C K:ByteArray) (v1 v2 v3:Value) (w:World) (hC:C.size≤9223372036854775807) (hK:K.size≤9223372036854775807) (hm:SSz S) (hS:StAt w v1 v2 v3 S) :
  Calls Tryz.prog 92 #[.agg #[.string C,.string K],.agg #[v1,v2,v3]] w fun e w'=>e=.returned (.bool (ruleB S C K))∧Bw w w':=by
 obtain⟨hR,hP,ho⟩:=blk2 w #[.string C,.string K] #[v1,v2,v3] 24 29;have hp:Hid (∀w',Bw w w'→Calls Tryz.prog 191 #[.agg #[v1,v2,v3]] w' fun e w''=>e=.returned (.bool (fewC S))∧Bw w' w''):=fun w' hb=>fewS_c S v1 v2 v3 w' hm (hS.after hb)
 clear hm hS;obtain⟨r,hr⟩:∃r:Bool,r=ruleB S C K:=⟨_,rfl⟩;have hc:=Kh hr;rw[←hr];clear hr;have HQ:Hid (ruleB S C K=(decide (C.size≤8)&&decide (K.size≤4)&&fewC S)):=rfl;generalize fewC S=fs at hp HQ;by_cases q1:C.size≤8
 rotate_left
 ·have d1:decide ((C.size:Int)≤8)=false:=decide_eq_false (by omega);have HF:Hid (r=false):=by rw[Hid,hc.out,HQ.out,decide_eq_false q1];rfl
  clear q1;obtain⟨hd,he,hf,hg⟩:=hR.x2;obtain⟨hh,hi,hj,hk,hl,hn⟩:=hP.x3;go_enter Tryz.func92,Tryz.ntmps92
  go_wp2;go_ret
  exact⟨by rw[HF.out];rfl,ho⟩
 have d1:decide ((C.size:Int)≤8)=true:=Dt (by omega);by_cases q2:K.size≤4
 rotate_left
 ·have d2:decide ((K.size:Int)≤4)=false:=decide_eq_false (by omega);have HF:Hid (r=false):=by rw[Hid,hc.out,HQ.out,decide_eq_false q2,Bool.and_false];rfl
  clear q1 q2;obtain⟨hd,he,hf,hg⟩:=hR.x2;obtain⟨hh,hi,hj,hk,hl,hn⟩:=hP.x3;go_enter Tryz.func92,Tryz.ntmps92
  go_wp2;go_ret
  exact⟨by rw[HF.out];rfl,ho⟩
 have d2:decide ((K.size:Int)≤4)=true:=Dt (by omega);have HF:Hid (r=fs):=by rw[Hid,hc.out,HQ.out,Dt q1,Dt q2];rfl
 clear q1 q2;obtain⟨hd,he,hf,hg⟩:=hR.x2;obtain⟨hh,hi,hj,hk,hl,hn⟩:=hP.x3;go_enter Tryz.func92,Tryz.ntmps92
 go_wp2_with fail
 refine (hp.out _ ho).mono ?_;rintro e w2 ⟨rfl,hq⟩;go_wp2;go_ret
 exact⟨by rw[HF.out];rfl,bt ho hq⟩
def tszV (x:ByteArray):Bool:=decide (x.size≤24)
def caseB (S:Sta) (C K ch sd:ByteArray) (W L:List (Bool × ByteArray)) (V:List ByteArray):Bool:=V.all tszV&&(ruleB S C K&&(shI W&&(shI L&&(decide (ch.size≤8)&&(decide (V.length≤100)&&decide (sd.size≤60))))))
theorem caseB_inv {S:Sta} {C K ch sd:ByteArray} {W L:List (Bool × ByteArray)} {V:List ByteArray} (h:caseB S C K ch sd W L V=true) :
  C.size≤8∧K.size≤8∧fewB S=true∧W.length≤20∧(∀x∈W,x.2.size≤24)∧L.length≤20∧(∀x∈L,x.2.size≤24)∧ch.size≤8:=by
 simp only[caseB,ruleB,shI,iszB,tszV,Bool.and_eq_true,decide_eq_true_eq,List.all_eq_true]at h;obtain⟨_,⟨⟨h1,h2⟩,h3⟩,⟨h4,h5⟩,⟨h6,h7⟩,h8,_⟩:=h;exact⟨h1,by omega,few_C h3,h5,h4,h7,h6,h8⟩
theorem fewC_c (S:Sta) (C K ch sd:ByteArray) (W L:List (Bool × ByteArray)) (V:List ByteArray) (ti:Int) (s1 s2 s3 xw xl xt:Option Addr) (m1 m2 m3 d1 d2 d3 nw pw nl pl nt pt:Nat) (w:World)
  (hC:C.size≤9223372036854775807) (hK:K.size≤9223372036854775807) (hz:SSz S) (hS:StAt w (.slice s1 m1 d1) (.slice s2 m2 d2) (.slice s3 m3 d3) S)
  (hp:CSz W L V ch sd) (hX:IsAt w (.slice xw nw pw) W) (hY:IsAt w (.slice xl nl pl) L) (hN:SsAt w (.slice xt nt pt) V) :
  Calls Tryz.prog 22 #[.agg #[.string C,.string K,.slice s1 m1 d1,.slice s2 m2 d2,.slice s3 m3 d3,.slice xw nw pw,.string ch,.slice xl nl pl,.slice xt nt pt,.string sd,.int .i64 ti]] w fun e w'=>e=.returned (.bool (caseB S C K ch sd W L V))∧Bw w w':=by
 obtain⟨r,hr⟩:∃r:Bool,r=caseB S C K ch sd W L V:=⟨_,rfl⟩;have hO:=Kh hr;rw[←hr];clear hr;have HP:=Kh hp;have hR:Hid (∀w',Bw w w'→Calls Tryz.prog 92 #[.agg #[.string C,.string K],.agg #[.slice s1 m1 d1,.slice s2 m2 d2,.slice s3 m3 d3]] w' fun e w''=>e=.returned (.bool (ruleB S C K))∧Bw w' w''):=fun w' hb=>fewR_c S C K _ _ _ w' hC hK hz (hS.after hb)
 have hT:Hid (∀w',Bw w w'→Calls Tryz.prog 29 #[.slice xw nw pw] w' fun e w''=>e=.returned (.bool (shI W))∧Bw w' w''):=fun w' hb=>short17_c W _ w' hp.wn hp.w (IsAt.after hX hb)
 have hU:Hid (∀w',Bw w w'→Calls Tryz.prog 29 #[.slice xl nl pl] w' fun e w''=>e=.returned (.bool (shI L))∧Bw w' w''):=fun w' hb=>short17_c L _ w' hp.ln hp.l (IsAt.after hY hb)
 have Ha:=hp.c;have Hb:=hp.s;obtain⟨xo,xc,h2⟩:=RAt.form hN;injection h2 with e1 e2 e3
 have Hc:nt≤9223372036854775807:=by rw[e2];exact hp.vn
 have hV:=Kh e2;clear e1 e2 e3 hC hK hz hS hp hX hY;have HQ:Hid (caseB S C K ch sd W L V=(V.all tszV&&(ruleB S C K&&(shI W&&(shI L&&(decide (ch.size≤8)&&(decide (V.length≤100)&&decide (sd.size≤60)))))))):=rfl;have hZ:Hid (V.all tszV=false→r=false):=fun h=>by rw[hO.out,HQ.out,h];rfl
 generalize ruleB S C K=fr at hR HQ;generalize shI W=fw at hT HQ;generalize shI L=fl at hU HQ;obtain⟨hP,hG⟩:=blk1 w #[.string C,.string K,.slice s1 m1 d1,.slice s2 m2 d2,.slice s3 m3 d3,.slice xw nw pw,.string ch,.slice xl nl pl,.slice xt nt pt,.string sd,.int .i64 ti] 50;replace hN:=SsAt.after hN hG;obtain⟨hf,hg,hh,hi,hj,hl,hm,hn,ho,hq,ht,hu,hv,hw,hy,hA,hB,hD,hE,hF,hc,he⟩:=hP.x11;go_enter Tryz.func22,Tryz.ntmps22
 go_wp2;clear hf hg hh hi hj hl hm hn ho hq ht hu hv hw hy hA hB hD hE hF hc he;generalize w.alloc (.cells #[.string C,.string K,.slice s1 m1 d1,.slice s2 m2 d2,.slice s3 m3 d3,.slice xw nw pw,.string ch,.slice xl nl pl,.slice xt nt pt,.string sd,.int .i64 ti] 50)=w1 at hP hG hN;replace hP:Blk w1 w.heap.size 50 [.string C,.string K,.slice s1 m1 d1,.slice s2 m2 d2,.slice s3 m3 d3,.slice xw nw pw,.string ch,.slice xl nl pl,.slice xt nt pt,.string sd,.int .i64 ti]:=hP;go_loop [3] (fun i=>∃k:Nat,k≤nt∧k≤100∧i=.int .i64 k∧Hid ((V.take k).all tszV=true)) (fun i=>nt-(intOf i).toNat)
 case atStart=>exact⟨0,by omega,by omega,rfl,rfl⟩
 case round =>
  obtain⟨k,hk,hH,rfl,HK⟩:=hrel;by_cases hW:k<nt∧k<100
  ·obtain⟨hlt,h3⟩:=hW;have hM:k<V.length:=by rw[←hV.out];exact hlt
   obtain⟨b,o,rfl,hb,x1⟩:=SsAt.at_ hN hM;have h4:=HP.out.v _ (Gm hM);have Hd:(0:Int)≤(k:Int):=by omega
   have h5:(k:Int)<(nt:Int):=by omega
   have He:(k:Int)<100:=by omega
   have HT:=Kh (all_take tszV V k hM);have HB:Hid (tszV V[k]=false→r=false):=fun h=>hZ.out (all_bad tszV V k hM h)
   have hQ:Hid (tszV V[k]=decide (V[k].size≤24)):=rfl;generalize tszV (V[k]'hM)=q at HT HB hQ;generalize (V[k]'hM)=s at x1 h4 hQ;obtain⟨hf,hg,hh,hi,hj,hl,hm,hn,ho,hq,ht,hu,hv,hw,hy,hA,hB,hD,hE,hF,hc,he⟩:=hP.x11;by_cases h8:s.size≤24
   ·have hd:decide ((24:Int)<(s.size:Int))=false:=dzF h8;have HX:Hid ((V.take (k+1)).all tszV=true):=by rw[Hid,HT.out,HK.out,hQ.out,Dt h8];rfl
    clear h8;go_wp2;go_round
    case rel=>exact⟨k+1,by omega,by omega,by go_num,HX⟩
    case measure=>simp[intOf];omega
   ·have hd:decide ((24:Int)<(s.size:Int))=true:=dzT h8;have HF:Hid (r=false):=HB.out (by rw[hQ.out];exact decide_eq_false h8);clear h8;go_wp2;go_ret
    exact⟨by rw[HF.out];rfl,hG⟩
  ·have h0:Hid (r=((decide (nt≤100)&&V.all tszV)&&(fr&&(fw&&(fl&&(decide (ch.size≤8)&&(decide (nt≤100)&&decide (sd.size≤60)))))))):=by
    rw[Hid,hO.out,HQ.out,←hV.out];by_cases hx:nt≤100
    ·rw[Dt hx];rfl
    ·rw[decide_eq_false hx];simp
   have hI:Hid (r=(fr&&(fw&&(fl&&(decide (ch.size≤8)&&(decide (nt≤100)&&decide (sd.size≤60))))))):=by
    rw[Hid,h0.out];by_cases hx:nt≤100
    ·rw[Dt hx,all_end tszV V k (by rw[←hV.out];omega) HK.out];rfl
    ·rw[decide_eq_false hx];simp
   clear h0 hZ HK;by_cases h6:k<nt
   ·have h7:k=100:=by omega
    have h5:(k:Int)<(nt:Int):=by omega
    have h1:Hid (¬ nt≤100):=by rw[Hid];omega
    subst h7;clear hW hH hk;obtain⟨hf,hg,hh,hi,hj,hl,hm,hn,ho,hq,ht,hu,hv,hw,hy,hA,hB,hD,hE,hF,hc,he⟩:=hP.x11;go_wp2_with fail
    refine (hR.out _ hG).mono ?_;rintro e w2 ⟨rfl,hJ⟩;clear hf hg hh hi hj hl hm hn ho hq ht hu hv hw hy hA hB hD hE hF hc he;replace hP:=hP.after hJ;replace hG:=bt hG hJ;clear hJ;cases fr
    ·have HF:Hid (r=false):=by rw[Hid,hI.out];rfl
     go_wp2;go_ret
     exact⟨by rw[HF.out];rfl,hG⟩
    obtain⟨hf,hg,hh,hi,hj,hl,hm,hn,ho,hq,ht,hu,hv,hw,hy,hA,hB,hD,hE,hF,hc,he⟩:=hP.x11;go_wp2_with fail
    refine (hT.out _ hG).mono ?_;rintro e w3 ⟨rfl,hL⟩;clear hf hg hh hi hj hl hm hn ho hq ht hu hv hw hy hA hB hD hE hF hc he;replace hP:=hP.after hL;replace hG:=bt hG hL;clear hL;cases fw
    ·have HF:Hid (r=false):=by rw[Hid,hI.out];rfl
     go_wp2;go_ret
     exact⟨by rw[HF.out];rfl,hG⟩
    obtain⟨hf,hg,hh,hi,hj,hl,hm,hn,ho,hq,ht,hu,hv,hw,hy,hA,hB,hD,hE,hF,hc,he⟩:=hP.x11;go_wp2_with fail
    refine (hU.out _ hG).mono ?_;rintro e w4 ⟨rfl,hb4⟩;clear hf hg hh hi hj hl hm hn ho hq ht hu hv hw hy hA hB hD hE hF hc he;replace hP:=hP.after hb4;replace hG:=bt hG hb4;clear hb4;cases fl
    ·have HF:Hid (r=false):=by rw[Hid,hI.out];rfl
     go_wp2;go_ret
     exact⟨by rw[HF.out];rfl,hG⟩
    by_cases q1:ch.size≤8
    rotate_left
    ·have dq1:decide ((ch.size:Int)≤8)=false:=decide_eq_false (by omega);have HF:Hid (r=false):=by rw[Hid,hI.out,decide_eq_false q1];rfl
     clear q1;obtain⟨hf,hg,hh,hi,hj,hl,hm,hn,ho,hq,ht,hu,hv,hw,hy,hA,hB,hD,hE,hF,hc,he⟩:=hP.x11;go_wp2;go_ret
     exact⟨by rw[HF.out];rfl,hG⟩
    have dq1:decide ((ch.size:Int)≤8)=true:=Dt (by omega);have dq2:decide ((nt:Int)≤100)=false:=decide_eq_false (by have:=h1.out;omega);have HF:Hid (r=false):=by rw[Hid,hI.out,decide_eq_false h1.out];simp
    clear q1;obtain⟨hf,hg,hh,hi,hj,hl,hm,hn,ho,hq,ht,hu,hv,hw,hy,hA,hB,hD,hE,hF,hc,he⟩:=hP.x11;go_wp2;go_ret
    exact⟨by rw[HF.out];rfl,hG⟩
   ·obtain rfl:k=nt:=by omega
    clear hW h6;obtain⟨hf,hg,hh,hi,hj,hl,hm,hn,ho,hq,ht,hu,hv,hw,hy,hA,hB,hD,hE,hF,hc,he⟩:=hP.x11;go_wp2_with fail
    refine (hR.out _ hG).mono ?_;rintro e w2 ⟨rfl,hJ⟩;clear hf hg hh hi hj hl hm hn ho hq ht hu hv hw hy hA hB hD hE hF hc he;replace hP:=hP.after hJ;replace hG:=bt hG hJ;clear hJ;cases fr
    ·have HF:Hid (r=false):=by rw[Hid,hI.out];rfl
     go_wp2;go_ret
     exact⟨by rw[HF.out];rfl,hG⟩
    obtain⟨hf,hg,hh,hi,hj,hl,hm,hn,ho,hq,ht,hu,hv,hw,hy,hA,hB,hD,hE,hF,hc,he⟩:=hP.x11;go_wp2_with fail
    refine (hT.out _ hG).mono ?_;rintro e w3 ⟨rfl,hL⟩;clear hf hg hh hi hj hl hm hn ho hq ht hu hv hw hy hA hB hD hE hF hc he;replace hP:=hP.after hL;replace hG:=bt hG hL;clear hL;cases fw
    ·have HF:Hid (r=false):=by rw[Hid,hI.out];rfl
     go_wp2;go_ret
     exact⟨by rw[HF.out];rfl,hG⟩
    obtain⟨hf,hg,hh,hi,hj,hl,hm,hn,ho,hq,ht,hu,hv,hw,hy,hA,hB,hD,hE,hF,hc,he⟩:=hP.x11;go_wp2_with fail
    refine (hU.out _ hG).mono ?_;rintro e w4 ⟨rfl,hb4⟩;clear hf hg hh hi hj hl hm hn ho hq ht hu hv hw hy hA hB hD hE hF hc he;replace hP:=hP.after hb4;replace hG:=bt hG hb4;clear hb4;cases fl
    ·have HF:Hid (r=false):=by rw[Hid,hI.out];rfl
     go_wp2;go_ret
     exact⟨by rw[HF.out];rfl,hG⟩
    by_cases q1:ch.size≤8
    rotate_left
    ·have dq1:decide ((ch.size:Int)≤8)=false:=decide_eq_false (by omega);have HF:Hid (r=false):=by rw[Hid,hI.out,decide_eq_false q1];rfl
     clear q1;obtain⟨hf,hg,hh,hi,hj,hl,hm,hn,ho,hq,ht,hu,hv,hw,hy,hA,hB,hD,hE,hF,hc,he⟩:=hP.x11;go_wp2;go_ret
     exact⟨by rw[HF.out];rfl,hG⟩
    have dq1:decide ((ch.size:Int)≤8)=true:=Dt (by omega);have dq2:decide ((k:Int)≤100)=true:=Dt (by omega);have h9:Hid (decide (k≤100)=true):=Dt hH;by_cases q3:sd.size≤60
    ·have dq3:decide ((sd.size:Int)≤60)=true:=Dt (by omega);have HF:Hid (r=true):=by rw[Hid,hI.out,Dt q1,h9.out,Dt q3];rfl
     clear q1 q3 hH;obtain⟨hf,hg,hh,hi,hj,hl,hm,hn,ho,hq,ht,hu,hv,hw,hy,hA,hB,hD,hE,hF,hc,he⟩:=hP.x11;go_wp2;go_ret
     exact⟨by rw[HF.out];rfl,hG⟩
    ·have dq3:decide ((sd.size:Int)≤60)=false:=decide_eq_false (by omega);have HF:Hid (r=false):=by rw[Hid,hI.out,decide_eq_false q3];simp
     clear q1 q3 hH;obtain⟨hf,hg,hh,hi,hj,hl,hm,hn,ho,hq,ht,hu,hv,hw,hy,hA,hB,hD,hE,hF,hc,he⟩:=hP.x11;go_wp2;go_ret
     exact⟨by rw[HF.out];rfl,hG⟩
end
section
open Go.RowKit Go.WideShapes Go.ChangeShapes Go.ChangeAt Go.Joins Go.Deep
open Go.ChangeMaps (open_string shut_string)
theorem laid_out:laidOutB Tryz.prog=true:=by kernel_rfl
theorem list1 {α:Type} {l:List α} (h:l.length=1):∃a,l=[a]:=by
 match l,h with
 | [a],_=>exact⟨a,rfl⟩
theorem list2 {α:Type} {l:List α} (h:l.length=2):∃a b,l=[a,b]:=by
 match l,h with
 | [a,b],_=>exact⟨a,b,rfl⟩
theorem list3 {α:Type} {l:List α} (h:l.length=3):∃a b c,l=[a,b,c]:=by
 match l,h with
 | [a,b,c],_=>exact⟨a,b,c,rfl⟩
theorem list4 {α:Type} {l:List α} (h:l.length=4):∃a b c d,l=[a,b,c,d]:=by
 match l,h with
 | [a,b,c,d],_=>exact⟨a,b,c,d,rfl⟩
theorem array11 {α:Type} {l:Array α} (h:l.size=11):∃a b c d e f g i j k m,l=#[a,b,c,d,e,f,g,i,j,k,m]:=by
 obtain⟨l⟩:=l;match l,h with
 | [a,b,c,d,e,f,g,i,j,k,m],_=>exact⟨a,b,c,d,e,f,g,i,j,k,m,rfl⟩
theorem zNat:Tryz.prog.cellsOf 22=1:=by kernel_rfl
theorem zVar:Tryz.prog.cellsOf 71=1:=by kernel_rfl
theorem zGrp:Tryz.prog.cellsOf 86=2:=by kernel_rfl
theorem zInt:Tryz.prog.cellsOf 74=2:=by kernel_rfl
theorem zTrm:Tryz.prog.cellsOf 133=4:=by kernel_rfl
theorem zEqn:Tryz.prog.cellsOf 131=3:=by kernel_rfl
theorem zi64:Tryz.prog.cellsOf 3=1:=by kernel_rfl
theorem zB:Tryz.prog.cellsOf 4=1:=by kernel_rfl
theorem zTs:Tryz.prog.cellsOf 129=1:=by kernel_rfl
theorem zGs:Tryz.prog.cellsOf 25=1:=by kernel_rfl
theorem zVs:Tryz.prog.cellsOf 26=1:=by kernel_rfl
theorem zEs:Tryz.prog.cellsOf 27=1:=by kernel_rfl
theorem zNs:Tryz.prog.cellsOf 31=1:=by kernel_rfl
theorem zZs:Tryz.prog.cellsOf 30=1:=by kernel_rfl
theorem zRule:Tryz.prog.cellsOf 24=2:=by kernel_rfl
theorem zSta:Tryz.prog.cellsOf 29=3:=by kernel_rfl
theorem zTape:Tryz.prog.cellsOf 33=3:=by kernel_rfl
theorem zStr:Tryz.prog.cellsOf 9=1:=by kernel_rfl
theorem zCase:Tryz.prog.cellsOf 50=11:=by kernel_rfl
section
variable {H:Type} {enc:TypeId × Value→H} {w:World} {base:Nat} {held:Bool}
theorem trod_struct6 {P:Program} {spare:Nat→Bool} {t:TypeId} {f0 f1 f2 f3 f4 f5:Field} {fuel:Nat} {cs:List Value} {x:DataW H × List MemPlace} (ht:P.underlying t=some (.struct #[f0,f1,f2,f3,f4,f5])) (h:DataW.trod enc P w base spare held fuel t cs=some x) :
  ∃(y0 y1 y2 y3 y4 y5:DataW H × List MemPlace) (n:Nat),True∧cs.length=P.cellsOf t∧DataW.trod enc P w base spare held n f0.type ((cs.drop f0.offset).take (P.cellsOf f0.type))=some y0 ∧
   DataW.trod enc P w base spare held n f1.type ((cs.drop f1.offset).take (P.cellsOf f1.type))=some y1∧DataW.trod enc P w base spare held n f2.type ((cs.drop f2.offset).take (P.cellsOf f2.type))=some y2 ∧
   DataW.trod enc P w base spare held n f3.type ((cs.drop f3.offset).take (P.cellsOf f3.type))=some y3∧DataW.trod enc P w base spare held n f4.type ((cs.drop f4.offset).take (P.cellsOf f4.type))=some y4 ∧
   DataW.trod enc P w base spare held n f5.type ((cs.drop f5.offset).take (P.cellsOf f5.type))=some y5:=by
 obtain⟨xs,n,_,rfl,hl,hb,hf⟩:=DataW.trod_struct ht h;match xs,hb with
 | [y0,y1,y2,y3,y4,y5],_=>exact⟨y0,y1,y2,y3,y4,y5,n,trivial,hl,by simpa using hf 0 f0 rfl,by simpa using hf 1 f1 rfl,by simpa using hf 2 f2 rfl,by simpa using hf 3 f3 rfl,by simpa using hf 4 f4 rfl,by simpa using hf 5 f5 rfl⟩
theorem row_of {α:Type} {Q:World→α→List Value→Prop} {Sz:α→Prop} (d:α) {size fuel:Nat} {t e:TypeId} {cs:List Value} {x:DataW H × List MemPlace} (ht:Tryz.prog.underlying t=some (.slice e)) (hc:Tryz.prog.cellsOf e=size) (h0:0<size)
  (h:DataW.trod enc Tryz.prog w base (fun _=>true) held fuel t cs=some x)
  (elem:∀n cs' y,cs'.length=size→DataW.trod enc Tryz.prog w base (fun _=>true) held n e cs'=some y→∃a,Q w a cs'∧Sz a) :
  ∃ao n c l,cs=[.slice ao n c]∧RAt Q size w (.slice ao n c) l∧(∀a∈l,Sz a)∧l.length≤maxLen:=by
 rcases open_slice ht h with⟨rfl,_⟩ | ⟨a,len,cap,m,n,D,Pl,rfl,hb,hl,hm,hh,_,hk⟩
 ·exact⟨none,0,0,[],rfl,⟨none,0,rfl,.inl rfl⟩,by simp,by simp⟩
 ·rw[if_pos rfl]at hh;subst hh;rw[hc]at hk;haveI:Inhabited α:=⟨d⟩
  obtain⟨f,hf⟩:=choose_lt (α:=α) (n:=len) (p:=fun i y=>∃cs',w.cells? base (a.add (i*size)) size=some cs'∧Q w y cs'∧Sz y) (fun i hi=>by
   obtain⟨cs',h1,h2⟩:=hk i (by omega);obtain⟨y,hy1,hn⟩:=elem n cs' _ (World.cells?_some h1).2.1 h2;exact⟨y,cs',h1,hy1,hn⟩)
  have hd:((List.range len).map f).length=len:=by simp
  refine⟨some a,len,m,(List.range len).map f,rfl,⟨some a,m,by rw[hd],?_⟩,fun y hy=>?_,by rw[hd];omega⟩
  ·by_cases ho:len=0
   ·exact .inl (by rw[hd];exact ho)
   ·obtain⟨b,off,spot⟩:=a;obtain⟨cs0,g1,_⟩:=hf 0 (by omega);obtain⟨_,g2,g3⟩:=World.cells?_some g1;have g4:=g3 0 h0;have g5:0<cs0.length:=by omega
    rw[List.getElem?_eq_getElem g5]at g4;have he:spot=none:=by simpa [Addr.add] using World.cell?_spot g4
    subst he;refine .inr ⟨b,off,rfl,?_,fun j hj=>?_⟩
    ·rw[add_plain,add_plain]at g4;apply Classical.byContradiction
     intro hp;have hg:w.heap[b]?=none:=by simpa using hp
     simp[World.cell?,hg]at g4
    ·obtain⟨cs',k1,k2,_⟩:=hf j (by rw[←hd];exact hj);refine⟨cs',by simpa using k2,fun i hi=>?_⟩;have:=(World.cells?_some k1).2.2 i hi;rw[add_plain,add_plain]at this;exact this
  ·obtain⟨j,hj,rfl⟩:=List.mem_map.1 hy;obtain⟨cs',_,_,hz⟩:=hf j (List.mem_range.1 hj);exact hz
def szT (t:Trm):Prop:=t.base.size≤maxLen∧t.abs.size≤maxLen
def szQ (q:Eqn):Prop:=q.tgt.size≤maxLen∧q.trms.length≤maxLen∧∀t∈q.trms,szT t
theorem el_nat {n:Nat} {cs:List Value} {y:DataW H × List MemPlace} (hl:cs.length=1) (h:DataW.trod enc Tryz.prog w base (fun _=>true) held n 22 cs=some y):∃a,QStr w a cs∧a.size≤maxLen:=by
 obtain⟨s,rfl,_,hs⟩:=DataW.trod_string Tryz.underlying22 h;exact⟨s,rfl,hs⟩
theorem el_var {n:Nat} {cs:List Value} {y:DataW H × List MemPlace} (hl:cs.length=1) (h:DataW.trod enc Tryz.prog w base (fun _=>true) held n 71 cs=some y):∃a,QStr w a cs∧a.size≤maxLen:=by
 obtain⟨c0,rfl⟩:=list1 hl;obtain⟨y0,m,_,_,h0⟩:=trod_struct1 Tryz.underlying71 h;obtain⟨s,hs,_,hz⟩:=DataW.trod_string Tryz.underlying22 h0;simp[zNat]at hs;subst hs;exact⟨s,rfl,hz⟩
theorem el_grp {n:Nat} {cs:List Value} {y:DataW H × List MemPlace} (hl:cs.length=2) (h:DataW.trod enc Tryz.prog w base (fun _=>true) held n 86 cs=some y):∃a,QGrp w a cs∧(a.1.size≤maxLen∧a.2.size≤maxLen):=by
 obtain⟨c0,c1,rfl⟩:=list2 hl;obtain⟨y0,y1,m,_,_,h0,h1⟩:=trod_struct2 Tryz.underlying86 h;obtain⟨s,hs,_,hz⟩:=DataW.trod_string Tryz.underlying22 h0;obtain⟨s',hb,_,hc⟩:=DataW.trod_string Tryz.underlying22 h1;simp[zNat]at hs hb;subst hs hb;exact⟨(s,s'),rfl,hz,hc⟩
theorem el_int {n:Nat} {cs:List Value} {y:DataW H × List MemPlace} (hl:cs.length=2) (h:DataW.trod enc Tryz.prog w base (fun _=>true) held n 74 cs=some y):∃a,QInt w a cs∧a.2.size≤maxLen:=by
 obtain⟨c0,c1,rfl⟩:=list2 hl;obtain⟨y0,y1,m,_,_,h0,h1⟩:=trod_struct2 Tryz.underlying74 h;obtain⟨s,hs,_⟩:=DataW.trod_bool Tryz.underlying4 h0;obtain⟨s',hb,_,hc⟩:=DataW.trod_string Tryz.underlying22 h1;simp[zNat,zB]at hs hb;subst hs hb;exact⟨(s,s'),rfl,hc⟩
theorem el_trm {n:Nat} {cs:List Value} {y:DataW H × List MemPlace} (hl:cs.length=4) (h:DataW.trod enc Tryz.prog w base (fun _=>true) held n 133 cs=some y):∃a,QTrm w a cs∧szT a:=by
 obtain⟨c0,c1,c2,c3,rfl⟩:=list4 hl;obtain⟨y0,y1,y2,m,_,_,h0,h1,h2⟩:=trod_struct3 Tryz.underlying133 h;obtain⟨z0,z1,m',_,_,g0,g1⟩:=trod_struct2 Tryz.underlying74 h2;obtain⟨s,hs,_,hz⟩:=DataW.trod_string Tryz.underlying22 h0;obtain⟨i,hi,_⟩:=DataW.trod_int Tryz.underlying3 h1;obtain⟨b,hb,_⟩:=DataW.trod_bool Tryz.underlying4 g0;obtain⟨s',hc,_,hd⟩:=DataW.trod_string Tryz.underlying22 g1;simp[zNat,zB,zi64,zInt]at hs hi hb hc;subst hs hi hb hc;exact⟨⟨s,i,b,s'⟩,rfl,hz,hd⟩
theorem el_eqn {n:Nat} {cs:List Value} {y:DataW H × List MemPlace} (hl:cs.length=3) (h:DataW.trod enc Tryz.prog w base (fun _=>true) held n 131 cs=some y):∃a,QEqn w a cs∧szQ a:=by
 obtain⟨c0,c1,c2,rfl⟩:=list3 hl;obtain⟨y0,y1,y2,m,_,_,h0,h1,h2⟩:=trod_struct3 Tryz.underlying131 h;obtain⟨i,hi,_⟩:=DataW.trod_int Tryz.underlying3 h0;obtain⟨s,hs,_,hz⟩:=DataW.trod_string Tryz.underlying22 h1;obtain⟨ao,k,c,l,hc,hr,hd,hb⟩:=row_of (Q:=QTrm) (Sz:=szT) ⟨s,0,false,s⟩ Tryz.underlying129 zTrm (by decide) h2 (fun n cs' y hl h=>el_trm hl h);simp[zNat,zi64,zTs]at hs hi hc;subst hs hi hc;exact⟨⟨i,s,l⟩,⟨_,rfl,hr⟩,hz,hb,hd⟩
theorem open_case {r:Reach} {b0:Nat} {v:Value} {d:DataW H} {p:List MemPlace} (hv:Value.okWide Tryz.prog w r b0 50 v) (h:DataW.Trod enc Tryz.prog w base (fun _=>true) held 50 v d p) :
  ∃(C K ch sd:ByteArray) (S:Sta) (W L:List (Bool × ByteArray)) (V:List ByteArray) (at_:Int) (s1 s2 s3 xw xl xt:Option Addr) (m1 m2 m3 d1 d2 d3 nw pw nl pl nt pt:Nat),
   v=.agg #[.string C,.string K,.slice s1 m1 d1,.slice s2 m2 d2,.slice s3 m3 d3,.slice xw nw pw,.string ch,.slice xl nl pl,.slice xt nt pt,.string sd,.int .i64 at_] ∧
   C.size≤9223372036854775807∧K.size≤9223372036854775807∧SSz S∧StAt w (.slice s1 m1 d1) (.slice s2 m2 d2) (.slice s3 m3 d3) S ∧
   CSz W L V ch sd∧IsAt w (.slice xw nw pw) W∧IsAt w (.slice xl nl pl) L∧SsAt w (.slice xt nt pt) V:=by
 obtain⟨cs,rfl,hg⟩:=okWide_struct Tryz.underlying50 hv;obtain⟨c0,c1,c2,c3,c4,c5,c6,c7,c8,c9,c10,rfl⟩:=array11 (hg.trans zCase);obtain⟨fuel,hf⟩:=h;obtain⟨y0,y1,y2,y3,y4,y5,m,_,_,h0,h1,h2,h3,h4,h5⟩:=trod_struct6 Tryz.underlying50 hf;simp only[Value.cells,zRule,zSta,zZs,zNat,zTape,List.drop_succ_cons,List.drop_zero,List.take_succ_cons,List.take_zero]at h0 h1 h2 h3 h4 h5;obtain⟨_,_,m0,_,_,r0,r1⟩:=trod_struct2 Tryz.underlying24 h0;obtain⟨_,_,_,m1,_,_,t0,t1,t2⟩:=trod_struct3 Tryz.underlying29 h1;obtain⟨_,_,_,m2,_,_,a0,a1,a2⟩:=trod_struct3 Tryz.underlying33 h5;simp only[zNat,zGs,zVs,zEs,zNs,zStr,zi64,List.drop_succ_cons,List.drop_zero,List.take_succ_cons,List.take_zero]at r0 r1 t0 t1 t2 a0 a1 a2;obtain⟨C,hC,_,sC⟩:=DataW.trod_string Tryz.underlying22 r0;obtain⟨K,hK,_,sK⟩:=DataW.trod_string Tryz.underlying22 r1;obtain⟨ch,hb,_,sch⟩:=DataW.trod_string Tryz.underlying22 h3;obtain⟨sd,hc,_,ssd⟩:=DataW.trod_string Tryz.underlying9 a1;obtain⟨ti,hd,_⟩:=DataW.trod_int Tryz.underlying3 a2;obtain⟨g1,g2,g3,G,hG,rG,sG,_⟩:=row_of (Q:=QGrp) (Sz:=fun a=>a.1.size≤maxLen∧a.2.size≤maxLen) (C,C) Tryz.underlying25 zGrp (by decide) t0 (fun n cs' y hl h=>el_grp hl h);obtain⟨v1,v2,v3,V,hV,rV,sV,_⟩:=row_of (Q:=QStr) (Sz:=fun a=>a.size≤maxLen) C Tryz.underlying26 zVar (by decide) t1 (fun n cs' y hl h=>el_var hl h);obtain⟨q1,q2,q3,Qs,hQ,rQ,sQ,_⟩:=row_of (Q:=QEqn) (Sz:=szQ) ⟨0,C,[]⟩ Tryz.underlying27 zEqn (by decide) t2 (fun n cs' y hl h=>el_eqn hl h);obtain⟨f1,f2,f3,TV,he,rTV,sTV,lTV⟩:=row_of (Q:=QStr) (Sz:=fun a=>a.size≤maxLen) C Tryz.underlying31 zNat (by decide) a0 (fun n cs' y hl h=>el_nat hl h);obtain⟨i1,i2,i3,W,hW,rW,sW,lW⟩:=row_of (Q:=QInt) (Sz:=fun a=>a.2.size≤maxLen) (false,C) Tryz.underlying30 zInt (by decide) h2 (fun n cs' y hl h=>el_int hl h);obtain⟨j1,j2,j3,L,hL,rL,sL,lL⟩:=row_of (Q:=QInt) (Sz:=fun a=>a.2.size≤maxLen) (false,C) Tryz.underlying30 zInt (by decide) h4 (fun n cs' y hl h=>el_int hl h);simp only[List.cons.injEq,and_true]at hC hK hb hc hd hG hV hQ he hW hL;subst hC hK hb hc hd hG hV hQ he hW hL;unfold maxLen at sC sK sch ssd sG sV sTV lTV sW lW sL lL;refine⟨C,K,ch,sd,⟨G,V,Qs⟩,W,L,TV,ti,_,_,_,_,_,_,_,_,_,_,_,_,_,_,_,_,_,_,rfl,sC,sK,⟨sG,sV,fun x hx=>?_⟩,⟨rG,rV,rQ⟩,⟨lW,sW,lL,sL,lTV,sTV,sch,ssd⟩,rW,rL,rTV⟩;have:=sQ x hx;unfold szQ szT maxLen at this;exact this
end
end
end Go.Proofs.YtihjpddbjhcbmaaGreatDoor
