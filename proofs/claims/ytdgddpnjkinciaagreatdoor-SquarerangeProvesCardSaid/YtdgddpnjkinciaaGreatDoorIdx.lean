import Derived.Test.YtdgddpnjkinciaaGreatDoorHp2
import Derived.Test.YtdgddpnjkinciaaGreatDoorLdvl
set_option linter.all false
set_option maxRecDepth 100000
set_option maxHeartbeats 16000000
namespace Go.Proofs.YtdgddpnjkinciaaGreatDoor
section
open Go.RowKit
theorem valB_c (s:ByteArray) (b:Bool) (w:World) (hs:s.size≤1000) (h:vldB s=b):Calls Tryz.prog 32 #[.string s] w fun e w'=>e=.returned (.bool b)∧w'=w:=by
 rw[←h];exact (valid_c s w (by omega)).mono fun _ _ h=>⟨h.1,h.2.symm⟩
theorem ivalB_c (n:Bool) (s:ByteArray) (b:Bool) (w:World) (hs:s.size≤1000) (h:ivB n s=b):Calls Tryz.prog 75 #[.agg #[.bool n,.string s]] w fun e w'=>e=.returned (.bool b)∧Bw w w':=by
 rw[←h];exact ivalid_c n s w (by omega)
def gokB (g:ByteArray × ByteArray):Bool:=vldB g.1&&vldB g.2
def tokB (nv:Nat) (t:Trm):Bool:=decide (0≤t.var)&&decide (t.var<(nv:Int))&&vldB t.base&&ivB t.neg t.abs
def eokB (ng nv:Nat) (q:Eqn):Bool:=decide (0≤q.grp)&&decide (q.grp<(ng:Int))&&vldB q.tgt&&q.trms.all (tokB nv)
def formB (S:Sta):Bool:=S.grps.all gokB&&S.vars.all vldB&&S.eqs.all (eokB S.grps.length S.vars.length)
structure SSm (S:Sta):Prop where
 ng:S.grps.length≤1000
 nv:S.vars.length≤1000
 ne:S.eqs.length≤1000
 g:∀x∈S.grps,x.1.size≤1000∧x.2.size≤1000
 v:∀x∈S.vars,x.size≤1000
 e:∀x∈S.eqs,x.tgt.size≤1000∧x.trms.length≤1000∧∀t∈x.trms,t.base.size≤1000∧t.abs.size≤1000
theorem all_take {α:Type} (p:α→Bool) (l:List α) (k:Nat) (h:k<l.length):(l.take (k+1)).all p=((l.take k).all p&&p l[k]):=by
 rw[List.take_succ_eq_append_getElem h,List.all_append];simp
theorem all_bad {α:Type} (p:α→Bool) (l:List α) (k:Nat) (h:k<l.length) (hb:p l[k]=false):l.all p=false:=by
 rw[List.all_eq_false];exact⟨l[k],Gm h,by simp[hb]⟩
theorem all_end {α:Type} (p:α→Bool) (l:List α) (k:Nat) (h:k=l.length) (hb:(l.take k).all p=true):l.all p=true:=by
 rw[h,List.take_length]at hb;exact hb
theorem form_c (S:Sta) (v1 v2 v3:Value) (w:World) (hm:SSm S) (hS:StAt w v1 v2 v3 S) :
  Calls Tryz.prog 114 #[.agg #[v1,v2,v3]] w fun e w'=>e=.returned (.int .i64 (if formB S then 0 else 3))∧Bw w w':=by
 obtain⟨r,hr⟩:∃r:Int,r=if formB S then 0 else 3:=⟨_,rfl⟩
 have hl:=Kh hr;rw[←hr];clear hr;obtain⟨a1,c1,rfl⟩:=hS.g.form;obtain⟨a2,c2,rfl⟩:=hS.v.form;obtain⟨a3,c3,rfl⟩:=hS.e.form;have HM:=Kh hm;obtain⟨n1,hD⟩:∃n,n=S.grps.length:=⟨_,rfl⟩;obtain⟨n2,hE⟩:∃n,n=S.vars.length:=⟨_,rfl⟩;obtain⟨n3,hF⟩:∃n,n=S.eqs.length:=⟨_,rfl⟩;have hG:=Kh hD;have hH:=Kh hE;have hT:=Kh hF;have l1:n1≤1000:=by rw[hD];exact hm.ng
 have l2:n2≤1000:=by rw[hE];exact hm.nv
 have l3:n3≤1000:=by rw[hF];exact hm.ne
 rw[←hD,←hE,←hF]at hS ⊢;clear hm hD hE hF;obtain⟨hP,hi⟩:=blk1 w #[.slice a1 n1 c1,.slice a2 n2 c2,.slice a3 n3 c3] 43;replace hS:=hS.after hi;obtain⟨hb,hc,hd,he,hf,hg⟩:=hP.x3;go_enter Tryz.func114,Tryz.ntmps114
 go_wp2;clear hb hc hd he hf hg;generalize w.alloc (.cells #[.slice a1 n1 c1,.slice a2 n2 c2,.slice a3 n3 c3] 43)=w1 at hP hi hS;replace hP:Blk w1 w.heap.size 43 [.slice a1 n1 c1,.slice a2 n2 c2,.slice a3 n3 c3]:=hP;go_loopw [14] (fun i wr=>∃k:Nat,k≤n1∧i=.int .i64 k∧Hid ((S.grps.take k).all gokB=true)∧Bw w1 wr) (fun i _=>n1-(intOf i).toNat)
 case atStart=>exact⟨0,by omega,rfl,rfl,Br⟩
 case round =>
  obtain⟨k,hk,rfl,HA,hn⟩:=hrel;obtain⟨wp,h3⟩:∃wp,wp=wr:=⟨_,rfl⟩;subst h3;replace hS:=hS.after hn;replace hP:=hP.after hn;replace hi:=bt hi hn;by_cases hlt:k<n1
  ·have ho:k<S.grps.length:=by rw[←hG.out];exact hlt
   have hp:=Kh (HM.out.g _ (Gm ho));have HT:=Kh (all_take gokB S.grps k ho);have hh:Hid (gokB S.grps[k]=false→formB S=false):=fun h=>by unfold formB;rw[all_bad gokB S.grps k ho h];rfl
   obtain⟨b,o,rfl,hU,x1,x2⟩:=hS.g.at_ ho;have HG:Hid (gokB S.grps[k]=(vldB S.grps[k].1&&vldB S.grps[k].2)):=rfl;generalize gokB (S.grps[k]'ho)=gk at HT hh HG;generalize (S.grps[k]'ho).1=s1 at x1 hp HG;generalize (S.grps[k]'ho).2=s2 at x2 hp HG;have hB:=Blk.new wp #[.string s1,.string s2] 24;have hV:(0:Int)≤(k:Int):=by omega
   have hW:(k:Int)<(n1:Int):=by omega
   cases hq:vldB s1
   ·have HF:Hid (formB S=false):=hh.out (by rw[HG.out,hq];rfl);go_wp2_with fail
    refine (valB_c s1 false _ hp.out.1 hq).mono ?_;rintro e w' ⟨rfl,ht⟩;subst w';go_wp2;go_ret
    exact⟨by rw[hl.out,HF.out];rfl,ba hi _⟩
   ·cases hI:vldB s2
    ·have HF:Hid (formB S=false):=hh.out (by rw[HG.out,hq,hI];rfl);go_wp2_with fail
     refine (valB_c s1 true _ hp.out.1 hq).mono ?_;rintro e w' ⟨rfl,ht⟩;subst w';go_wp2_with fail
     refine (valB_c s2 false _ hp.out.2 hI).mono ?_;rintro e w' ⟨rfl,ht⟩;subst w';go_wp2;go_ret
     exact⟨by rw[hl.out,HF.out];rfl,ba hi _⟩
    ·have HX:Hid ((S.grps.take (k+1)).all gokB=true):=by rw[Hid,HT.out,HA.out,HG.out,hq,hI];rfl
     go_wp2_with fail
     refine (valB_c s1 true _ hp.out.1 hq).mono ?_;rintro e w' ⟨rfl,ht⟩;subst w';go_wp2_with fail
     refine (valB_c s2 true _ hp.out.2 hI).mono ?_;rintro e w' ⟨rfl,ht⟩;subst w';go_wp2;go_roundw
     case rel=>exact⟨k+1,by omega,by go_num,HX,ba hn _⟩
     case measure=>simp[intOf];omega
  ·have HG:Hid (S.grps.all gokB=true):=all_end gokB S.grps k (by rw[←hG.out];omega) HA.out;clear hn;obtain⟨hb,hc,hd,he,hf,hg⟩:=hP.x3;go_wp2;clear hb hc hd he hf hg;go_loopw [32] (fun i wr=>∃k:Nat,k≤n2∧i=.int .i64 k∧Hid ((S.vars.take k).all vldB=true)∧Bw wp wr) (fun i _=>n2-(intOf i).toNat)
   case atStart=>exact⟨0,by omega,rfl,rfl,Br⟩
   case round =>
    clear HA hlt hk;obtain⟨k,hk,rfl,HA,hn⟩:=hrel;obtain⟨wq,h4⟩:∃wq,wq=wr:=⟨_,rfl⟩;subst h4;replace hS:=hS.after hn;replace hP:=hP.after hn;replace hi:=bt hi hn;by_cases hlt:k<n2
    ·have ho:k<S.vars.length:=by rw[←hH.out];exact hlt
     have hp:=Kh (HM.out.v _ (Gm ho));have HT:=Kh (all_take vldB S.vars k ho);have hh:Hid (vldB S.vars[k]=false→formB S=false):=fun h=>by unfold formB;rw[all_bad vldB S.vars k ho h];simp
     obtain⟨b,o,rfl,hU,x1⟩:=hS.v.at_ ho;generalize S.vars[k]'ho=s1 at x1 hp HT hh;have hB:=Blk.new wq #[.string s1] 81;have hV:(0:Int)≤(k:Int):=by omega
     have hW:(k:Int)<(n2:Int):=by omega
     cases hq:vldB s1
     ·have HF:Hid (formB S=false):=hh.out hq;go_wp2_with fail
      refine (valB_c s1 false _ hp.out hq).mono ?_;rintro e w' ⟨rfl,ht⟩;subst w';go_wp2;go_ret
      exact⟨by rw[hl.out,HF.out];rfl,ba hi _⟩
     ·have HX:Hid ((S.vars.take (k+1)).all vldB=true):=by rw[Hid,HT.out,HA.out,hq];rfl
      go_wp2_with fail
      refine (valB_c s1 true _ hp.out hq).mono ?_;rintro e w' ⟨rfl,ht⟩;subst w';go_wp2;go_roundw
      case rel=>exact⟨k+1,by omega,by go_num,HX,ba hn _⟩
      case measure=>simp[intOf];omega
    ·have HV:Hid (S.vars.all vldB=true):=all_end vldB S.vars k (by rw[←hH.out];omega) HA.out;clear hn;obtain⟨hb,hc,hd,he,hf,hg⟩:=hP.x3;go_wp2;clear hb hc hd he hf hg;clear HA hlt hk;go_loopw [44] (fun i wr=>∃k:Nat,k≤n3∧i=.int .i64 k∧Hid ((S.eqs.take k).all (eokB n1 n2)=true)∧Bw wq wr) (fun i _=>n3-(intOf i).toNat)
     case atStart=>exact⟨0,by omega,rfl,rfl,Br⟩
     case round =>
      obtain⟨k,hk,rfl,HA,hn⟩:=hrel;obtain⟨wt,h5⟩:∃wt,wt=wr:=⟨_,rfl⟩;subst h5;replace hS:=hS.after hn;replace hP:=hP.after hn;replace hi:=bt hi hn;by_cases hlt:k<n3
      ·have ho:k<S.eqs.length:=by rw[←hT.out];exact hlt
       have hp:=Kh (HM.out.e _ (Gm ho));have HT:=Kh (all_take (eokB n1 n2) S.eqs k ho);have hh:Hid (eokB n1 n2 S.eqs[k]=false→formB S=false):=fun h=>by unfold formB;rw[←hG.out,←hH.out,all_bad (eokB n1 n2) S.eqs k ho h];simp
       obtain⟨b,o,tv,rfl,hU,x1,x2,x3,hu⟩:=hS.e.at_ ho;generalize S.eqs[k]'ho=q at x1 x2 x3 hu hp HT hh;obtain⟨qg,qt,qs⟩:=q;simp only[]at x1 x2 x3 hu;obtain⟨to_,tc,rfl⟩:=RAt.form hu;obtain⟨n4,hK⟩:∃n,n=qs.length:=⟨_,rfl⟩;have hL:=Kh hK;rw[←hK]at x3 hu;clear hK;have hB:=Blk.new wt #[.int .i64 qg,.string qt,.slice to_ n4 tc] 87;have hV:(0:Int)≤(k:Int):=by omega
       have hW:(k:Int)<(n3:Int):=by omega
       have Hb:=hP.lt;have HQ:Hid (eokB n1 n2 ⟨qg,qt,qs⟩=(decide (0≤qg)&&decide (qg<(n1:Int))&&vldB qt&&qs.all (tokB n2))):=rfl;generalize eokB n1 n2 ⟨qg,qt,qs⟩=ek at HT hh HQ;cases hX:decide (qg<0)
       ·cases hY:decide ((n1:Int)≤qg)
        ·have hx1:decide (0≤qg)=true:=Dt (by have:=of_decide_eq_false hX;omega);have hZ:decide (qg<(n1:Int))=true:=Dt (by have:=of_decide_eq_false hY;omega);cases hv:vldB qt
         ·have HF:Hid (formB S=false):=hh.out (by rw[HQ.out,hv,hx1,hZ];rfl);obtain⟨hb,hc,hd,he,hf,hg⟩:=hP.x3;go_wp2_with fail
          refine (valB_c qt false _ hp.out.1 hv).mono ?_;rintro e w' ⟨rfl,ht⟩;subst w';go_wp2;go_ret
          exact⟨by rw[hl.out,HF.out];rfl,ba hi _⟩
         ·have h6:=hP.lt;obtain⟨hb,hc,hd,he,hf,hg⟩:=hP.x3;go_wp2_with fail
          refine (valB_c qt true _ hp.out.1 hv).mono ?_;rintro e w' ⟨rfl,ht⟩;subst w';go_wp2;clear hb hc hd he hf hg;replace hP:=hP.alloc (.cells #[.int .i64 qg,.string qt,.slice to_ n4 tc] 87);replace hu:=TsAt.after hu (b1 _ (.cells #[.int .i64 qg,.string qt,.slice to_ n4 tc] 87));replace hi:=ba hi (.cells #[.int .i64 qg,.string qt,.slice to_ n4 tc] 87);replace hn:=ba hn (.cells #[.int .i64 qg,.string qt,.slice to_ n4 tc] 87);have l4:n4≤1000:=by rw[hL.out];exact hp.out.2.1
          generalize wt.alloc (.cells #[.int .i64 qg,.string qt,.slice to_ n4 tc] 87)=wu at hP hu hi hn;clear hB hS;go_loopw [68] (fun i wr=>∃k:Nat,k≤n4∧i=.int .i64 k∧Hid ((qs.take k).all (tokB n2)=true)∧Bw wu wr) (fun i _=>n4-(intOf i).toNat)
          case atStart=>exact⟨0,by omega,rfl,rfl,Br⟩
          case round =>
           obtain⟨j,hj,rfl,HJ,hA⟩:=hrel;obtain⟨wv,h7⟩:∃wv,wv=wr:=⟨_,rfl⟩;subst h7;replace hP:=hP.after hA;replace hu:=TsAt.after hu hA;replace hi:=bt hi hA;by_cases hM:j<n4
           ·have hC:j<qs.length:=by rw[←hL.out];exact hM
            have hw:=Kh (hp.out.2.2 _ (Gm hC));have hN:=Kh (all_take (tokB n2) qs j hC);have hx:Hid (tokB n2 qs[j]=false→formB S=false):=fun h=>hh.out (by rw[HQ.out,all_bad (tokB n2) qs j hC h];simp)
            obtain⟨b4,o4,rfl,h8,y1,y2,y3,y4⟩:=TsAt.at_ hu hC;generalize qs[j]'hC=t at y1 y2 y3 y4 hw hN hx;obtain⟨tb,tv,tn,ta⟩:=t;simp only[]at y1 y2 y3 y4;have Hc:=Blk.new wv #[.string tb,.int .i64 tv,.bool tn,.string ta] 129;have Hd:(0:Int)≤(j:Int):=by omega
            have He:(j:Int)<(n4:Int):=by omega
            have h9:=hP.lt;have hy:Hid (tokB n2 ⟨tb,tv,tn,ta⟩=(decide (0≤tv)&&decide (tv<(n2:Int))&&vldB tb&&ivB tn ta)):=rfl;generalize tokB n2 ⟨tb,tv,tn,ta⟩=tk at hN hx hy;cases h0:decide (tv<0)
            ·cases h2:decide ((n2:Int)≤tv)
             ·have hO:decide (0≤tv)=true:=Dt (by have:=of_decide_eq_false h0;omega);have hQ:decide (tv<(n2:Int))=true:=Dt (by have:=of_decide_eq_false h2;omega);cases hz:vldB tb
              ·have HF:Hid (formB S=false):=hx.out (by rw[hy.out,hz,hO,hQ];rfl);obtain⟨hb,hc,hd,he,hf,hg⟩:=hP.x3;go_wp2_with fail
               refine (valB_c tb false _ hw.out.1 hz).mono ?_;rintro e w' ⟨rfl,ht⟩;subst w';go_wp2;go_ret
               exact⟨by rw[hl.out,HF.out];rfl,ba hi _⟩
              ·cases hJ:ivB tn ta
               ·have HF:Hid (formB S=false):=hx.out (by rw[hy.out,hz,hO,hQ,hJ];rfl);obtain⟨hb,hc,hd,he,hf,hg⟩:=hP.x3;go_wp2_with fail
                refine (valB_c tb true _ hw.out.1 hz).mono ?_;rintro e w' ⟨rfl,ht⟩;subst w';go_wp2_with fail
                refine (ivalB_c tn ta false _ hw.out.2 hJ).mono ?_;rintro e w7 ⟨rfl,hR⟩;go_wp2;go_ret
                exact⟨by rw[hl.out,HF.out];rfl,bt (ba hi _) hR⟩
               ·have HX:Hid ((qs.take (j+1)).all (tokB n2)=true):=by rw[Hid,hN.out,HJ.out,hy.out,hz,hO,hQ,hJ];rfl
                obtain⟨hb,hc,hd,he,hf,hg⟩:=hP.x3;go_wp2_with fail
                refine (valB_c tb true _ hw.out.1 hz).mono ?_;rintro e w' ⟨rfl,ht⟩;subst w';go_wp2_with fail
                refine (ivalB_c tn ta true _ hw.out.2 hJ).mono ?_;rintro e w7 ⟨rfl,hR⟩;go_wp2;go_roundw
                case rel=>exact⟨j+1,by omega,by go_num,HX,bt (ba hA _) hR⟩
                case measure=>simp[intOf];omega
             ·have HF:Hid (formB S=false):=hx.out (by rw[hy.out,decide_eq_false (show ¬ tv<(n2:Int) by have:=of_decide_eq_true h2;omega)];simp);obtain⟨hb,hc,hd,he,hf,hg⟩:=hP.x3;go_wp2;go_ret
              exact⟨by rw[hl.out,HF.out];rfl,ba hi _⟩
            ·have HF:Hid (formB S=false):=hx.out (by rw[hy.out,decide_eq_false (show ¬ 0≤tv by have:=of_decide_eq_true h0;omega)];simp);obtain⟨hb,hc,hd,he,hf,hg⟩:=hP.x3;go_wp2;go_ret
             exact⟨by rw[hl.out,HF.out];rfl,ba hi _⟩
           ·have Ha:Hid (qs.all (tokB n2)=true):=all_end (tokB n2) qs j (by rw[←hL.out];omega) HJ.out;have HX:Hid ((S.eqs.take (k+1)).all (eokB n1 n2)=true):=by rw[Hid,HT.out,HA.out,HQ.out,hv,hx1,hZ,Ha.out];rfl
            go_wp2;go_roundw
            case rel=>exact⟨k+1,by omega,by go_num,HX,bt hn hA⟩
            case measure=>simp[intOf];omega
        ·have HF:Hid (formB S=false):=hh.out (by rw[HQ.out,decide_eq_false (show ¬ qg<(n1:Int) by have:=of_decide_eq_true hY;omega)];simp);obtain⟨hb,hc,hd,he,hf,hg⟩:=hP.x3;go_wp2;go_ret
         exact⟨by rw[hl.out,HF.out];rfl,ba hi _⟩
       ·have HF:Hid (formB S=false):=hh.out (by rw[HQ.out,decide_eq_false (show ¬ 0≤qg by have:=of_decide_eq_true hX;omega)];simp);obtain⟨hb,hc,hd,he,hf,hg⟩:=hP.x3;go_wp2;go_ret
        exact⟨by rw[hl.out,HF.out];rfl,ba hi _⟩
      ·have HE:Hid (S.eqs.all (eokB n1 n2)=true):=all_end (eokB n1 n2) S.eqs k (by rw[←hT.out];omega) HA.out;have HF:Hid (formB S=true):=by unfold Hid formB;rw[HG.out,HV.out,←hG.out,←hH.out,HE.out];rfl
       go_wp2;go_ret
       exact⟨by rw[hl.out,HF.out];rfl,hi⟩
end
section
open Go.RowKit
structure NTrm where
 base:Nat
 var:Nat
 coef:Int
structure NEqn where
 grp:Nat
 tgt:Nat
 trms:List NTrm
structure NSta where
 grps:List (Nat × Nat)
 vars:List Nat
 eqs:List NEqn
def NTrm.t (x:NTrm):Trm:=⟨E x.base,(x.var:Int),sg x.coef,E x.coef.natAbs⟩
def NEqn.q (x:NEqn):Eqn:=⟨(x.grp:Int),E x.tgt,x.trms.map NTrm.t⟩
def gE (g:Nat × Nat):ByteArray × ByteArray:=(E g.1,E g.2)
def NSta.s (x:NSta):Sta:=⟨x.grps.map gE,x.vars.map E,x.eqs.map NEqn.q⟩
def tszB (t:Trm):Bool:=decide (t.base.size≤16)&&decide (t.abs.size≤16)
def eszB (q:Eqn):Bool:=decide (q.trms.length≤12)&&decide (q.tgt.size≤16)&&q.trms.all tszB
structure NOk (N:NSta):Prop where
 ng:N.grps.length≤10
 nv:N.vars.length≤12
 ne:N.eqs.length≤12
 g:∀x∈N.grps,x.1<256^8∧x.2<256^8
 v:∀x∈N.vars,x<256^26
 e:∀q∈N.eqs,q.grp<N.grps.length∧q.tgt<256^16∧q.trms.length≤12∧∀t∈q.trms,t.base<256^16∧t.var<N.vars.length∧t.coef.natAbs<256^16
theorem list_lift {α β:Type} (f:β→α) (P:β→Prop):∀(l:List α),(∀x∈l,∃y,f y=x∧P y)→∃l':List β,l'.map f=l∧∀y∈l',P y
 | [],_=>⟨[],rfl,fun y h=>by cases h⟩
 | x :: t,h=>by
  obtain⟨y,h1,h2⟩:=h x (List.mem_cons_self ..);obtain⟨l,h3,h4⟩:=list_lift f P t (fun z hz=>h z (List.mem_cons_of_mem _ hz));refine⟨y :: l,by rw[List.map_cons,h1,h3],fun z hz=>?_⟩;rcases List.mem_cons.1 hz with h | h
  ·rw[h];exact h2
  ·exact h4 z h
theorem lt_of_size {n k:Nat} (h:(E n).size≤k):n<256^k:=(E_size_le n k).1 h
theorem trm_num (nv:Nat) (t:Trm) (h1:tokB nv t=true) (h2:tszB t=true):∃y:NTrm,y.t=t∧(y.base<256^16∧y.var<nv∧y.coef.natAbs<256^16):=by
 obtain⟨tb,tv,tn,ta⟩:=t;simp only[tokB,tszB,Bool.and_eq_true,decide_eq_true_eq]at h1 h2;obtain⟨⟨⟨h0,hlt⟩,hb⟩,hi⟩:=h1;obtain⟨b,_,rfl⟩:=of_vldB hb;obtain⟨z,_,rfl,rfl⟩:=of_ivB hi;obtain⟨v,rfl⟩:=Int.eq_ofNat_of_zero_le h0;exact⟨⟨b,v,z⟩,rfl,lt_of_size h2.1,Int.ofNat_lt.1 hlt,lt_of_size h2.2⟩
theorem eqn_num (ng nv:Nat) (q:Eqn) (h1:eokB ng nv q=true) (h2:eszB q=true):∃y:NEqn,y.q=q∧(y.grp<ng∧y.tgt<256^16∧y.trms.length≤12∧∀t∈y.trms,t.base<256^16∧t.var<nv∧t.coef.natAbs<256^16):=by
 obtain⟨qg,qt,qs⟩:=q;simp only[eokB,eszB,Bool.and_eq_true,decide_eq_true_eq,List.all_eq_true]at h1 h2;obtain⟨⟨⟨h0,hlt⟩,hb⟩,hi⟩:=h1;obtain⟨b,_,rfl⟩:=of_vldB hb;obtain⟨g,rfl⟩:=Int.eq_ofNat_of_zero_le h0;obtain⟨l,hl,hp⟩:=list_lift NTrm.t (fun y=>y.base<256^16∧y.var<nv∧y.coef.natAbs<256^16) qs (fun t ht=>trm_num nv t (hi t ht) (h2.2 t ht));refine⟨⟨g,b,l⟩,by rw[NEqn.q,hl],Int.ofNat_lt.1 hlt,lt_of_size h2.1.2,?_,hp⟩;have:(l.map NTrm.t).length≤12:=by rw[hl];exact Nat.le_trans h2.1.1 (by decide)
 simpa using this
theorem NOk.ssm {N:NSta} (h:NOk N):SSm N.s where
 ng:=by have:=h.ng;simp[NSta.s];omega
 nv:=by have:=h.nv;simp[NSta.s];omega
 ne:=by have:=h.ne;simp[NSta.s];omega
 g:=by
  intro x hx;obtain⟨y,hy,rfl⟩:=List.mem_map.1 hx;have h1:=(E_size_le _ _).2 (h.g y hy).1;have h2:=(E_size_le _ _).2 (h.g y hy).2;exact⟨by simp only[gE];omega,by simp only[gE];omega⟩
 v:=by
  intro x hx;obtain⟨y,hy,rfl⟩:=List.mem_map.1 hx;have h1:=(E_size_le _ _).2 (h.v y hy);omega
 e:=by
  intro x hx;obtain⟨y,hy,rfl⟩:=List.mem_map.1 hx;obtain⟨_,h1,h2,h3⟩:=h.e y hy;have h1:=(E_size_le _ _).2 h1;refine⟨by simp only[NEqn.q];omega,by simp only[NEqn.q,List.length_map];omega,fun t ht=>?_⟩;obtain⟨z,hz,rfl⟩:=List.mem_map.1 ht;obtain⟨h4,_,h5⟩:=h3 z hz;have h4:=(E_size_le _ _).2 h4;have h5:=(E_size_le _ _).2 h5;exact⟨by simp only[NTrm.t];omega,by simp only[NTrm.t];omega⟩
theorem NOk.form {N:NSta} (h:NOk N):formB N.s=true:=by
 simp only[formB,Bool.and_eq_true,List.all_eq_true];refine⟨⟨fun x hx=>?_,fun x hx=>?_⟩,fun x hx=>?_⟩
 ·obtain⟨y,hy,rfl⟩:=List.mem_map.1 hx;simp only[gokB,gE,Bool.and_eq_true];exact⟨vldB_E _ (Nl (h.g y hy).1 (by decide)),vldB_E _ (Nl (h.g y hy).2 (by decide))⟩
 ·obtain⟨y,hy,rfl⟩:=List.mem_map.1 hx;exact vldB_E _ (Nl (h.v y hy) (by decide))
 ·obtain⟨y,hy,rfl⟩:=List.mem_map.1 hx;obtain⟨h1,h2,h3,h4⟩:=h.e y hy;simp only[eokB,NEqn.q,Bool.and_eq_true,decide_eq_true_eq,List.all_eq_true,NSta.s,List.length_map];refine⟨⟨⟨Dt (Int.natCast_nonneg _),Int.ofNat_lt.2 h1⟩,vldB_E _ (Nl h2 (by decide))⟩,fun t ht=>?_⟩;obtain⟨z,hz,rfl⟩:=List.mem_map.1 ht;obtain⟨h5,h6,h7⟩:=h4 z hz;simp only[tokB,NTrm.t,Bool.and_eq_true,decide_eq_true_eq];exact⟨⟨⟨Dt (Int.natCast_nonneg _),Dt (Int.ofNat_lt.2 h6)⟩,vldB_E _ (Nl h5 (by decide))⟩,ivB_I _ (Nl h7 (by decide))⟩
def NSta.gp (N:NSta) (q:NEqn):Nat × Nat:=N.grps.getD q.grp (0,0)
def NSta.ord (N:NSta):Nat:=((N.grps.map (·.2)).find? (· != 0)).getD 0
def hasQ (g:Nat × Nat) (t:NTrm):Bool:=hasB g.1 g.2 t.base
def elemQ (N:NSta) (q:NEqn):Bool:=hasB (N.gp q).1 (N.gp q).2 q.tgt&&q.trms.all (hasQ (N.gp q))
def gr0 (g:Nat × Nat):Bool:=grpE g.1 g.2==0
def NSta.elem (N:NSta):Bool:=N.grps.all gr0&&N.eqs.all (elemQ N)
def vz (n:Nat):Bool:=n==0
def NSta.tz (N:NSta) (t:NTrm):Bool:=vz (N.vars.getD t.var 0)
def gq (n:Nat) (g:Nat × Nat):Bool:=g.2 != 0&&g.2 != n
def kindQ (N:NSta) (q:NEqn):Bool:=!(vz (N.gp q).2) || !(q.trms.any N.tz)
def NSta.typ (N:NSta):Bool:=!(N.vars.any vz) || (!(vz N.ord)&&!(N.grps.any (gq N.ord))&&N.eqs.all (kindQ N))
def NSta.chk (N:NSta):Nat:=if 8<N.grps.length then 6 else if N.elem=false then 13 else if N.typ=false then 10 else 0
def NAt (w:World) (v1 v2 v3:Value) (N:NSta):Prop:=StAt w v1 v2 v3 N.s
def TNAt (w:World) (v:Value) (l:List NTrm):Prop:=TsAt w v (l.map NTrm.t)
theorem NAt.after {w w':World} {v1 v2 v3:Value} {N:NSta} (h:NAt w v1 v2 v3 N) (hb:Bw w w'):NAt w' v1 v2 v3 N:=StAt.after h hb
theorem TNAt.after {w w':World} {v:Value} {l:List NTrm} (h:TNAt w v l) (hb:Bw w w'):TNAt w' v l:=TsAt.after h hb
theorem NAt.forms {w:World} {v1 v2 v3:Value} {N:NSta} (h:NAt w v1 v2 v3 N):∃a1 c1 a2 c2 a3 c3,v1=.slice a1 N.grps.length c1∧v2=.slice a2 N.vars.length c2∧v3=.slice a3 N.eqs.length c3:=by
 obtain⟨a1,c1,h1⟩:=RAt.form h.g;obtain⟨a2,c2,h2⟩:=RAt.form h.v;obtain⟨a3,c3,h3⟩:=RAt.form h.e;exact⟨a1,c1,a2,c2,a3,c3,by rw[h1];simp[NSta.s],by rw[h2];simp[NSta.s],by rw[h3];simp[NSta.s]⟩
theorem TNAt.form {w:World} {v:Value} {l:List NTrm} (h:TNAt w v l):∃a c,v=.slice a l.length c:=by
 obtain⟨a1,c1,h1⟩:=RAt.form h;exact⟨a1,c1,by rw[h1];simp⟩
section
variable {w:World} {ao:Option Addr} {n c k:Nat} {v1 v2 v3:Value} {N:NSta}
theorem NAt.gat (h:NAt w (.slice ao n c) v2 v3 N) (hk:k<N.grps.length):∃b o,ao=some ⟨b,o,none⟩∧b<w.heap.size∧w.cell? ⟨b,o+k*2,none⟩=some (.string (E N.grps[k].1))∧w.cell? ⟨b,o+k*2+1,none⟩=some (.string (E N.grps[k].2)):=by
 have hb:k<N.s.grps.length:=by simpa [NSta.s] using hk
 obtain⟨b,o,h1,h2,h3,h4⟩:=GsAt.at_ h.g hb;simp only[NSta.s,List.getElem_map,gE]at h3 h4;exact⟨b,o,h1,h2,h3,h4⟩
theorem NAt.vat (h:NAt w v1 (.slice ao n c) v3 N) (hk:k<N.vars.length):∃b o,ao=some ⟨b,o,none⟩∧b<w.heap.size∧w.cell? ⟨b,o+k,none⟩=some (.string (E N.vars[k])):=by
 have hb:k<N.s.vars.length:=by simpa [NSta.s] using hk
 obtain⟨b,o,h1,h2,h3⟩:=SsAt.at_ h.v hb;simp only[NSta.s,List.getElem_map]at h3;exact⟨b,o,h1,h2,h3⟩
theorem NAt.eat (h:NAt w v1 v2 (.slice ao n c) N) (hk:k<N.eqs.length):∃b o tv,ao=some ⟨b,o,none⟩∧b<w.heap.size∧w.cell? ⟨b,o+k*3,none⟩=some (.int .i64 (N.eqs[k].grp:Int))∧w.cell? ⟨b,o+k*3+1,none⟩=some (.string (E N.eqs[k].tgt))∧w.cell? ⟨b,o+k*3+2,none⟩=some tv∧TNAt w tv N.eqs[k].trms:=by
 have hb:k<N.s.eqs.length:=by simpa [NSta.s] using hk
 obtain⟨b,o,tv,h1,h2,h3,h4,h5,h6⟩:=EsAt.at_ h.e hb;simp only[NSta.s,List.getElem_map,NEqn.q]at h3 h4 h6;exact⟨b,o,tv,h1,h2,h3,h4,h5,h6⟩
theorem TNAt.at_ {l:List NTrm} (h:TNAt w (.slice ao n c) l) (hk:k<l.length):∃b o,ao=some ⟨b,o,none⟩∧b<w.heap.size∧w.cell? ⟨b,o+k*4,none⟩=some (.string (E l[k].base))∧w.cell? ⟨b,o+k*4+1,none⟩=some (.int .i64 (l[k].var:Int))∧w.cell? ⟨b,o+k*4+2,none⟩=some (.bool (sg l[k].coef))∧w.cell? ⟨b,o+k*4+3,none⟩=some (.string (E l[k].coef.natAbs)):=by
 have hb:k<(l.map NTrm.t).length:=by simpa using hk
 obtain⟨b,o,h1,h2,h3,h4,h5,h6⟩:=TsAt.at_ h hb;simp only[List.getElem_map,NTrm.t]at h3 h4 h5 h6;exact⟨b,o,h1,h2,h3,h4,h5,h6⟩
end
end
section
open Go.RowKit
def IPost (b:Bool) (w:World) (e:Ending) (w':World):Prop:=∃i:Int,e=.returned (.int .i64 i)∧decide (0≤i)=b∧Bw w w'
theorem any_take {α:Type} (p:α→Bool) (l:List α) (k:Nat) (h:k<l.length):(l.take (k+1)).any p=((l.take k).any p || p l[k]):=by
 rw[List.take_succ_eq_append_getElem h,List.any_append];simp
theorem any_hit {α:Type} (p:α→Bool) (l:List α) (k:Nat) (h:k<l.length) (hb:p l[k]=true):l.any p=true:=by
 rw[List.any_eq_true];exact⟨l[k],Gm h,hb⟩
theorem any_end {α:Type} (p:α→Bool) (l:List α) (k:Nat) (h:k=l.length) (hb:(l.take k).any p=false):l.any p=false:=by
 rw[h,List.take_length]at hb;exact hb
theorem idx_siz (l:List Eqn) (p:Eqn→Bool) (v:Value) (w:World) (hn:l.length≤1000) (hR:EsAt w v l)
  (hf:∀k (hk:k<l.length) (w':World) (tv:Value),Bw w w'→TsAt w' tv (l[k]'hk).trms→Calls Tryz.prog 153 #[.agg #[.int .i64 (l[k]'hk).grp,.string (l[k]'hk).tgt,tv]] w' fun e w''=>e=.returned (.bool (p (l[k]'hk)))∧Bw w' w'') :
  Calls Tryz.prog 192 #[v,.func (.func 153) #[] #[]] w (IPost (l.any p) w):=by
 obtain⟨ao,c,rfl⟩:=RAt.form hR;obtain⟨n,hd⟩:∃n,n=l.length:=⟨_,rfl⟩;have HN:=Kh hd;rw[←hd]at hR hn ⊢;clear hd;have HF:=Kh hf;clear hf;go_enter Tryz.func192,Tryz.ntmps192
 go_wp2;go_loopw [8] (fun i wr=>∃k:Nat,k≤n∧i=.int .i64 k∧Hid ((l.take k).any p=false)∧Bw w wr) (fun i _=>n-(intOf i).toNat)
 case atStart=>exact⟨0,by omega,rfl,rfl,Br⟩
 case round =>
  obtain⟨k,hk,rfl,HA,hc⟩:=hrel;obtain⟨wp,hg⟩:∃wp,wp=wr:=⟨_,rfl⟩;subst hg;replace hR:=EsAt.after hR hc;by_cases hlt:k<n
  ·have hb:k<l.length:=by rw[←HN.out];exact hlt
   have HT:=Kh (any_take p l k hb);have HB:Hid (p (l[k]'hb)=true→l.any p=true):=any_hit p l k hb;obtain⟨b,o,tv,rfl,hi,x1,x2,x3,x4⟩:=EsAt.at_ hR hb;have HC:=Kh (HF.out k hb _ tv hc x4);generalize p (l[k]'hb)=pk at HT HB HC;generalize (l[k]'hb)=x at x1 x2 x4 HC;obtain⟨y1,y2,y3⟩:=x;simp only[]at x1 x2 HC;have hh:(0:Int)≤(k:Int):=by omega
   have hj:(k:Int)<(n:Int):=by omega
   clear hR;cases pk
   ·have HX:Hid ((l.take (k+1)).any p=false):=by rw[Hid,HT.out,HA.out];rfl
    clear HT HB;go_wp2_with fail
    refine (HC.out).mono ?_;rintro e w2 ⟨rfl,he⟩;go_wp2;go_roundw
    case rel=>exact⟨k+1,by omega,by go_num,HX,bt hc he⟩
    case measure=>simp[intOf];omega
   ·have HX:Hid (l.any p=true):=HB.out rfl;clear HT HB;go_wp2_with fail
    refine (HC.out).mono ?_;rintro e w2 ⟨rfl,he⟩;go_wp2;go_ret
    exact⟨(k:Int),rfl,by rw[HX.out];exact Dt hh,bt hc he⟩
  ·have HX:Hid (l.any p=false):=any_end p l k (by rw[←HN.out];omega) HA.out;go_wp2;go_ret
   exact⟨-1,rfl,by rw[HX.out];rfl,hc⟩
theorem cont_siz (l:List Eqn) (p:Eqn→Bool) (b:Bool) (v:Value) (w:World) (hn:l.length≤1000) (hR:EsAt w v l) (hb:l.any p=b)
  (hf:∀k (hk:k<l.length) (w':World) (tv:Value),Bw w w'→TsAt w' tv (l[k]'hk).trms→Calls Tryz.prog 153 #[.agg #[.int .i64 (l[k]'hk).grp,.string (l[k]'hk).tgt,tv]] w' fun e w''=>e=.returned (.bool (p (l[k]'hk)))∧Bw w' w'') :
  Calls Tryz.prog 152 #[v,.func (.func 153) #[] #[]] w fun e w'=>e=.returned (.bool b)∧Bw w w':=by
 have HE:=Kh (idx_siz l p v w hn hR hf);rw[hb]at HE;obtain⟨ao,c,rfl⟩:=RAt.form hR;generalize l.length=n at HE;clear hn hR hf hb;go_enter Tryz.func152,Tryz.ntmps152
 go_wp2_with fail
 refine HE.out.mono ?_;rintro e w1 ⟨i,rfl,hi,hc⟩;have HI:=Kh hi;clear hi;cases b
 ·have hi:decide (0≤i)=false:=HI.out;go_wp2;go_ret
  exact⟨rfl,hc⟩
 ·have hi:decide (0≤i)=true:=HI.out;go_wp2;go_ret
  exact⟨rfl,hc⟩
theorem idx_elt (l:List Trm) (p:Trm→Bool) (v:Value) (g1:Nat) (w:World) (hn:l.length≤1000) (hR:TsAt w v l)
  (hf:∀k (hk:k<l.length) (w':World),Bw w w'→Calls Tryz.prog 155 #[.agg #[.string (l[k]'hk).base,.int .i64 (l[k]'hk).var,.bool (l[k]'hk).neg,.string (l[k]'hk).abs],.pointer (some ⟨g1,0,none⟩)] w' fun e w''=>e=.returned (.bool (p (l[k]'hk)))∧Bw w' w'') :
  Calls Tryz.prog 193 #[v,.func (.func 155) #[] #[.pointer (some ⟨g1,0,none⟩)]] w (IPost (l.any p) w):=by
 obtain⟨ao,c,rfl⟩:=RAt.form hR;obtain⟨n,hd⟩:∃n,n=l.length:=⟨_,rfl⟩;have HN:=Kh hd;rw[←hd]at hR hn ⊢;clear hd;have HF:=Kh hf;clear hf;go_enter Tryz.func193,Tryz.ntmps193
 go_wp2;go_loopw [8] (fun i wr=>∃k:Nat,k≤n∧i=.int .i64 k∧Hid ((l.take k).any p=false)∧Bw w wr) (fun i _=>n-(intOf i).toNat)
 case atStart=>exact⟨0,by omega,rfl,rfl,Br⟩
 case round =>
  obtain⟨k,hk,rfl,HA,hc⟩:=hrel;obtain⟨wp,hg⟩:∃wp,wp=wr:=⟨_,rfl⟩;subst hg;replace hR:=TsAt.after hR hc;by_cases hlt:k<n
  ·have hb:k<l.length:=by rw[←HN.out];exact hlt
   have HT:=Kh (any_take p l k hb);have HB:Hid (p (l[k]'hb)=true→l.any p=true):=any_hit p l k hb;obtain⟨b,o,rfl,hi,x1,x2,x3,x4⟩:=TsAt.at_ hR hb;have HC:=Kh (HF.out k hb _ hc);generalize p (l[k]'hb)=pk at HT HB HC;generalize (l[k]'hb)=x at x1 x2 x3 x4 HC;obtain⟨y1,y2,y3,y4⟩:=x;simp only[]at x1 x2 x3 x4 HC;have hh:(0:Int)≤(k:Int):=by omega
   have hj:(k:Int)<(n:Int):=by omega
   clear hR;cases pk
   ·have HX:Hid ((l.take (k+1)).any p=false):=by rw[Hid,HT.out,HA.out];rfl
    clear HT HB;go_wp2_with fail
    refine (HC.out).mono ?_;rintro e w2 ⟨rfl,he⟩;go_wp2;go_roundw
    case rel=>exact⟨k+1,by omega,by go_num,HX,bt hc he⟩
    case measure=>simp[intOf];omega
   ·have HX:Hid (l.any p=true):=HB.out rfl;clear HT HB;go_wp2_with fail
    refine (HC.out).mono ?_;rintro e w2 ⟨rfl,he⟩;go_wp2;go_ret
    exact⟨(k:Int),rfl,by rw[HX.out];exact Dt hh,bt hc he⟩
  ·have HX:Hid (l.any p=false):=any_end p l k (by rw[←HN.out];omega) HA.out;go_wp2;go_ret
   exact⟨-1,rfl,by rw[HX.out];rfl,hc⟩
theorem cont_elt (l:List Trm) (p:Trm→Bool) (b:Bool) (v:Value) (g1:Nat) (w:World) (hn:l.length≤1000) (hR:TsAt w v l) (hb:l.any p=b)
  (hf:∀k (hk:k<l.length) (w':World),Bw w w'→Calls Tryz.prog 155 #[.agg #[.string (l[k]'hk).base,.int .i64 (l[k]'hk).var,.bool (l[k]'hk).neg,.string (l[k]'hk).abs],.pointer (some ⟨g1,0,none⟩)] w' fun e w''=>e=.returned (.bool (p (l[k]'hk)))∧Bw w' w'') :
  Calls Tryz.prog 154 #[v,.func (.func 155) #[] #[.pointer (some ⟨g1,0,none⟩)]] w fun e w'=>e=.returned (.bool b)∧Bw w w':=by
 have HE:=Kh (idx_elt l p v g1 w hn hR hf);rw[hb]at HE;obtain⟨ao,c,rfl⟩:=RAt.form hR;generalize l.length=n at HE;clear hn hR hf hb;go_enter Tryz.func154,Tryz.ntmps154
 go_wp2_with fail
 refine HE.out.mono ?_;rintro e w1 ⟨i,rfl,hi,hc⟩;have HI:=Kh hi;clear hi;cases b
 ·have hi:decide (0≤i)=false:=HI.out;go_wp2;go_ret
  exact⟨rfl,hc⟩
 ·have hi:decide (0≤i)=true:=HI.out;go_wp2;go_ret
  exact⟨rfl,hc⟩
theorem idx_knt (l:List Trm) (p:Trm→Bool) (v:Value) (g1:Nat) (w:World) (hn:l.length≤1000) (hR:TsAt w v l)
  (hf:∀k (hk:k<l.length) (w':World),Bw w w'→Calls Tryz.prog 160 #[.agg #[.string (l[k]'hk).base,.int .i64 (l[k]'hk).var,.bool (l[k]'hk).neg,.string (l[k]'hk).abs],.pointer (some ⟨g1,0,none⟩)] w' fun e w''=>e=.returned (.bool (p (l[k]'hk)))∧Bw w' w'') :
  Calls Tryz.prog 193 #[v,.func (.func 160) #[] #[.pointer (some ⟨g1,0,none⟩)]] w (IPost (l.any p) w):=by
 obtain⟨ao,c,rfl⟩:=RAt.form hR;obtain⟨n,hd⟩:∃n,n=l.length:=⟨_,rfl⟩;have HN:=Kh hd;rw[←hd]at hR hn ⊢;clear hd;have HF:=Kh hf;clear hf;go_enter Tryz.func193,Tryz.ntmps193
 go_wp2;go_loopw [8] (fun i wr=>∃k:Nat,k≤n∧i=.int .i64 k∧Hid ((l.take k).any p=false)∧Bw w wr) (fun i _=>n-(intOf i).toNat)
 case atStart=>exact⟨0,by omega,rfl,rfl,Br⟩
 case round =>
  obtain⟨k,hk,rfl,HA,hc⟩:=hrel;obtain⟨wp,hg⟩:∃wp,wp=wr:=⟨_,rfl⟩;subst hg;replace hR:=TsAt.after hR hc;by_cases hlt:k<n
  ·have hb:k<l.length:=by rw[←HN.out];exact hlt
   have HT:=Kh (any_take p l k hb);have HB:Hid (p (l[k]'hb)=true→l.any p=true):=any_hit p l k hb;obtain⟨b,o,rfl,hi,x1,x2,x3,x4⟩:=TsAt.at_ hR hb;have HC:=Kh (HF.out k hb _ hc);generalize p (l[k]'hb)=pk at HT HB HC;generalize (l[k]'hb)=x at x1 x2 x3 x4 HC;obtain⟨y1,y2,y3,y4⟩:=x;simp only[]at x1 x2 x3 x4 HC;have hh:(0:Int)≤(k:Int):=by omega
   have hj:(k:Int)<(n:Int):=by omega
   clear hR;cases pk
   ·have HX:Hid ((l.take (k+1)).any p=false):=by rw[Hid,HT.out,HA.out];rfl
    clear HT HB;go_wp2_with fail
    refine (HC.out).mono ?_;rintro e w2 ⟨rfl,he⟩;go_wp2;go_roundw
    case rel=>exact⟨k+1,by omega,by go_num,HX,bt hc he⟩
    case measure=>simp[intOf];omega
   ·have HX:Hid (l.any p=true):=HB.out rfl;clear HT HB;go_wp2_with fail
    refine (HC.out).mono ?_;rintro e w2 ⟨rfl,he⟩;go_wp2;go_ret
    exact⟨(k:Int),rfl,by rw[HX.out];exact Dt hh,bt hc he⟩
  ·have HX:Hid (l.any p=false):=any_end p l k (by rw[←HN.out];omega) HA.out;go_wp2;go_ret
   exact⟨-1,rfl,by rw[HX.out];rfl,hc⟩
theorem cont_knt (l:List Trm) (p:Trm→Bool) (b:Bool) (v:Value) (g1:Nat) (w:World) (hn:l.length≤1000) (hR:TsAt w v l) (hb:l.any p=b)
  (hf:∀k (hk:k<l.length) (w':World),Bw w w'→Calls Tryz.prog 160 #[.agg #[.string (l[k]'hk).base,.int .i64 (l[k]'hk).var,.bool (l[k]'hk).neg,.string (l[k]'hk).abs],.pointer (some ⟨g1,0,none⟩)] w' fun e w''=>e=.returned (.bool (p (l[k]'hk)))∧Bw w' w'') :
  Calls Tryz.prog 154 #[v,.func (.func 160) #[] #[.pointer (some ⟨g1,0,none⟩)]] w fun e w'=>e=.returned (.bool b)∧Bw w w':=by
 have HE:=Kh (idx_knt l p v g1 w hn hR hf);rw[hb]at HE;obtain⟨ao,c,rfl⟩:=RAt.form hR;generalize l.length=n at HE;clear hn hR hf hb;go_enter Tryz.func154,Tryz.ntmps154
 go_wp2_with fail
 refine HE.out.mono ?_;rintro e w1 ⟨i,rfl,hi,hc⟩;have HI:=Kh hi;clear hi;cases b
 ·have hi:decide (0≤i)=false:=HI.out;go_wp2;go_ret
  exact⟨rfl,hc⟩
 ·have hi:decide (0≤i)=true:=HI.out;go_wp2;go_ret
  exact⟨rfl,hc⟩
theorem idx_knv (l:List ByteArray) (p:ByteArray→Bool) (v:Value) (w:World) (hn:l.length≤1000) (hR:SsAt w v l)
  (hf:∀k (hk:k<l.length) (w':World),Bw w w'→Calls Tryz.prog 157 #[.agg #[.string (l[k]'hk)]] w' fun e w''=>e=.returned (.bool (p (l[k]'hk)))∧Bw w' w'') :
  Calls Tryz.prog 194 #[v,.func (.func 157) #[] #[]] w (IPost (l.any p) w):=by
 obtain⟨ao,c,rfl⟩:=RAt.form hR;obtain⟨n,hd⟩:∃n,n=l.length:=⟨_,rfl⟩;have HN:=Kh hd;rw[←hd]at hR hn ⊢;clear hd;have HF:=Kh hf;clear hf;go_enter Tryz.func194,Tryz.ntmps194
 go_wp2;go_loopw [8] (fun i wr=>∃k:Nat,k≤n∧i=.int .i64 k∧Hid ((l.take k).any p=false)∧Bw w wr) (fun i _=>n-(intOf i).toNat)
 case atStart=>exact⟨0,by omega,rfl,rfl,Br⟩
 case round =>
  obtain⟨k,hk,rfl,HA,hc⟩:=hrel;obtain⟨wp,hg⟩:∃wp,wp=wr:=⟨_,rfl⟩;subst hg;replace hR:=SsAt.after hR hc;by_cases hlt:k<n
  ·have hb:k<l.length:=by rw[←HN.out];exact hlt
   have HT:=Kh (any_take p l k hb);have HB:Hid (p (l[k]'hb)=true→l.any p=true):=any_hit p l k hb;obtain⟨b,o,rfl,hi,x1⟩:=SsAt.at_ hR hb;have HC:=Kh (HF.out k hb _ hc);generalize p (l[k]'hb)=pk at HT HB HC;generalize (l[k]'hb)=x at x1 HC;have hh:(0:Int)≤(k:Int):=by omega
   have hj:(k:Int)<(n:Int):=by omega
   clear hR;cases pk
   ·have HX:Hid ((l.take (k+1)).any p=false):=by rw[Hid,HT.out,HA.out];rfl
    clear HT HB;go_wp2_with fail
    refine (HC.out).mono ?_;rintro e w2 ⟨rfl,he⟩;go_wp2;go_roundw
    case rel=>exact⟨k+1,by omega,by go_num,HX,bt hc he⟩
    case measure=>simp[intOf];omega
   ·have HX:Hid (l.any p=true):=HB.out rfl;clear HT HB;go_wp2_with fail
    refine (HC.out).mono ?_;rintro e w2 ⟨rfl,he⟩;go_wp2;go_ret
    exact⟨(k:Int),rfl,by rw[HX.out];exact Dt hh,bt hc he⟩
  ·have HX:Hid (l.any p=false):=any_end p l k (by rw[←HN.out];omega) HA.out;go_wp2;go_ret
   exact⟨-1,rfl,by rw[HX.out];rfl,hc⟩
theorem cont_knv (l:List ByteArray) (p:ByteArray→Bool) (b:Bool) (v:Value) (w:World) (hn:l.length≤1000) (hR:SsAt w v l) (hb:l.any p=b)
  (hf:∀k (hk:k<l.length) (w':World),Bw w w'→Calls Tryz.prog 157 #[.agg #[.string (l[k]'hk)]] w' fun e w''=>e=.returned (.bool (p (l[k]'hk)))∧Bw w' w'') :
  Calls Tryz.prog 156 #[v,.func (.func 157) #[] #[]] w fun e w'=>e=.returned (.bool b)∧Bw w w':=by
 have HE:=Kh (idx_knv l p v w hn hR hf);rw[hb]at HE;obtain⟨ao,c,rfl⟩:=RAt.form hR;generalize l.length=n at HE;clear hn hR hf hb;go_enter Tryz.func156,Tryz.ntmps156
 go_wp2_with fail
 refine HE.out.mono ?_;rintro e w1 ⟨i,rfl,hi,hc⟩;have HI:=Kh hi;clear hi;cases b
 ·have hi:decide (0≤i)=false:=HI.out;go_wp2;go_ret
  exact⟨rfl,hc⟩
 ·have hi:decide (0≤i)=true:=HI.out;go_wp2;go_ret
  exact⟨rfl,hc⟩
theorem idx_kng (l:List (ByteArray × ByteArray)) (p:(ByteArray × ByteArray)→Bool) (v:Value) (g1:Nat) (w:World) (hn:l.length≤1000) (hR:GsAt w v l)
  (hf:∀k (hk:k<l.length) (w':World),Bw w w'→Calls Tryz.prog 159 #[.agg #[.string (l[k]'hk).1,.string (l[k]'hk).2],.pointer (some ⟨g1,0,none⟩)] w' fun e w''=>e=.returned (.bool (p (l[k]'hk)))∧Bw w' w'') :
  Calls Tryz.prog 195 #[v,.func (.func 159) #[] #[.pointer (some ⟨g1,0,none⟩)]] w (IPost (l.any p) w):=by
 obtain⟨ao,c,rfl⟩:=RAt.form hR;obtain⟨n,hd⟩:∃n,n=l.length:=⟨_,rfl⟩;have HN:=Kh hd;rw[←hd]at hR hn ⊢;clear hd;have HF:=Kh hf;clear hf;go_enter Tryz.func195,Tryz.ntmps195
 go_wp2;go_loopw [8] (fun i wr=>∃k:Nat,k≤n∧i=.int .i64 k∧Hid ((l.take k).any p=false)∧Bw w wr) (fun i _=>n-(intOf i).toNat)
 case atStart=>exact⟨0,by omega,rfl,rfl,Br⟩
 case round =>
  obtain⟨k,hk,rfl,HA,hc⟩:=hrel;obtain⟨wp,hg⟩:∃wp,wp=wr:=⟨_,rfl⟩;subst hg;replace hR:=GsAt.after hR hc;by_cases hlt:k<n
  ·have hb:k<l.length:=by rw[←HN.out];exact hlt
   have HT:=Kh (any_take p l k hb);have HB:Hid (p (l[k]'hb)=true→l.any p=true):=any_hit p l k hb;obtain⟨b,o,rfl,hi,x1,x2⟩:=GsAt.at_ hR hb;have HC:=Kh (HF.out k hb _ hc);generalize p (l[k]'hb)=pk at HT HB HC;generalize (l[k]'hb)=x at x1 x2 HC;obtain⟨y1,y2⟩:=x;simp only[]at x1 x2 HC;have hh:(0:Int)≤(k:Int):=by omega
   have hj:(k:Int)<(n:Int):=by omega
   clear hR;cases pk
   ·have HX:Hid ((l.take (k+1)).any p=false):=by rw[Hid,HT.out,HA.out];rfl
    clear HT HB;go_wp2_with fail
    refine (HC.out).mono ?_;rintro e w2 ⟨rfl,he⟩;go_wp2;go_roundw
    case rel=>exact⟨k+1,by omega,by go_num,HX,bt hc he⟩
    case measure=>simp[intOf];omega
   ·have HX:Hid (l.any p=true):=HB.out rfl;clear HT HB;go_wp2_with fail
    refine (HC.out).mono ?_;rintro e w2 ⟨rfl,he⟩;go_wp2;go_ret
    exact⟨(k:Int),rfl,by rw[HX.out];exact Dt hh,bt hc he⟩
  ·have HX:Hid (l.any p=false):=any_end p l k (by rw[←HN.out];omega) HA.out;go_wp2;go_ret
   exact⟨-1,rfl,by rw[HX.out];rfl,hc⟩
theorem cont_kng (l:List (ByteArray × ByteArray)) (p:(ByteArray × ByteArray)→Bool) (b:Bool) (v:Value) (g1:Nat) (w:World) (hn:l.length≤1000) (hR:GsAt w v l) (hb:l.any p=b)
  (hf:∀k (hk:k<l.length) (w':World),Bw w w'→Calls Tryz.prog 159 #[.agg #[.string (l[k]'hk).1,.string (l[k]'hk).2],.pointer (some ⟨g1,0,none⟩)] w' fun e w''=>e=.returned (.bool (p (l[k]'hk)))∧Bw w' w'') :
  Calls Tryz.prog 158 #[v,.func (.func 159) #[] #[.pointer (some ⟨g1,0,none⟩)]] w fun e w'=>e=.returned (.bool b)∧Bw w w':=by
 have HE:=Kh (idx_kng l p v g1 w hn hR hf);rw[hb]at HE;obtain⟨ao,c,rfl⟩:=RAt.form hR;generalize l.length=n at HE;clear hn hR hf hb;go_enter Tryz.func158,Tryz.ntmps158
 go_wp2_with fail
 refine HE.out.mono ?_;rintro e w1 ⟨i,rfl,hi,hc⟩;have HI:=Kh hi;clear hi;cases b
 ·have hi:decide (0≤i)=false:=HI.out;go_wp2;go_ret
  exact⟨rfl,hc⟩
 ·have hi:decide (0≤i)=true:=HI.out;go_wp2;go_ret
  exact⟨rfl,hc⟩
theorem idx_rdi (l:List (Bool × ByteArray)) (p:(Bool × ByteArray)→Bool) (v:Value) (w:World) (hn:l.length≤1000) (hR:IsAt w v l)
  (hf:∀k (hk:k<l.length) (w':World),Bw w w'→Calls Tryz.prog 123 #[.agg #[.bool (l[k]'hk).1,.string (l[k]'hk).2]] w' fun e w''=>e=.returned (.bool (p (l[k]'hk)))∧Bw w' w'') :
  Calls Tryz.prog 164 #[v,.func (.func 123) #[] #[]] w (IPost (l.any p) w):=by
 obtain⟨ao,c,rfl⟩:=RAt.form hR;obtain⟨n,hd⟩:∃n,n=l.length:=⟨_,rfl⟩;have HN:=Kh hd;rw[←hd]at hR hn ⊢;clear hd;have HF:=Kh hf;clear hf;go_enter Tryz.func164,Tryz.ntmps164
 go_wp2;go_loopw [8] (fun i wr=>∃k:Nat,k≤n∧i=.int .i64 k∧Hid ((l.take k).any p=false)∧Bw w wr) (fun i _=>n-(intOf i).toNat)
 case atStart=>exact⟨0,by omega,rfl,rfl,Br⟩
 case round =>
  obtain⟨k,hk,rfl,HA,hc⟩:=hrel;obtain⟨wp,hg⟩:∃wp,wp=wr:=⟨_,rfl⟩;subst hg;replace hR:=IsAt.after hR hc;by_cases hlt:k<n
  ·have hb:k<l.length:=by rw[←HN.out];exact hlt
   have HT:=Kh (any_take p l k hb);have HB:Hid (p (l[k]'hb)=true→l.any p=true):=any_hit p l k hb;obtain⟨b,o,rfl,hi,x1,x2⟩:=IsAt.at_ hR hb;have HC:=Kh (HF.out k hb _ hc);generalize p (l[k]'hb)=pk at HT HB HC;generalize (l[k]'hb)=x at x1 x2 HC;obtain⟨y1,y2⟩:=x;simp only[]at x1 x2 HC;have hh:(0:Int)≤(k:Int):=by omega
   have hj:(k:Int)<(n:Int):=by omega
   clear hR;cases pk
   ·have HX:Hid ((l.take (k+1)).any p=false):=by rw[Hid,HT.out,HA.out];rfl
    clear HT HB;go_wp2_with fail
    refine (HC.out).mono ?_;rintro e w2 ⟨rfl,he⟩;go_wp2;go_roundw
    case rel=>exact⟨k+1,by omega,by go_num,HX,bt hc he⟩
    case measure=>simp[intOf];omega
   ·have HX:Hid (l.any p=true):=HB.out rfl;clear HT HB;go_wp2_with fail
    refine (HC.out).mono ?_;rintro e w2 ⟨rfl,he⟩;go_wp2;go_ret
    exact⟨(k:Int),rfl,by rw[HX.out];exact Dt hh,bt hc he⟩
  ·have HX:Hid (l.any p=false):=any_end p l k (by rw[←HN.out];omega) HA.out;go_wp2;go_ret
   exact⟨-1,rfl,by rw[HX.out];rfl,hc⟩
theorem cont_rdi (l:List (Bool × ByteArray)) (p:(Bool × ByteArray)→Bool) (b:Bool) (v:Value) (w:World) (hn:l.length≤1000) (hR:IsAt w v l) (hb:l.any p=b)
  (hf:∀k (hk:k<l.length) (w':World),Bw w w'→Calls Tryz.prog 123 #[.agg #[.bool (l[k]'hk).1,.string (l[k]'hk).2]] w' fun e w''=>e=.returned (.bool (p (l[k]'hk)))∧Bw w' w'') :
  Calls Tryz.prog 122 #[v,.func (.func 123) #[] #[]] w fun e w'=>e=.returned (.bool b)∧Bw w w':=by
 have HE:=Kh (idx_rdi l p v w hn hR hf);rw[hb]at HE;obtain⟨ao,c,rfl⟩:=RAt.form hR;generalize l.length=n at HE;clear hn hR hf hb;go_enter Tryz.func122,Tryz.ntmps122
 go_wp2_with fail
 refine HE.out.mono ?_;rintro e w1 ⟨i,rfl,hi,hc⟩;have HI:=Kh hi;clear hi;cases b
 ·have hi:decide (0≤i)=false:=HI.out;go_wp2;go_ret
  exact⟨rfl,hc⟩
 ·have hi:decide (0≤i)=true:=HI.out;go_wp2;go_ret
  exact⟨rfl,hc⟩
end
end Go.Proofs.YtdgddpnjkinciaaGreatDoor
