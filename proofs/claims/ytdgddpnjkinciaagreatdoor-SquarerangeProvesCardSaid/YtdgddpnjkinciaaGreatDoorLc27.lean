import Derived.Test.YtdgddpnjkinciaaGreatDoorIdx
import Derived.Test.YtdgddpnjkinciaaGreatDoorSet1
import Derived.Test.YtdgddpnjkinciaaGreatDoorLdv2
import Derived.Deep.RegionHeld3
import Derived.Deep.DrawnRows
set_option linter.all false
set_option maxRecDepth 100000
set_option maxHeartbeats 16000000
namespace Go.Proofs.YtdgddpnjkinciaaGreatDoor
section
open Go.RowKit
theorem rvalB_c (s:ByteArray) (b:Bool) (w:World) (hs:s.size≤1000) (h:vldB s=b):Calls Tryz.prog 89 #[.string s] w fun e w'=>e=.returned (.bool b)∧w'=w:=by
 rw[←h];exact (rvalid_c s w (by omega)).mono fun _ _ h=>⟨h.1,h.2.symm⟩
theorem rivalB_c (n:Bool) (s:ByteArray) (b:Bool) (w:World) (hs:s.size≤1000) (h:ivB n s=b):Calls Tryz.prog 44 #[.agg #[.bool n,.string s]] w fun e w'=>e=.returned (.bool b)∧Bw w w':=by
 rw[←h];exact rivalid_c n s w (by omega)
theorem rformed_c (S:Sta) (v1 v2 v3:Value) (w:World) (hm:SSm S) (hS:StAt w v1 v2 v3 S) :
  Calls Tryz.prog 64 #[.agg #[v1,v2,v3]] w fun e w'=>e=.returned (.bool (formB S))∧Bw w w':=by
 obtain⟨r,hr⟩:∃r:Bool,r=formB S:=⟨_,rfl⟩;have hl:=Kh hr;rw[←hr];clear hr;obtain⟨a1,c1,rfl⟩:=hS.g.form;obtain⟨a2,c2,rfl⟩:=hS.v.form;obtain⟨a3,c3,rfl⟩:=hS.e.form;have HM:=Kh hm;obtain⟨n1,hK⟩:∃n,n=S.grps.length:=⟨_,rfl⟩;obtain⟨n2,hL⟩:∃n,n=S.vars.length:=⟨_,rfl⟩;obtain⟨n3,hM⟩:∃n,n=S.eqs.length:=⟨_,rfl⟩;have hN:=Kh hK;have hO:=Kh hL;have hX:=Kh hM;have l1:n1≤1000:=by rw[hK];exact hm.ng
 have l2:n2≤1000:=by rw[hL];exact hm.nv
 have l3:n3≤1000:=by rw[hM];exact hm.ne
 rw[←hK,←hL,←hM]at hS ⊢;clear hm hK hL hM;obtain⟨hP,hi⟩:=blk1 w #[.slice a1 n1 c1,.slice a2 n2 c2,.slice a3 n3 c3] 43;replace hS:=hS.after hi;go_enter Tryz.func64,Tryz.ntmps64
 go_wp2;generalize w.alloc (.cells #[.slice a1 n1 c1,.slice a2 n2 c2,.slice a3 n3 c3] 43)=w1 at hP hi hS;replace hP:Blk w1 w.heap.size 43 [.slice a1 n1 c1,.slice a2 n2 c2,.slice a3 n3 c3]:=hP;go_loopw [3] (fun i wr=>∃k:Nat,k≤n1∧i=.int .i64 k∧Hid ((S.grps.take k).all gokB=true)∧Bw w1 wr) (fun i _=>n1-(intOf i).toNat)
 case atStart=>exact⟨0,by omega,rfl,rfl,Br⟩
 case round =>
  obtain⟨k,hk,rfl,HA,hn⟩:=hrel;obtain⟨wp,Hm⟩:∃wp,wp=wr:=⟨_,rfl⟩;subst Hm;replace hS:=hS.after hn;replace hP:=hP.after hn;replace hi:=bt hi hn;by_cases hlt:k<n1
  ·have ho:k<S.grps.length:=by rw[←hN.out];exact hlt
   have hp:=Kh (HM.out.g _ (Gm ho));have HT:=Kh (all_take gokB S.grps k ho);have hh:Hid (gokB S.grps[k]=false→formB S=false):=fun h=>by unfold formB;rw[all_bad gokB S.grps k ho h];rfl
   obtain⟨b,o,rfl,hY,x1,x2⟩:=hS.g.at_ ho;have HG:Hid (gokB S.grps[k]=(vldB S.grps[k].1&&vldB S.grps[k].2)):=rfl;generalize gokB (S.grps[k]'ho)=gk at HT hh HG;generalize (S.grps[k]'ho).1=s1 at x1 hp HG;generalize (S.grps[k]'ho).2=s2 at x2 hp HG;have hZ:(0:Int)≤(k:Int):=by omega
   have h0:(k:Int)<(n1:Int):=by omega
   cases ht:vldB s1
   ·have HF:Hid (formB S=false):=hh.out (by rw[HG.out,ht];rfl);obtain⟨hb,hc,hd,he,hf,hg⟩:=hP.x3;go_wp2_with fail
    refine (rvalB_c s1 false _ hp.out.1 ht).mono ?_;rintro e w' ⟨rfl,hq⟩;subst w';go_wp2;go_ret
    exact⟨by rw[hl.out,HF.out];rfl,hi⟩
   ·cases hQ:vldB s2
    ·have HF:Hid (formB S=false):=hh.out (by rw[HG.out,ht,hQ];rfl);obtain⟨hb,hc,hd,he,hf,hg⟩:=hP.x3;go_wp2_with fail
     refine (rvalB_c s1 true _ hp.out.1 ht).mono ?_;rintro e w' ⟨rfl,hq⟩;subst w';go_wp2_with fail
     refine (rvalB_c s2 false _ hp.out.2 hQ).mono ?_;rintro e w' ⟨rfl,hq⟩;subst w';go_wp2;go_ret
     exact⟨by rw[hl.out,HF.out];rfl,hi⟩
    ·have HX:Hid ((S.grps.take (k+1)).all gokB=true):=by rw[Hid,HT.out,HA.out,HG.out,ht,hQ];rfl
     obtain⟨hb,hc,hd,he,hf,hg⟩:=hP.x3;go_wp2_with fail
     refine (rvalB_c s1 true _ hp.out.1 ht).mono ?_;rintro e w' ⟨rfl,hq⟩;subst w';go_wp2_with fail
     refine (rvalB_c s2 true _ hp.out.2 hQ).mono ?_;rintro e w' ⟨rfl,hq⟩;subst w';go_wp2;go_roundw
     case rel=>exact⟨k+1,by omega,by go_num,HX,hn⟩
     case measure=>simp[intOf];omega
  ·have HG:Hid (S.grps.all gokB=true):=all_end gokB S.grps k (by rw[←hN.out];omega) HA.out;clear hn;obtain⟨hb,hc,hd,he,hf,hg⟩:=hP.x3;go_wp2;clear hb hc hd he hf hg;go_loopw [4] (fun i wr=>∃k:Nat,k≤n2∧i=.int .i64 k∧Hid ((S.vars.take k).all vldB=true)∧Bw wp wr) (fun i _=>n2-(intOf i).toNat)
   case atStart=>exact⟨0,by omega,rfl,rfl,Br⟩
   case round =>
    clear HA hlt hk;obtain⟨k,hk,rfl,HA,hn⟩:=hrel;obtain⟨wq,Hn⟩:∃wq,wq=wr:=⟨_,rfl⟩;subst Hn;replace hS:=hS.after hn;replace hP:=hP.after hn;replace hi:=bt hi hn;by_cases hlt:k<n2
    ·have ho:k<S.vars.length:=by rw[←hO.out];exact hlt
     have hp:=Kh (HM.out.v _ (Gm ho));have HT:=Kh (all_take vldB S.vars k ho);have hh:Hid (vldB S.vars[k]=false→formB S=false):=fun h=>by unfold formB;rw[all_bad vldB S.vars k ho h];simp
     obtain⟨b,o,rfl,hY,x1⟩:=hS.v.at_ ho;generalize S.vars[k]'ho=s1 at x1 hp HT hh;have hZ:(0:Int)≤(k:Int):=by omega
     have h0:(k:Int)<(n2:Int):=by omega
     cases ht:vldB s1
     ·have HF:Hid (formB S=false):=hh.out ht;obtain⟨hb,hc,hd,he,hf,hg⟩:=hP.x3;go_wp2_with fail
      refine (rvalB_c s1 false _ hp.out ht).mono ?_;rintro e w' ⟨rfl,hq⟩;subst w';go_wp2;go_ret
      exact⟨by rw[hl.out,HF.out];rfl,hi⟩
     ·have HX:Hid ((S.vars.take (k+1)).all vldB=true):=by rw[Hid,HT.out,HA.out,ht];rfl
      obtain⟨hb,hc,hd,he,hf,hg⟩:=hP.x3;go_wp2_with fail
      refine (rvalB_c s1 true _ hp.out ht).mono ?_;rintro e w' ⟨rfl,hq⟩;subst w';go_wp2;go_roundw
      case rel=>exact⟨k+1,by omega,by go_num,HX,hn⟩
      case measure=>simp[intOf];omega
    ·have HV:Hid (S.vars.all vldB=true):=all_end vldB S.vars k (by rw[←hO.out];omega) HA.out;clear hn;obtain⟨hb,hc,hd,he,hf,hg⟩:=hP.x3;go_wp2;clear hb hc hd he hf hg;clear HA hlt hk;go_loopw [5] (fun i wr=>∃k:Nat,k≤n3∧i=.int .i64 k∧Hid ((S.eqs.take k).all (eokB n1 n2)=true)∧Bw wq wr) (fun i _=>n3-(intOf i).toNat)
     case atStart=>exact⟨0,by omega,rfl,rfl,Br⟩
     case round =>
      obtain⟨k,hk,rfl,HA,hn⟩:=hrel;obtain⟨wt,Ho⟩:∃wt,wt=wr:=⟨_,rfl⟩;subst Ho;replace hS:=hS.after hn;replace hP:=hP.after hn;replace hi:=bt hi hn;by_cases hlt:k<n3
      ·have ho:k<S.eqs.length:=by rw[←hX.out];exact hlt
       have hp:=Kh (HM.out.e _ (Gm ho));have HT:=Kh (all_take (eokB n1 n2) S.eqs k ho);have hh:Hid (eokB n1 n2 S.eqs[k]=false→formB S=false):=fun h=>by unfold formB;rw[←hN.out,←hO.out,all_bad (eokB n1 n2) S.eqs k ho h];simp
       obtain⟨b,o,tv,rfl,hY,x1,x2,x3,hu⟩:=hS.e.at_ ho;generalize S.eqs[k]'ho=q at x1 x2 x3 hu hp HT hh;obtain⟨qg,qt,qs⟩:=q;simp only[]at x1 x2 x3 hu;obtain⟨to_,tc,rfl⟩:=RAt.form hu;obtain⟨n4,hT⟩:∃n,n=qs.length:=⟨_,rfl⟩;have hU:=Kh hT;rw[←hT]at x3 hu;clear hT;have hB:=Blk.new wt #[.int .i64 qg,.string qt,.slice to_ n4 tc] 87;have hZ:(0:Int)≤(k:Int):=by omega
       have h0:(k:Int)<(n3:Int):=by omega
       have HB:=hP.lt;have HQ:Hid (eokB n1 n2 ⟨qg,qt,qs⟩=(decide (0≤qg)&&decide (qg<(n1:Int))&&vldB qt&&qs.all (tokB n2))):=rfl;generalize eokB n1 n2 ⟨qg,qt,qs⟩=ek at HT hh HQ;cases hv:vldB qt
       ·have HF:Hid (formB S=false):=hh.out (by rw[HQ.out,hv];simp);obtain⟨hb,hc,hd,he,hf,hg⟩:=hP.x3;go_wp2_with fail
        refine (rvalB_c qt false _ hp.out.1 hv).mono ?_;rintro e w' ⟨rfl,hq⟩;subst w';go_wp2;go_ret
        exact⟨by rw[hl.out,HF.out];rfl,ba hi _⟩
       ·cases h2:decide (qg<0)
        ·cases h3:decide ((n1:Int)≤qg)
         ·have hx1:decide (0≤qg)=true:=Dt (by have:=of_decide_eq_false h2;omega);have Hp:decide (qg<(n1:Int))=true:=Dt (by have:=of_decide_eq_false h3;omega);obtain⟨hb,hc,hd,he,hf,hg⟩:=hP.x3;go_wp2_with fail
          refine (rvalB_c qt true _ hp.out.1 hv).mono ?_;rintro e w' ⟨rfl,hq⟩;subst w';go_wp2;clear hb hc hd he hf hg;replace hP:=hP.alloc (.cells #[.int .i64 qg,.string qt,.slice to_ n4 tc] 87);replace hu:=TsAt.after hu (b1 _ (.cells #[.int .i64 qg,.string qt,.slice to_ n4 tc] 87));replace hi:=ba hi (.cells #[.int .i64 qg,.string qt,.slice to_ n4 tc] 87);replace hn:=ba hn (.cells #[.int .i64 qg,.string qt,.slice to_ n4 tc] 87);have l4:n4≤1000:=by rw[hU.out];exact hp.out.2.1
          generalize wt.alloc (.cells #[.int .i64 qg,.string qt,.slice to_ n4 tc] 87)=wu at hP hu hi hn hB;replace hB:Blk wu wt.heap.size 87 [.int .i64 qg,.string qt,.slice to_ n4 tc]:=hB;clear hS;go_loopw [7] (fun i wr=>∃k:Nat,k≤n4∧i=.int .i64 k∧Hid ((qs.take k).all (tokB n2)=true)∧Bw wu wr) (fun i _=>n4-(intOf i).toNat)
          case atStart=>exact⟨0,by omega,rfl,rfl,Br⟩
          case round =>
           obtain⟨j,hj,rfl,HJ,hE⟩:=hrel;obtain⟨wv,Hq⟩:∃wv,wv=wr:=⟨_,rfl⟩;subst Hq;replace hP:=hP.after hE;replace hB:=hB.after hE;replace hu:=TsAt.after hu hE;replace hi:=bt hi hE;have HC:=hB.lt;by_cases hV:j<n4
           ·have hI:j<qs.length:=by rw[←hU.out];exact hV
            have hF:=Kh (hp.out.2.2 _ (Gm hI));have hW:=Kh (all_take (tokB n2) qs j hI);have hG:Hid (tokB n2 qs[j]=false→formB S=false):=fun h=>hh.out (by rw[HQ.out,all_bad (tokB n2) qs j hI h];simp)
            obtain⟨b4,o4,rfl,Hr,y1,y2,y3,y4⟩:=TsAt.at_ hu hI;generalize qs[j]'hI=t at y1 y2 y3 y4 hF hW hG;obtain⟨tb,tv,tn,ta⟩:=t;simp only[]at y1 y2 y3 y4;have Hs:=Blk.new wv #[.string tb,.int .i64 tv,.bool tn,.string ta] 129;have HD:(0:Int)≤(j:Int):=by omega
            have HH:(j:Int)<(n4:Int):=by omega
            have Ht:=hP.lt;have hH:Hid (tokB n2 ⟨tb,tv,tn,ta⟩=(decide (0≤tv)&&decide (tv<(n2:Int))&&vldB tb&&ivB tn ta)):=rfl;generalize tokB n2 ⟨tb,tv,tn,ta⟩=tk at hW hG hH;cases hJ:vldB tb
            ·have HF:Hid (formB S=false):=hG.out (by rw[hH.out,hJ];simp);obtain⟨hb,hc,hd,he,hf,hg⟩:=hP.x3;obtain⟨hw,hx,hy,hz,hA,hC⟩:=hB.x3;go_wp2_with fail
             refine (rvalB_c tb false _ hF.out.1 hJ).mono ?_;rintro e w' ⟨rfl,hq⟩;subst w';go_wp2;go_ret
             exact⟨by rw[hl.out,HF.out];rfl,ba hi _⟩
            ·cases hR:ivB tn ta
             ·have HF:Hid (formB S=false):=hG.out (by rw[hH.out,hR];simp);obtain⟨hb,hc,hd,he,hf,hg⟩:=hP.x3;obtain⟨hw,hx,hy,hz,hA,hC⟩:=hB.x3;go_wp2_with fail
              refine (rvalB_c tb true _ hF.out.1 hJ).mono ?_;rintro e w' ⟨rfl,hq⟩;subst w';go_wp2_with fail
              refine (rivalB_c tn ta false _ hF.out.2 hR).mono ?_;rintro e w7 ⟨rfl,hD⟩;go_wp2;go_ret
              exact⟨by rw[hl.out,HF.out];rfl,bt (ba hi _) hD⟩
             ·have Hu:=hP.lt;obtain⟨hb,hc,hd,he,hf,hg⟩:=hP.x3;obtain⟨hw,hx,hy,hz,hA,hC⟩:=hB.x3;go_wp2_with fail
              refine (rvalB_c tb true _ hF.out.1 hJ).mono ?_;rintro e w' ⟨rfl,hq⟩;subst w';go_wp2_with fail
              refine (rivalB_c tn ta true _ hF.out.2 hR).mono ?_;rintro e w7 ⟨rfl,hD⟩;clear hb hc hd he hf hg;clear hw hx hy hz hA hC;have h4:=(hP.alloc (.cells #[.string tb,.int .i64 tv,.bool tn,.string ta] 129)).after hD;have h5:=Hs.after hD;have Hv:=h4.lt;have Hw:=h5.lt;obtain⟨h6,h7,h8,h9,Ha,Hb⟩:=h4.x3;obtain⟨Hc,Hd,He,Hf,Hg,Hh,Hi,Hj⟩:=h5.x4;cases Hk:decide (tv<0)
              ·cases Hl:decide ((n2:Int)≤tv)
               ·have Hx:decide (0≤tv)=true:=Dt (by have:=of_decide_eq_false Hk;omega);have Hy:decide (tv<(n2:Int))=true:=Dt (by have:=of_decide_eq_false Hl;omega);have HX:Hid ((qs.take (j+1)).all (tokB n2)=true):=by rw[Hid,hW.out,HJ.out,hH.out,hJ,Hx,Hy,hR];rfl
                go_wp2;go_roundw
                case rel=>exact⟨j+1,by omega,by go_num,HX,bt (ba hE _) hD⟩
                case measure=>simp[intOf];omega
               ·have HF:Hid (formB S=false):=hG.out (by rw[hH.out,decide_eq_false (show ¬ tv<(n2:Int) by have:=of_decide_eq_true Hl;omega)];simp);go_wp2;go_ret
                exact⟨by rw[hl.out,HF.out];rfl,bt (ba hi _) hD⟩
              ·have HF:Hid (formB S=false):=hG.out (by rw[hH.out,decide_eq_false (show ¬ 0≤tv by have:=of_decide_eq_true Hk;omega)];simp);go_wp2;go_ret
               exact⟨by rw[hl.out,HF.out];rfl,bt (ba hi _) hD⟩
           ·have Hz:Hid (qs.all (tokB n2)=true):=all_end (tokB n2) qs j (by rw[←hU.out];omega) HJ.out;have HX:Hid ((S.eqs.take (k+1)).all (eokB n1 n2)=true):=by rw[Hid,HT.out,HA.out,HQ.out,hv,hx1,Hp,Hz.out];rfl
            obtain⟨hb,hc,hd,he,hf,hg⟩:=hP.x3;obtain⟨hw,hx,hy,hz,hA,hC⟩:=hB.x3;go_wp2;go_roundw
            case rel=>exact⟨k+1,by omega,by go_num,HX,bt hn hE⟩
            case measure=>simp[intOf];omega
         ·have HF:Hid (formB S=false):=hh.out (by rw[HQ.out,decide_eq_false (show ¬ qg<(n1:Int) by have:=of_decide_eq_true h3;omega)];simp);obtain⟨hb,hc,hd,he,hf,hg⟩:=hP.x3;go_wp2_with fail
          refine (rvalB_c qt true _ hp.out.1 hv).mono ?_;rintro e w' ⟨rfl,hq⟩;subst w';go_wp2;go_ret
          exact⟨by rw[hl.out,HF.out];rfl,ba hi _⟩
        ·have HF:Hid (formB S=false):=hh.out (by rw[HQ.out,decide_eq_false (show ¬ 0≤qg by have:=of_decide_eq_true h2;omega)];simp);obtain⟨hb,hc,hd,he,hf,hg⟩:=hP.x3;go_wp2_with fail
         refine (rvalB_c qt true _ hp.out.1 hv).mono ?_;rintro e w' ⟨rfl,hq⟩;subst w';go_wp2;go_ret
         exact⟨by rw[hl.out,HF.out];rfl,ba hi _⟩
      ·have HE:Hid (S.eqs.all (eokB n1 n2)=true):=all_end (eokB n1 n2) S.eqs k (by rw[←hX.out];omega) HA.out;have HF:Hid (formB S=true):=by unfold Hid formB;rw[HG.out,HV.out,←hN.out,←hO.out,HE.out];rfl
       obtain⟨hb,hc,hd,he,hf,hg⟩:=hP.x3;go_wp2;go_ret
       exact⟨by rw[hl.out,HF.out];rfl,hi⟩
end
section
open Go.RowKit Go.Shelf
theorem dzT {n k:Nat} (h:¬ n≤k):decide ((k:Int)<(n:Int))=true:=Dt (by omega)
theorem dzF {n k:Nat} (h:n≤k):decide ((k:Int)<(n:Int))=false:=decide_eq_false (by omega)
theorem l27num_c (n:Nat) (w:World) (h:n<256^8) :
  Calls Tryz.prog 9 #[.int .u64 (n:Int)] w fun e w'=>e=.returned (.string (E n))∧Bw w w':=by
 have HO:=Kh (fun w=>rof_c n w h);go_enter Tryz.func9,Tryz.ntmps9
 go_wp2_with fail
 refine (HO.out _).mono ?_;rintro e w' ⟨rfl,hb⟩;go_wp2;go_ret
 exact⟨rfl,hb⟩
theorem l27whole_c (z:Int) (w:World) (h1:-9223372036854775808≤z) (h2:z≤9223372036854775807) :
  Calls Tryz.prog 15 #[.int .i64 z] w fun e w'=>e=.returned (.agg #[.bool (sg (z)),.string (E (z).natAbs)])∧Bw w w':=by
 have HO:Hid (∀w,Calls Tryz.prog 46 #[.int .i64 z] w fun e w'=>e=.returned (.agg #[.bool (sg (z)),.string (E (z).natAbs)])∧Bw w w'):=fun w=>riof_c z w h1 h2
 obtain⟨hB,hh⟩:=blk1 w #[Value.bool false,.string ⟨#[]⟩] 28;go_enter Tryz.func15,Tryz.ntmps15
 go_wp2_with fail
 refine (HO.out _).mono ?_;rintro e w1 ⟨rfl,hb⟩;have hi:=hB.after hb;have hg:=bt hh hb;have hl:=hi.lt;clear hB hb hh;obtain⟨hc,hd,he,hf⟩:=hi.x2;go_wp2;refine bodyPost_ret (v:=.agg #[.bool (sg (z)),.string (E (z).natAbs)]) ?_ rfl ?_
 ·simp[results,Tryz.results15,go_sem,hc,he,hd,hf,hl]
 ·exact⟨rfl,(hg.setCell (Nat.le_refl _) _).setCell (Nat.le_refl _) _⟩
theorem l27opening_c (a b:Bool) (s t:ByteArray) (w:World) (hs:s.size≤9223372036854775807) (ht:t.size≤9223372036854775807) :
  Calls Tryz.prog 14 #[.agg #[.bool a,.string s,.bool b,.string t]] w fun e w'=>e=.returned (.bool (decide (s.size≤12)&&decide (t.size≤12)))∧Bw w w':=by
 obtain⟨hB,hj⟩:=blk1 w #[Value.bool a,Value.string s,Value.bool b,Value.string t] 30;by_cases h1:s.size≤12
 ·rw[Dt h1];have hk:(s.size:Int)≤12:=by omega
  by_cases h2:t.size≤12
  ·rw[Dt h2];have hl:(t.size:Int)≤12:=by omega
   obtain⟨hb,hc,hd,he,hf,hg,hh,hi⟩:=hB.x4;go_enter Tryz.func14,Tryz.ntmps14
   go_wp2;go_ret
   exact⟨rfl,hj⟩
  ·rw[decide_eq_false h2];have hl:¬ (t.size:Int)≤12:=by omega
   obtain⟨hb,hc,hd,he,hf,hg,hh,hi⟩:=hB.x4;go_enter Tryz.func14,Tryz.ntmps14
   go_wp2;go_ret
   exact⟨rfl,hj⟩
 ·rw[decide_eq_false h1];have hk:¬ (s.size:Int)≤12:=by omega
  obtain⟨hb,hc,hd,he,hf,hg,hh,hi⟩:=hB.x4;go_enter Tryz.func14,Tryz.ntmps14
  go_wp2;go_ret
  exact⟨rfl,hj⟩
def kfw (a b c d:ByteArray):Bool:=decide (a.size≤8)&&decide (b.size≤8)&&decide (c.size≤12)&&decide (d.size≤12)
theorem l27Few_c (a b c d:ByteArray) (w:World) :
  Calls Tryz.prog 13 #[.agg #[.string a,.string b,.string c,.string d]] w fun e w'=>e=.returned (.bool (kfw a b c d))∧Bw w w':=by
 go_enter Tryz.func13,Tryz.ntmps13
 go_wp2;all_goals go_ret
 all_goals exact⟨rb (by simp only[kfw];rw[Bool.eq_iff_iff];simp;omega),b1 _ _⟩
def szN (x:ByteArray):Bool:=decide (x.size≤16)
def tfw (L:List ByteArray) (sd:ByteArray):Bool:=L.all szN&&decide (L.length≤80)&&decide (sd.size≤60)
theorem l27few_c (L:List ByteArray) (sd:ByteArray) (ti:Int) (v:Value) (w:World) (hn:L.length≤9223372036854775807) (hs:∀x∈L,x.size≤9223372036854775807) (hR:SsAt w v L) :
  Calls Tryz.prog 5 #[.agg #[v,.string sd,.int .i64 ti]] w fun e w'=>e=.returned (.bool (tfw L sd))∧Bw w w':=by
 obtain⟨ao,c,rfl⟩:=RAt.form hR;obtain⟨r,hr⟩:∃r,r=tfw L sd:=⟨_,rfl⟩;rw[←hr];have HR:=Kh hr;obtain⟨m,hm⟩:∃m,m=L.length:=⟨_,rfl⟩;have HM:=Kh hm;rw[←hm]at hR hn ⊢;have HS:=Kh hs;clear hr hm hs;obtain⟨hB,he⟩:=blk1 w #[Value.slice ao m c,.string sd,.int .i64 ti] 35;have hg:=SsAt.after hR he;go_enter Tryz.func5,Tryz.ntmps5
 go_wp2;generalize w.alloc (.cells #[Value.slice ao m c,.string sd,.int .i64 ti] 35)=w1 at hB he hg ⊢;generalize w.heap.size=g at hB ⊢;replace hB:Blk w1 g 35 [Value.slice ao m c,.string sd,.int .i64 ti]:=hB;clear hR;obtain⟨hh,hi,hj,hl,ho,hp⟩:=hB.x3;go_loop [3] (fun i=>∃k:Nat,k≤m∧k≤80∧i=.int .i64 k∧Hid ((L.take k).all szN=true)) (fun i=>m-(intOf i).toNat)
 case atStart=>exact⟨0,by omega,by omega,rfl,rfl⟩
 case round =>
  obtain⟨k,hk,hc,rfl,HK⟩:=hrel;by_cases hlt:k<m
  ·by_cases ht:k<80
   ·have hf:k<L.length:=by rw[←HM.out];exact hlt
    obtain⟨b,o,rfl,hb,x1⟩:=SsAt.at_ hg hf;have hu:=HS.out _ (Gm hf);have hy:(0:Int)≤(k:Int):=by omega
    have hv:(k:Int)<(m:Int):=by omega
    have hz:(k:Int)<80:=by omega
    have HT:=Kh (all_take szN L k hf);have HB:Hid (szN L[k]=false→tfw L sd=false):=fun h=>by unfold tfw;rw[all_bad szN L k hf h];rfl
    have HQ:Hid (szN L[k]=decide (L[k].size≤16)):=rfl;generalize szN (L[k]'hf)=q at HT HB HQ;generalize (L[k]'hf)=s at x1 hu HQ;by_cases h8:s.size≤16
    ·have hd:decide ((16:Int)<(s.size:Int))=false:=dzF h8;have HX:Hid ((L.take (k+1)).all szN=true):=by rw[Hid,HT.out,HK.out,HQ.out,Dt h8];rfl
     clear h8;go_wp2;go_round
     case rel=>exact⟨k+1,by omega,by omega,by go_num,HX⟩
     case measure=>simp[intOf];omega
    ·have hd:decide ((16:Int)<(s.size:Int))=true:=dzT h8;have HF:Hid (r=false):=by rw[Hid,HR.out];exact HB.out (by rw[HQ.out];exact decide_eq_false h8)
     clear h8;go_wp2;go_ret
     exact⟨by first | (rw[HF.out];done) | (rw[HF.out];rfl),he⟩
   ·have hw:k=80:=by omega
    have HF:Hid (r=false):=by
     rw[Hid,HR.out,tfw,decide_eq_false (show ¬ L.length≤80 by have:=HM.out;omega),Bool.and_false,Bool.false_and]
    have hv:(k:Int)<(m:Int):=by omega
    have hq:decide ((m:Int)≤80)=false:=decide_eq_false (by omega);subst hw;clear ht hc;go_wp2;go_ret
    exact⟨by first | (rw[HF.out];done) | (rw[HF.out];rfl),he⟩
  ·obtain rfl:k=m:=by omega
   by_cases h8:k≤80
   ·have hq:decide ((k:Int)≤80)=true:=Dt (by omega)
    have HF:Hid (r=decide (sd.size≤60)):=by
     rw[Hid,HR.out,tfw,all_end szN L k HM.out HK.out,Dt (show L.length≤80 by have:=HM.out;omega)] <;> rfl
    clear hc;by_cases h6:sd.size≤60
    ·have hx:decide ((sd.size:Int)≤60)=true:=Dt (by omega);replace HF:Hid (r=true):=HF.out.trans (Dt h6);clear h6;go_wp2;go_ret
     exact⟨by first | (rw[HF.out];done) | (rw[HF.out];rfl),he⟩
    ·have hx:decide ((sd.size:Int)≤60)=false:=decide_eq_false (by omega);replace HF:Hid (r=false):=HF.out.trans (decide_eq_false h6);clear h6;go_wp2;go_ret
     exact⟨by first | (rw[HF.out];done) | (rw[HF.out];rfl),he⟩
   ·exact absurd hc h8
end
section
open Go.RowKit Go.Shelf
structure Opn where
 vn:Bool
 va:ByteArray
 rn:Bool
 ra:ByteArray
def QOpn (_:World) (x:Opn) (cs:List Value):Prop:=cs=[.bool x.vn,.string x.va,.bool x.rn,.string x.ra]
def OsAt:=RAt QOpn 4
theorem OsAt.after {w w':World} {v:Value} {l:List Opn} (h:OsAt w v l) (hb:Bw w w'):OsAt w' v l:=RAt.after h hb (fun _ _ h=>h)
theorem OsAt.at_ {w:World} {ao:Option Addr} {n c k:Nat} {l:List Opn} (h:OsAt w (.slice ao n c) l) (hk:k<l.length):∃b o,ao=some ⟨b,o,none⟩∧b<w.heap.size∧w.cell? ⟨b,o+k*4,none⟩=some (.bool l[k].vn)∧w.cell? ⟨b,o+k*4+1,none⟩=some (.string l[k].va)∧w.cell? ⟨b,o+k*4+2,none⟩=some (.bool l[k].rn)∧w.cell? ⟨b,o+k*4+3,none⟩=some (.string l[k].ra):=by
 obtain⟨b,o,cs,h1,h2,h3,h4⟩:=RAt.at_ h hk;have e0:=h4 0 (by omega);have e1:=h4 1 (by omega);have e2:=h4 2 (by omega);have e3:=h4 3 (by omega);rw[h3]at e0 e1 e2 e3;exact⟨b,o,h1,h2,by simpa using e0,by simpa using e1,by simpa using e2,by simpa using e3⟩
end
section
open Go.RowKit
theorem nats1 {w:World} {b c:Nat} {T:TypeId} (h:Blk w b T [.string (E c)]):NatsAt w b [c]:=NatsAt.of_blk (T:=T) h
theorem ints1 {w:World} {b:Nat} {x:Int} {T:TypeId} (h:Blk w b T [.bool (sg x),.string (E x.natAbs)]):IntsAt w b [x]:=by
 refine⟨h.lt,fun j hj=>?_⟩;match j,hj with
 | 0,_=>exact⟨h.cell 0,h.cell 1⟩
theorem nats2 {w:World} {b c g:Nat} {T:TypeId} (h:Blk w b T [.string (E c),.string (E g)]):NatsAt w b [c,g]:=NatsAt.of_blk (T:=T) h
theorem pw1_eq {p x:Nat} (z:Int) (hx:x<p):pw (prs p [x] [z]) 0%p=powI x z p:=by
 unfold powI prs bse;simp only[List.zipWith_cons_cons,List.zipWith_nil_left,pw,Nat.pow_zero,Nat.div_one,Nat.mul_one];rw[Nat.mod_eq_of_lt hx];split <;> rfl
theorem product1_c (p q c:Nat) (z:Int) (bl bz:Nat) (w:World) (hp:p<256^8) (hq:q<256^128) (he:grpE p q=0) (hc:hasB p q c=true) (hz:z.natAbs<256^128)
  (hL:Blk w bl 22 [.string (E c)]) (hZ:Blk w bz 28 [.bool (sg z),.string (E z.natAbs)]) :
  Calls Tryz.prog 85 #[.agg #[.string (E p),.string (E q)],.slice (some ⟨bl,0,none⟩) 1 1,.slice (some ⟨bz,0,none⟩) 1 1] w fun e w'=>e=.returned (.tuple #[.string (E (powI c z p)),.int .i64 0])∧Bw w w':=by
 rw[←pw1_eq z (has_lt hc)]
 exact product_c p q bl bz 1 1 1 [c] [z] w hp hq he rfl rfl (by omega) (by omega) (by omega) (by omega) (by omega)
  (by intro x hx;simp at hx;subst hx;assumption) (by intro y hy;simp at hy;subst hy;assumption) (nats1 hL) (ints1 hZ)
theorem pexp_c (p q x:Nat) (z:Int) (w:World) (hp:p<256^8) (hq:q<256^128) (he:grpE p q=0) (hx:hasB p q x=true) (hz:z.natAbs<256^128) :
  Calls Tryz.prog 41 #[.agg #[.string (E p),.string (E q)],.string (E x),.agg #[.bool (sg (z)),.string (E (z).natAbs)]] w fun e w'=>e=.returned (.tuple #[.string (E (powI x z p)),.int .i64 0])∧Bw w w':=by
 have hL:=blk4c w (.cells #[Value.string (E p),Value.string (E q)] 24) (.cells #[.bool (sg z),.string (E z.natAbs)] 28) (.cells #[.bool (sg z),.string (E z.natAbs)] 28) #[.string (E x)] 22;have hZ:=blk4d w (.cells #[Value.string (E p),Value.string (E q)] 24) (.cells #[.bool (sg z),.string (E z.natAbs)] 28) (.cells #[.string (E x)] 22) #[.bool (sg z),.string (E z.natAbs)] 28;have hb:=Kh (product1_c p q x z _ _ _ hp hq he hx hz hL hZ);clear hp hq he hx hz hL hZ;generalize powI x z p=y at hb;go_enter Tryz.func41,Tryz.ntmps41
 go_wp2_with fail
 refine (hb.out).mono ?_;rintro e w1 ⟨rfl,hc⟩;go_wp2;go_ret2
 exact⟨rfl,bt (ba (b3 _ _ _ _) _) hc⟩
theorem pmul_c (p q a b:Nat) (w:World) (hp:p<256^8) (hq:q<256^128) (he:grpE p q=0) (ha:hasB p q a=true) (hb:hasB p q b=true) :
  Calls Tryz.prog 43 #[.agg #[.string (E p),.string (E q)],.string (E a),.string (E b)] w fun e w'=>e=.returned (.tuple #[.string (E (a*b%p)),.int .i64 0])∧Bw w w':=by
 have hL:=blk2b w #[Value.string (E p),Value.string (E q)] #[.string (E a),.string (E b)] 24 22
 have HC:=Kh (checked_c p q (w.heap.size+1) 2 2 0 0 none [a,b] [] _ hp hq he rfl rfl (by omega) (by omega) (by omega) (by omega) (by omega) (by omega)
  (by intro x hx;simp at hx;rcases hx with rfl | rfl <;> assumption) (by intro y hy;cases hy) (nats2 hL) (.inl rfl))
 have hc:=Nat.lt_trans (has_lt ha) hp;have hd:=Nat.lt_trans (has_lt hb) hp;have HM:=Kh (fun w=>mmul_c a b p w hc hd hp (by have:=grp_gt he;omega));have hB:=blk2a w #[Value.string (E p),Value.string (E q)] #[.string (E a),.string (E b)] 24 22;clear hp hq he ha hb hL hc hd;generalize a*b%p=y at HM;go_enter Tryz.func43,Tryz.ntmps43
 go_wp2_with fail
 refine (HC.out).mono ?_;rintro e w1 ⟨rfl,hf⟩;replace hB:=hB.after hf;obtain⟨hg,hh,hi,hj⟩:=hB.x2;go_wp2_with fail
 refine (HM.out _).mono ?_;rintro e w2 ⟨rfl,hk⟩;go_wp2;go_ret2
 exact⟨rfl,bt (bt (b2 _ _ _) hf) hk⟩
end
section
open Go.RowKit Go.Shelf
theorem imodA_aux (b:Bool) (n m:Nat) (w:World) (hn:n<256^128) (hm:m<256^128) (h0:0<m) (hv:ivB b (E n)=true) (r:Nat) (hr:r=if b=true∧n%m≠0 then m-n%m else n%m) :
  Calls Tryz.prog 81 #[.agg #[.bool b,.string (E n)],.string (E m)] w fun e w'=>e=.returned (.tuple #[.string (E r),.int .i64 0])∧Bw w w':=by
 have HN:=Kh hn;have HM:=Kh hm;have H0:=Kh h0;have HV:=Kh hv;have hk:=nzE h0;have hA:=Blk.new w #[Value.bool b,Value.string (E n)] 28;have hh:=Kh (Nat.mod_lt n h0);clear hn hm h0 hv;cases b
 ·have HR:Hid (r=n%m):=by rw[Hid,hr];simp
  clear hr;go_enter Tryz.func81,Tryz.ntmps81
  go_wp2_with fail
  refine (ivalidT_c false n _ HN.out HV.out).mono ?_;rintro e w1 ⟨rfl,hf⟩;replace hA:=hA.after hf;obtain⟨hb,hc,hd,he⟩:=hA.x2;go_wp2_with fail
  refine (validE_c m _ HM.out).mono ?_;rintro e w' ⟨rfl,rfl⟩;go_wp2_with fail
  refine (divmodA_c n m _ HN.out HM.out H0.out).mono ?_;rintro e w2 ⟨rfl,hg⟩;clear hb hc hd he;replace hA:=hA.after hg;obtain⟨hb,hc,hd,he⟩:=hA.x2;go_wp2;go_ret2
  exact⟨r2 (vE HR.out.symm) rfl,bt (bt (b1 _ _) hf) hg⟩
 ·by_cases hz:n%m=0
  ·have HR:Hid (r=n%m):=by rw[Hid,hr];simp[hz]
   have hi:=zE hz;clear hr hz;go_enter Tryz.func81,Tryz.ntmps81
   go_wp2_with fail
   refine (ivalidT_c true n _ HN.out HV.out).mono ?_;rintro e w1 ⟨rfl,hf⟩;replace hA:=hA.after hf;obtain⟨hb,hc,hd,he⟩:=hA.x2;go_wp2_with fail
   refine (validE_c m _ HM.out).mono ?_;rintro e w' ⟨rfl,rfl⟩;go_wp2_with fail
   refine (divmodA_c n m _ HN.out HM.out H0.out).mono ?_;rintro e w2 ⟨rfl,hg⟩;clear hb hc hd he;replace hA:=hA.after hg;obtain⟨hb,hc,hd,he⟩:=hA.x2;go_wp2;go_ret2
   exact⟨r2 (vE HR.out.symm) rfl,bt (bt (b1 _ _) hf) hg⟩
  ·have HR:Hid (r=m-n%m):=by rw[Hid,hr];simp[hz]
   have hi:=nzE (Nat.pos_of_ne_zero hz);clear hr hz;go_enter Tryz.func81,Tryz.ntmps81
   go_wp2_with fail
   refine (ivalidT_c true n _ HN.out HV.out).mono ?_;rintro e w1 ⟨rfl,hf⟩;replace hA:=hA.after hf;obtain⟨hb,hc,hd,he⟩:=hA.x2;go_wp2_with fail
   refine (validE_c m _ HM.out).mono ?_;rintro e w' ⟨rfl,rfl⟩;go_wp2_with fail
   refine (divmodA_c n m _ HN.out HM.out H0.out).mono ?_;rintro e w2 ⟨rfl,hg⟩;clear hb hc hd he;replace hA:=hA.after hg;obtain⟨hb,hc,hd,he⟩:=hA.x2;go_wp2_with fail
   refine (sub_c m (n%m) _ HM.out (Nat.le_of_lt hh.out)).mono ?_;rintro e w3 ⟨rfl,hj⟩;go_wp2;go_ret2
   exact⟨r2 (vE HR.out.symm) rfl,bt (bt (bt (b1 _ _) hf) hg) hj⟩
theorem imodA_c (z:Int) (m:Nat) (w:World) (hz:z.natAbs<256^128) (hm:m<256^128) (h0:0<m) :
  Calls Tryz.prog 81 #[.agg #[.bool (sg (z)),.string (E (z).natAbs)],.string (E m)] w fun e w'=>e=.returned (.tuple #[.string (E (z%(m:Int)).toNat),.int .i64 0])∧Bw w w':=
 imodA_aux (sg z) z.natAbs m w hz hm h0 (ivB_I z hz) _ (emod_if z m h0)
end
section
open Go.RowKit
theorem ints2x {w:World} {b:Nat} {x y:Int} {T:TypeId} (h:Blk w b T [.bool (sg x),.string (E x.natAbs),.bool (sg y),.string (E y.natAbs)]):IntsAt w b [x,y]:=by
 refine⟨h.lt,fun j hj=>?_⟩;match j,hj with
 | 0,_=>exact⟨h.cell 0,h.cell 1⟩
 | 1,_=>exact⟨h.cell 2,h.cell 3⟩
theorem ivalX_c (n:Bool) (s:ByteArray) (b:Bool) (w:World) (hs:s.size≤1000) (h:ivB n s=b):Calls Tryz.prog 75 #[.agg #[.bool n,.string s]] w fun e w'=>e=.returned (.bool b)∧Bw w w':=by
 rw[←h];exact ivalid_c n s w (by omega)
def opn (m r:Int):Value:=.agg #[.bool (sg m),.string (E m.natAbs),.bool (sg r),.string (E r.natAbs)]
theorem pvalidB_c (a b:Bool) (s t:ByteArray) (w:World) (hs:s.size≤1000) (ht:t.size≤1000) :
  Calls Tryz.prog 101 #[.agg #[.bool a,.string s,.bool b,.string t]] w fun e w'=>e=.returned (.bool (ivB a s&&ivB b t))∧Bw w w':=by
 obtain⟨r1,hl⟩:∃r1,ivB a s=r1:=⟨_,rfl⟩;obtain⟨r2,hm⟩:∃r2,ivB b t=r2:=⟨_,rfl⟩;rw[hl,hm];have H1:Hid (∀w,Calls Tryz.prog 75 #[.agg #[.bool a,.string s]] w fun e w'=>e=.returned (.bool r1)∧Bw w w'):=fun w=>ivalX_c a s r1 w hs hl
 have H2:Hid (∀w,Calls Tryz.prog 75 #[.agg #[.bool b,.string t]] w fun e w'=>e=.returned (.bool r2)∧Bw w w'):=fun w=>ivalX_c b t r2 w ht hm
 obtain⟨hB,hj⟩:=blk1 w #[Value.bool a,Value.string s,Value.bool b,Value.string t] 30;clear hs ht hl hm;cases r1
 ·
  obtain⟨hb,hc,hd,he,hf,hg,hh,hi⟩:=hB.x4;go_enter Tryz.func101,Tryz.ntmps101
  go_wp2_with fail
  refine (H1.out _).mono ?_;rintro e w1 ⟨rfl,hk⟩;go_wp2;go_ret
  exact⟨rfl,bt hj hk⟩
 ·
  obtain⟨hb,hc,hd,he,hf,hg,hh,hi⟩:=hB.x4;go_enter Tryz.func101,Tryz.ntmps101
  go_wp2_with fail
  refine (H1.out _).mono ?_;rintro e w1 ⟨rfl,hk⟩;clear hb hc hd he hf hg hh hi;replace hB:=hB.after hk;replace hj:=bt hj hk;obtain⟨hb,hc,hd,he,hf,hg,hh,hi⟩:=hB.x4;go_wp2_with fail
  refine (H2.out _).mono ?_;rintro e w2 ⟨rfl,hn⟩;go_wp2;go_ret
  exact⟨by cases r2 <;> rfl,bt hj hn⟩
theorem pvalidI_c (m r:Int) (w:World) (hm:m.natAbs<256^128) (hr:r.natAbs<256^128) :
  Calls Tryz.prog 101 #[opn m r] w fun e w'=>e=.returned (.bool true)∧Bw w w':=by
 have:=pvalidB_c (sg m) (sg r) (E m.natAbs) (E r.natAbs) w (sz1000 hm) (sz1000 hr);rw[ivB_I m hm,ivB_I r hr]at this;exact this
def cmtN (p g h:Nat) (m r:Int):Nat:=pw (prs p [g,h] [m,r]) 0%p
theorem product3_c (p q g h:Nat) (m r:Int) (bl bz:Nat) (w:World) (hp:p<256^8) (hq:q<256^128) (he:grpE p q=0) (hg:hasB p q g=true) (hh:hasB p q h=true) (hm:m.natAbs<256^128) (hr:r.natAbs<256^128)
  (hL:Blk w bl 22 [.string (E g),.string (E h)]) (hZ:Blk w bz 28 [.bool (sg m),.string (E m.natAbs),.bool (sg r),.string (E r.natAbs)]) :
  Calls Tryz.prog 85 #[.agg #[.string (E p),.string (E q)],.slice (some ⟨bl,0,none⟩) 2 2,.slice (some ⟨bz,0,none⟩) 2 2] w fun e w'=>e=.returned (.tuple #[.string (E (cmtN p g h m r)),.int .i64 0])∧Bw w w':=
 product_c p q bl bz 2 2 2 [g,h] [m,r] w hp hq he rfl rfl (by omega) (by omega) (by omega) (by omega) (by omega)
  (by intro x hx;simp at hx;rcases hx with rfl | rfl <;> assumption) (by intro y hy;simp at hy;rcases hy with rfl | rfl <;> assumption) (nats2 hL) (ints2x hZ)
theorem commit_c (p q g h:Nat) (m r:Int) (w:World) (hp:p<256^8) (hq:q<256^128) (hA:g<256^128) (hC:h<256^128) (hm:m.natAbs<256^128) (hr:r.natAbs<256^128)
  (he:pedE p q g h=0) (hg:hasB p q g=true) (hh:hasB p q h=true) :
  Calls Tryz.prog 52 #[.agg #[.string (E p),.string (E q),.string (E g),.string (E h)],opn m r] w fun e w'=>e=.returned (.tuple #[.string (E (cmtN p g h m r)),.int .i64 0])∧Bw w w':=by
 unfold opn;have HF:=Kh (fun w=>pformedV_c (E p) (E q) (E g) (E h) true w (sz1000 (lt128 hp)) (sz1000 hq) (sz1000 hA) (sz1000 hC) (vl4_E (lt128 hp) hq hA hC));have hG:=Kh (fun w=>pedcheckV_c p q g h 0 w hp hq hA hC he);have HV:Hid (∀w,Calls Tryz.prog 101 #[.agg #[.bool (sg m),.string (E m.natAbs),.bool (sg r),.string (E r.natAbs)]] w fun e w'=>e=.returned (.bool true)∧Bw w w'):=fun w=>pvalidI_c m r w hm hr
 have hH:=Kh (fun bl bz w=>product3_c p q g h m r bl bz w hp hq (pedE_grp he) hg hh hm hr);obtain⟨hB,hI,hz⟩:=blk2 w #[Value.string (E p),Value.string (E q),Value.string (E g),Value.string (E h)] #[.bool (sg m),.string (E m.natAbs),.bool (sg r),.string (E r.natAbs)] 26 30;clear hp hq hA hC hm hr he hg hh;obtain⟨hb,hc,hd,hf,hi,hj,hk,hl⟩:=hB.x4;obtain⟨hn,ho,ht,hu,hv,hw,hx,hy⟩:=hI.x4;go_enter Tryz.func52,Tryz.ntmps52
 go_wp2_with fail
 refine (HF.out _).mono ?_;rintro e w1 ⟨rfl,hD⟩;clear hb hc hd hf hi hj hk hl;clear hn ho ht hu hv hw hx hy;replace hB:=hB.after hD;replace hI:=hI.after hD;replace hz:=bt hz hD;obtain⟨hb,hc,hd,hf,hi,hj,hk,hl⟩:=hB.x4;obtain⟨hn,ho,ht,hu,hv,hw,hx,hy⟩:=hI.x4;go_wp2_with fail
 refine (HV.out _).mono ?_;rintro e w2 ⟨rfl,hE⟩;clear hb hc hd hf hi hj hk hl;clear hn ho ht hu hv hw hx hy;replace hB:=hB.after hE;replace hI:=hI.after hE;replace hz:=bt hz hE;obtain⟨hb,hc,hd,hf,hi,hj,hk,hl⟩:=hB.x4;obtain⟨hn,ho,ht,hu,hv,hw,hx,hy⟩:=hI.x4;go_wp2_with fail
 refine (hG.out _).mono ?_;rintro e w3 ⟨rfl,hF⟩;clear hb hc hd hf hi hj hk hl;clear hn ho ht hu hv hw hx hy;replace hB:=hB.after hF;replace hI:=hI.after hF;replace hz:=bt hz hF;obtain⟨hb,hc,hd,hf,hi,hj,hk,hl⟩:=hB.x4;obtain⟨hn,ho,ht,hu,hv,hw,hx,hy⟩:=hI.x4;clear hD hE hF;have hK:w.heap.size<w3.heap.size:=hB.lt;have hJ:w.heap.size+1<w3.heap.size:=hI.lt;go_wp2_with fail
 refine (hH.out _ _ _ (blk2a _ _ _ _ _) (blk2b _ _ _ _ _)).mono ?_;rintro e wd ⟨rfl,hbd⟩;go_wp2;go_ret2
 exact⟨rfl,bt (ba (ba hz _) _) hbd⟩
end
section
/- Small functions of squarerange and of ref27. -/
open Go.RowKit Go.Shelf
def term1 (s:ByteArray) (v:Int):Value:=.agg #[.string s,.int .i64 v,.bool false,.string (E 1)]
theorem sqterm_c (s:ByteArray) (v:Int) (w:World) :
  Calls Tryz.prog 61 #[.string s,.int .i64 v] w fun e w'=>e=.returned (term1 s v)∧Bw w w':=by
 unfold term1;rw[E_one];go_enter Tryz.func61,Tryz.ntmps61
 go_wp2;refine bodyPost_ret (v:=.agg #[.string s,.int .i64 v,.bool false,.string ⟨#[1]⟩]) ?_ rfl ⟨rfl,b1 _ _⟩;have hB:=Blk.new w #[Value.string s,Value.int .i64 v,.bool false,.string ⟨#[1]⟩] 129;have hl:=hB.lt;obtain⟨hb,hf,hc,hg,hd,hh,he,hi⟩:=hB.x4;simp[results,Tryz.results61,go_sem,hb,hc,hd,he,hl]
theorem sqequation_c (t:ByteArray) (ao:Option Addr) (n c:Nat) (w:World) :
  Calls Tryz.prog 60 #[.string t,.slice ao n c] w fun e w'=>e=.returned (.agg #[.int .i64 0,.string t,.slice ao n c])∧Bw w w':=by
 go_enter Tryz.func60,Tryz.ntmps60
 go_wp2;refine bodyPost_ret (v:=.agg #[.int .i64 0,.string t,.slice ao n c]) ?_ rfl ⟨rfl,b1 _ _⟩;have hB:=Blk.new w #[Value.int .i64 0,Value.string t,.slice ao n c] 87;have hl:=hB.lt;obtain⟨hb,he,hc,hf,hd,hg⟩:=hB.x3;simp[results,Tryz.results60,go_sem,hb,hc,hd,hl]
end
section
/- dominoref02.Small at any integer. -/
open Go.RowKit Go.Shelf
theorem rsm27a_c (n:Nat) (w:World) (h:n<256^8) :
  Calls Tryz.prog 45 #[.string (E n)] w fun e w'=>e=.returned (.tuple #[.int .u64 n,.bool true])∧w=w':=by
 have hs:=(E_size_le n 8).2 h;have e1:decide ((8:Int)<((E n).size:Int))=false:=decide_eq_false (by omega);have HV:Hid (∀w,Calls Tryz.prog 89 #[.string (E n)] w fun e w'=>e=.returned (.bool true)∧w=w'):=fun w=>rvalidE_c n w (Nl h P8)
 have HU:Hid (∀w,Calls Tryz.prog 90 #[.string (E n)] w fun e w'=>e=.returned (.int .u64 n)∧w=w'):=fun w=>ru64_c n w h
 generalize E n=s at e1 HV HU hs ⊢;clear h;go_enter Tryz.func45,Tryz.ntmps45
 go_wp2_with fail
 refine (HV.out _).mono ?_;rintro e w1 ⟨rfl,rfl⟩;go_wp2_with fail
 refine (HU.out _).mono ?_;rintro e w2 ⟨rfl,rfl⟩;go_wp2;go_ret2
 exact⟨rfl,rfl⟩
theorem rsm27b_c (n:Nat) (w:World) (h:256^8≤n) (h2:n<256^128) :
  Calls Tryz.prog 45 #[.string (E n)] w fun e w'=>e=.returned (.tuple #[.int .u64 0,.bool false])∧w=w':=by
 have hs:8<(E n).size:=by
  apply Classical.byContradiction
  intro hn;have:=(E_size_le n 8).1 (by omega);omega
 have e1:decide ((8:Int)<((E n).size:Int))=true:=Dt (by omega);have HV:Hid (∀w,Calls Tryz.prog 89 #[.string (E n)] w fun e w'=>e=.returned (.bool true)∧w=w'):=fun w=>rvalidE_c n w h2
 generalize E n=s at e1 HV hs ⊢;clear h h2;go_enter Tryz.func45,Tryz.ntmps45
 go_wp2_with fail
 refine (HV.out _).mono ?_;rintro e w1 ⟨rfl,rfl⟩;go_wp2;go_ret2
 exact⟨rfl,rfl⟩
def sm64 (z:Int):Int:=if -9223372036854775808≤z∧z≤9223372036854775807 then z else 0
def sm64B (z:Int):Bool:=decide (-9223372036854775808≤z∧z≤9223372036854775807)
theorem rsm27_c (z:Int) (w:World) (h:z.natAbs<256^128) :
  Calls Tryz.prog 12 #[.agg #[.bool (sg (z)),.string (E (z).natAbs)]] w fun e w'=>e=.returned (.tuple #[.int .i64 (sm64 z),.bool (sm64B z)])∧Bw w w':=by
 have HV:Hid (∀w,Calls Tryz.prog 44 #[.agg #[.bool (sg (z)),.string (E (z).natAbs)]] w fun e w'=>e=.returned (.bool true)∧Bw w w'):=fun w=>rivalB_c (sg z) (E z.natAbs) true w (by have:=sz z.natAbs h;omega) (ivB_I z h)
 obtain⟨hP,hg⟩:=blk1 w #[.bool (sg z),.string (E z.natAbs)] 28;obtain⟨n,hj⟩:∃n,n=z.natAbs:=⟨_,rfl⟩;by_cases hn:n<256^8
 ·have HS:Hid (∀w,Calls Tryz.prog 45 #[.string (E n)] w fun e w'=>e=.returned (.tuple #[.int .u64 n,.bool true])∧w=w'):=fun w=>rsm27a_c n w hn
  have hk:n<18446744073709551616:=hn;rw[←hj]at HV hP hg h ⊢;by_cases hz:z<0
  ·have hb:sg z=true:=by unfold sg;exact Dt hz
   rw[hb]at HV hP hg ⊢;by_cases hl:n≤9223372036854775808
   ·have HZ:Hid (sm64 z=-((n:Int)-1)-1):=by rw[Hid,sm64,if_pos (by omega)];omega
    have hi:Hid (sm64B z=true):=Dt (by omega);have e0:decide ((n:Int)≤9223372036854775808)=true:=Dt (by omega);have a1:(0:Int)≤(n:Int)-1:=by omega
    have a2:(n:Int)-1≤9223372036854775807:=by omega
    have c1:IntKind.u64.wrap ((n:Int)-1)=(n:Int)-1:=by rw[IntKind.wrap_u64];omega
    have c2:IntKind.i64.wrap ((n:Int)-1)=(n:Int)-1:=wi64 (by omega) (by omega);have c3:IntKind.i64.wrap (-((n:Int)-1))=-((n:Int)-1):=wi64 (by omega) (by omega);have c4:IntKind.i64.wrap (-((n:Int)-1)-1)=-((n:Int)-1)-1:=wi64 (by omega) (by omega);have HC:=Kh c4;clear hn hk hl h;generalize E n=s at HV HS hP hg ⊢;clear hz hj hb a1 a2;obtain⟨hc,hd,he,hf⟩:=hP.x2;go_enter Tryz.func12,Tryz.ntmps12
    go_wp2_with fail
    refine (HV.out _).mono ?_;rintro e w1 ⟨rfl,hh⟩;clear hc hd he hf;replace hP:=hP.after hh;replace hg:=bt hg hh;clear hh;obtain⟨hc,hd,he,hf⟩:=hP.x2;go_wp2_with fail
    refine (HS.out _).mono ?_;rintro e w2 ⟨rfl,rfl⟩;go_wp2;go_ret2
    exact⟨by rw[HZ.out,hi.out];first | rfl | go_num,hg⟩
   ·have HZ:Hid (sm64 z=0):=by rw[Hid,sm64,if_neg (by omega)]
    have hi:Hid (sm64B z=false):=decide_eq_false (by omega);have e0:decide ((n:Int)≤9223372036854775808)=false:=decide_eq_false (by omega);clear hn hk hl h;generalize E n=s at HV HS hP hg ⊢;clear hz hj hb;obtain⟨hc,hd,he,hf⟩:=hP.x2;go_enter Tryz.func12,Tryz.ntmps12
    go_wp2_with fail
    refine (HV.out _).mono ?_;rintro e w1 ⟨rfl,hh⟩;clear hc hd he hf;replace hP:=hP.after hh;replace hg:=bt hg hh;clear hh;obtain⟨hc,hd,he,hf⟩:=hP.x2;go_wp2_with fail
    refine (HS.out _).mono ?_;rintro e w2 ⟨rfl,rfl⟩;go_wp2;go_ret2
    exact⟨by rw[HZ.out,hi.out];first | rfl | go_num,hg⟩
  ·have hb:sg z=false:=by unfold sg;exact decide_eq_false hz
   rw[hb]at HV hP hg ⊢;by_cases hl:n<9223372036854775808
   ·have HZ:Hid (sm64 z=(n:Int)):=by rw[Hid,sm64,if_pos (by omega)];omega
    have hi:Hid (sm64B z=true):=Dt (by omega);have e0:decide ((n:Int)<9223372036854775808)=true:=Dt (by omega);have c2:IntKind.i64.wrap (n:Int)=(n:Int):=wi64 (by omega) (by omega);clear hn hk hl h;generalize E n=s at HV HS hP hg ⊢;clear hz hj hb;obtain⟨hc,hd,he,hf⟩:=hP.x2;go_enter Tryz.func12,Tryz.ntmps12
    go_wp2_with fail
    refine (HV.out _).mono ?_;rintro e w1 ⟨rfl,hh⟩;clear hc hd he hf;replace hP:=hP.after hh;replace hg:=bt hg hh;clear hh;obtain⟨hc,hd,he,hf⟩:=hP.x2;go_wp2_with fail
    refine (HS.out _).mono ?_;rintro e w2 ⟨rfl,rfl⟩;go_wp2;go_ret2
    exact⟨by rw[HZ.out,hi.out];first | rfl | go_num,hg⟩
   ·have HZ:Hid (sm64 z=0):=by rw[Hid,sm64,if_neg (by omega)]
    have hi:Hid (sm64B z=false):=decide_eq_false (by omega);have e0:decide ((n:Int)<9223372036854775808)=false:=decide_eq_false (by omega);clear hn hk hl h;generalize E n=s at HV HS hP hg ⊢;clear hz hj hb;obtain⟨hc,hd,he,hf⟩:=hP.x2;go_enter Tryz.func12,Tryz.ntmps12
    go_wp2_with fail
    refine (HV.out _).mono ?_;rintro e w1 ⟨rfl,hh⟩;clear hc hd he hf;replace hP:=hP.after hh;replace hg:=bt hg hh;clear hh;obtain⟨hc,hd,he,hf⟩:=hP.x2;go_wp2_with fail
    refine (HS.out _).mono ?_;rintro e w2 ⟨rfl,rfl⟩;go_wp2;go_ret2
    exact⟨by rw[HZ.out,hi.out];first | rfl | go_num,hg⟩
 ·have HS:Hid (∀w,Calls Tryz.prog 45 #[.string (E n)] w fun e w'=>e=.returned (.tuple #[.int .u64 0,.bool false])∧w=w'):=fun w=>rsm27b_c n w (by omega) (by rw[hj];exact h)
  have hk:18446744073709551616≤n:=by
   have:(256:Nat)^8=18446744073709551616:=by decide
   omega
  have HZ:Hid (sm64 z=0):=by rw[Hid,sm64,if_neg (by omega)]
  have hi:Hid (sm64B z=false):=decide_eq_false (by omega);rw[←hj]at HV hP hg h ⊢;clear hn hk h;generalize E n=s at HV HS hP hg ⊢;generalize sg z=sb at HV hP hg ⊢;clear hj;obtain⟨hc,hd,he,hf⟩:=hP.x2;go_enter Tryz.func12,Tryz.ntmps12
  go_wp2_with fail
  refine (HV.out _).mono ?_;rintro e w1 ⟨rfl,hh⟩;clear hc hd he hf;replace hP:=hP.after hh;replace hg:=bt hg hh;clear hh;obtain⟨hc,hd,he,hf⟩:=hP.x2;go_wp2_with fail
  refine (HS.out _).mono ?_;rintro e w2 ⟨rfl,rfl⟩;go_wp2;go_ret2
  exact⟨by rw[HZ.out,hi.out];first | rfl | go_num,hg⟩
end
section
open Go.RowKit Go.Shelf
theorem rvalidX_c (s:ByteArray) (w:World) (h1:128<s.size) (hs:s.size≤9223372036854775807) :
  Calls Tryz.prog 89 #[.string s] w fun e w'=>e=.returned (.bool false)∧w=w':=by
 go_enter Tryz.func89,Tryz.ntmps89
 go_wp2;go_ret
 exact⟨rfl,rfl⟩
theorem rivalidX_c (b:Bool) (s:ByteArray) (w:World) (h1:128<s.size) (hs:s.size≤9223372036854775807) :
  Calls Tryz.prog 44 #[.agg #[.bool b,.string s]] w fun e w'=>e=.returned (.bool false)∧Bw w w':=by
 go_enter Tryz.func44,Tryz.ntmps44
 go_wp2_with fail
 refine (rvalidX_c s _ h1 hs).mono ?_;rintro e w' ⟨rfl,rfl⟩;go_wp2;go_ret
 exact⟨rfl,b1 _ _⟩
theorem rsm27bad_c (b:Bool) (s:ByteArray) (w:World) (hs:s.size≤9223372036854775807) (h:ivB b s=false) :
  Calls Tryz.prog 12 #[.agg #[.bool b,.string s]] w fun e w'=>e=.returned (.tuple #[.int .i64 0,.bool false])∧Bw w w':=by
 have HV:Hid (∀w,Calls Tryz.prog 44 #[.agg #[.bool b,.string s]] w fun e w'=>e=.returned (.bool false)∧Bw w w'):=fun w=>by
  by_cases h1:128<s.size
  ·exact rivalidX_c b s w h1 hs
  ·rw[←h];exact rivalid_c b s w (by omega)
 obtain⟨hP,hb⟩:=blk1 w #[.bool b,.string s] 28;clear h hs;obtain⟨hc,hd,he,hf⟩:=hP.x2;go_enter Tryz.func12,Tryz.ntmps12
 go_wp2_with fail
 refine (HV.out _).mono ?_;rintro e w1 ⟨rfl,hg⟩;replace hb:=bt hb hg;go_wp2;go_ret2
 exact⟨rfl,hb⟩
theorem rsm27all_c (b:Bool) (s:ByteArray) (w:World) (hs:s.size≤9223372036854775807):∃n ok,
  ∀w,Calls Tryz.prog 12 #[.agg #[.bool b,.string s]] w fun e w'=>e=.returned (.tuple #[.int .i64 n,.bool ok])∧Bw w w':=by
 cases h:ivB b s
 ·exact⟨0,false,fun w=>rsm27bad_c b s w hs h⟩
 ·obtain⟨z,hz,rfl,rfl⟩:=of_ivB h;exact⟨sm64 z,sm64B z,fun w=>rsm27_c z w hz⟩
def gate27 (a b c d:ByteArray) (lo:Int) (va ra vl rd:ByteArray):Prop:=
 kfw a b c d=true∧va.size≤12∧ra.size≤12∧vl.size≤12∧rd.size≤12∧-1099511627776<lo∧lo<1099511627776
def GateP (P:Prop) (w w':World) (e:Ending):Prop:=∃r,e=.returned (.bool r)∧(r=true→P)∧Bw w w'
theorem gateP {P:Prop} {w w':World} {e:Ending} (r:Bool) (he:e=.returned (.bool r)) (h:r=true→P) (hb:Bw w w'):GateP P w w' e:=⟨r,he,h,hb⟩
theorem l27small_c (a b c d:ByteArray) (lo:Int) (vn:Bool) (va:ByteArray) (rn:Bool) (ra vl rd:ByteArray) (w:World)
  (h1:va.size≤9223372036854775807) (h2:ra.size≤9223372036854775807) :
  Calls Tryz.prog 4 #[.agg #[.string a,.string b,.string c,.string d,.int .i64 lo,.bool vn,.string va,.bool rn,.string ra,.string vl,.string rd]] w fun e w'=>GateP (gate27 a b c d lo va ra vl rd) w w' e:=by
 obtain⟨n,ok,hC⟩:=rsm27all_c vn va w h1;have HS:=Kh hC;obtain⟨kb,hz⟩:∃k,k=kfw a b c d:=⟨_,rfl⟩;obtain⟨ob,hA⟩:∃k,k=(decide (va.size≤12)&&decide (ra.size≤12)):=⟨_,rfl⟩;have HF:Hid (∀w,Calls Tryz.prog 13 #[.agg #[.string a,.string b,.string c,.string d]] w fun e w'=>e=.returned (.bool kb)∧Bw w w'):=fun w=>by rw[hz];exact l27Few_c a b c d w
 have HO:Hid (∀w,Calls Tryz.prog 14 #[.agg #[.bool vn,.string va,.bool rn,.string ra]] w fun e w'=>e=.returned (.bool ob)∧Bw w w'):=fun w=>by rw[hA];exact l27opening_c vn rn va ra w (by omega) (by omega)
 have HG:Hid (kb=true→ob=true→vl.size≤12→rd.size≤12→-1099511627776<lo→lo<1099511627776→gate27 a b c d lo va ra vl rd):=fun k1 k2 k3 k4 k5 k6=>by
  rw[hA,Bool.and_eq_true]at k2;exact⟨hz.symm.trans k1,of_decide_eq_true k2.1,of_decide_eq_true k2.2,k3,k4,k5,k6⟩
 clear hz hA;obtain⟨hB,hy⟩:=blk1 w #[.string a,.string b,.string c,.string d,.int .i64 lo,.bool vn,.string va,.bool rn,.string ra,.string vl,.string rd] 32;clear hC h1 h2;obtain⟨hd,he,hf,hg,hh,hi,hj,hk,hl,hm,hn,ho,hp,hq,hr,ht,hu,hv,hw,hx,hb,hc⟩:=hB.x11;go_enter Tryz.func4,Tryz.ntmps4
 go_wp2_with fail
 refine (HS.out _).mono ?_;rintro e w1 ⟨rfl,hD⟩;clear hd he hf hg hh hi hj hk hl hm hn ho hp hq hr ht hu hv hw hx hb hc;replace hB:=hB.after hD;replace hy:=bt hy hD;obtain⟨hd,he,hf,hg,hh,hi,hj,hk,hl,hm,hn,ho,hp,hq,hr,ht,hu,hv,hw,hx,hb,hc⟩:=hB.x11;go_wp2_with fail
 all_goals
  refine (HF.out _).mono ?_;rintro e w2 ⟨rfl,hE⟩;clear hd he hf hg hh hi hj hk hl hm hn ho hp hq hr ht hu hv hw hx hb hc;replace hB:=hB.after hE;replace hy:=bt hy hE;obtain⟨hd,he,hf,hg,hh,hi,hj,hk,hl,hm,hn,ho,hp,hq,hr,ht,hu,hv,hw,hx,hb,hc⟩:=hB.x11;cases kb
  ·
   go_wp2;all_goals go_ret
   all_goals exact gateP false rfl (fun h=>(by cases h)) hy
  ·
   go_wp2_with fail
   refine (HO.out _).mono ?_;rintro e w3 ⟨rfl,hF⟩;clear hd he hf hg hh hi hj hk hl hm hn ho hp hq hr ht hu hv hw hx hb hc;replace hB:=hB.after hF;replace hy:=bt hy hF;obtain⟨hd,he,hf,hg,hh,hi,hj,hk,hl,hm,hn,ho,hp,hq,hr,ht,hu,hv,hw,hx,hb,hc⟩:=hB.x11;cases ob
   ·
    go_wp2;all_goals go_ret
    all_goals exact gateP false rfl (fun h=>(by cases h)) hy
   ·
    go_wp2;all_goals go_ret
    all_goals refine gateP _ rfl ?_ hy
    all_goals intro h
    all_goals first | exact absurd h (by decide) | exact HG.out (by trivial) (by trivial) (by omega) (by omega) (by omega) (by first | omega | (have h9:=of_decide_eq_true h;omega) | (have h9:=of_decide_eq_true (Bool.and_eq_true_iff.1 h).2;omega))
end
end Go.Proofs.YtdgddpnjkinciaaGreatDoor
