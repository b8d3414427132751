import Derived.Test.YtfgandecbkbleaaGreatDoorLg4
import Derived.Test.YtfgandecbkbleaaGreatDoorRInt5
import Derived.Test.YtfgandecbkbleaaGreatDoorRfs
set_option linter.unusedVariables false
set_option linter.unusedSimpArgs false
set_option maxRecDepth 100000
set_option maxHeartbeats 16000000
namespace Go.Proofs.YtfgandecbkbleaaGreatDoor
section
open Go.RowKit
def IPost (b:Bool) (w:World) (e:Ending) (w':World):Prop:=∃i:Int,e=.returned (.int .i64 i)∧decide (0≤i)=b∧Below w.heap.size w w'
theorem any_take {α:Type} (p:α→Bool) (l:List α) (k:Nat) (h:k<l.length):(l.take (k+1)).any p=((l.take k).any p || p l[k]):=by
 rw [List.take_succ_eq_append_getElem h,List.any_append];simp
theorem any_hit {α:Type} (p:α→Bool) (l:List α) (k:Nat) (h:k<l.length) (hb:p l[k]=true):l.any p=true:=by
 rw [List.any_eq_true];exact ⟨l[k],List.getElem_mem h,hb⟩
theorem any_end {α:Type} (p:α→Bool) (l:List α) (k:Nat) (h:k=l.length) (hb:(l.take k).any p=false):l.any p=false:=by
 rw [h,List.take_length] at hb;exact hb
end
section
open Go.RowKit
theorem rvalB_c (s:ByteArray) (b:Bool) (w:World) (hs:s.size≤1000) (h:vldB s=b):Calls Tryz.prog 50 #[.string s] w fun e w'=>e=.returned (.bool b)∧w'=w:=by
 rw [←h];exact (rvalid_c s w (by omega)).mono fun _ _ h=>⟨h.1,h.2.symm⟩
theorem rivalB_c (n:Bool) (s:ByteArray) (b:Bool) (w:World) (hs:s.size≤1000) (h:ivB n s=b):Calls Tryz.prog 73 #[.agg #[.bool n,.string s]] w fun e w'=>e=.returned (.bool b)∧Below w.heap.size w w':=by
 rw [←h];exact rivalid_c n s w (by omega)
theorem rformed_c (S:Sta) (v1 v2 v3:Value) (w:World) (hm:SSm S) (hS:StAt w v1 v2 v3 S) :
  Calls Tryz.prog 118 #[.agg #[v1,v2,v3]] w fun e w'=>e=.returned (.bool (formB S))∧Below w.heap.size w w':=by
 obtain ⟨r,hr⟩:∃r:Bool,r=formB S:=⟨_,rfl⟩;have HRES:=Lib.hid hr;rw [←hr];clear hr;obtain ⟨a1,c1,rfl⟩:=hS.g.form;obtain ⟨a2,c2,rfl⟩:=hS.v.form;obtain ⟨a3,c3,rfl⟩:=hS.e.form;have HM:=Lib.hid hm;obtain ⟨n1,hn1⟩:∃n,n=S.grps.length:=⟨_,rfl⟩;obtain ⟨n2,hn2⟩:∃n,n=S.vars.length:=⟨_,rfl⟩;obtain ⟨n3,hn3⟩:∃n,n=S.eqs.length:=⟨_,rfl⟩;have HN1:=Lib.hid hn1;have HN2:=Lib.hid hn2;have HN3:=Lib.hid hn3;have l1:n1≤1000:=by rw [hn1];exact hm.ng
 have l2:n2≤1000:=by rw [hn2];exact hm.nv
 have l3:n3≤1000:=by rw [hn3];exact hm.ne
 rw [←hn1,←hn2,←hn3] at hS ⊢;clear hm hn1 hn2 hn3;have hP:=Blk.new w #[.slice a1 n1 c1,.slice a2 n2 c2,.slice a3 n3 c3] 61;have hBW:=b1 w (.cells #[.slice a1 n1 c1,.slice a2 n2 c2,.slice a3 n3 c3] 61);replace hS:=hS.after hBW;go_enter Tryz.func118,Tryz.ntmps118
 go_wp2;generalize w.alloc (.cells #[.slice a1 n1 c1,.slice a2 n2 c2,.slice a3 n3 c3] 61)=w1 at hP hBW hS;replace hP:Blk w1 w.heap.size 61 [.slice a1 n1 c1,.slice a2 n2 c2,.slice a3 n3 c3]:=hP;go_loopw [3] (fun i wr=>∃k:Nat,k≤n1∧i=.int .i64 k∧Hid ((S.grps.take k).all gokB=true)∧Below w1.heap.size w1 wr) (fun i _=>n1-(intOf i).toNat)
 case atStart=>exact ⟨0,by omega,rfl,rfl,Below.refl _ _⟩
 case round =>
  obtain ⟨k,hk,rfl,HA,hbr⟩:=hrel;obtain ⟨wp,hwp⟩:∃wp,wp=wr:=⟨_,rfl⟩;subst hwp;replace hS:=hS.after hbr;replace hP:=hP.after hbr;replace hBW:=bt hBW hbr;by_cases hlt:k<n1
  ·have hkl:k<S.grps.length:=by rw [←HN1.out];exact hlt
   have HSZ:=Lib.hid (HM.out.g _ (List.getElem_mem hkl));have HT:=Lib.hid (all_take gokB S.grps k hkl);have HBAD:Hid (gokB S.grps[k]=false→formB S=false):=fun h=>by unfold formB;rw [all_bad gokB S.grps k hkl h];rfl
   obtain ⟨b,o,rfl,hbl,x1,x2⟩:=hS.g.at_ hkl;have HG:Hid (gokB S.grps[k]=(vldB S.grps[k].1&&vldB S.grps[k].2)):=rfl;generalize gokB (S.grps[k]'hkl)=gk at HT HBAD HG;generalize (S.grps[k]'hkl).1=s1 at x1 HSZ HG;generalize (S.grps[k]'hkl).2=s2 at x2 HSZ HG;have h0k:(0:Int)≤(k:Int):=by omega
   have h1k:(k:Int)<(n1:Int):=by omega
   cases hv1:vldB s1
   ·have HF:Hid (formB S=false):=HBAD.out (by rw [HG.out,hv1];rfl);obtain ⟨hPc0,hPf0,hPc1,hPf1,hPc2,hPf2⟩:=hP.x3;go_wp2_with fail
    refine (rvalB_c s1 false _ HSZ.out.1 hv1).mono ?_;rintro e w' ⟨rfl,hw'⟩;subst w';go_wp2;go_ret
    exact ⟨by rw [HRES.out,HF.out];rfl,hBW⟩
   ·cases hv2:vldB s2
    ·have HF:Hid (formB S=false):=HBAD.out (by rw [HG.out,hv1,hv2];rfl);obtain ⟨hPc0,hPf0,hPc1,hPf1,hPc2,hPf2⟩:=hP.x3;go_wp2_with fail
     refine (rvalB_c s1 true _ HSZ.out.1 hv1).mono ?_;rintro e w' ⟨rfl,hw'⟩;subst w';go_wp2_with fail
     refine (rvalB_c s2 false _ HSZ.out.2 hv2).mono ?_;rintro e w' ⟨rfl,hw'⟩;subst w';go_wp2;go_ret
     exact ⟨by rw [HRES.out,HF.out];rfl,hBW⟩
    ·have HX:Hid ((S.grps.take (k+1)).all gokB=true):=by rw [Hid,HT.out,HA.out,HG.out,hv1,hv2];rfl
     obtain ⟨hPc0,hPf0,hPc1,hPf1,hPc2,hPf2⟩:=hP.x3;go_wp2_with fail
     refine (rvalB_c s1 true _ HSZ.out.1 hv1).mono ?_;rintro e w' ⟨rfl,hw'⟩;subst w';go_wp2_with fail
     refine (rvalB_c s2 true _ HSZ.out.2 hv2).mono ?_;rintro e w' ⟨rfl,hw'⟩;subst w';go_wp2;go_roundw
     case rel=>exact ⟨k+1,by omega,by go_num,HX,hbr⟩
     case measure=>simp [intOf];omega
  ·have HG:Hid (S.grps.all gokB=true):=all_end gokB S.grps k (by rw [←HN1.out];omega) HA.out;clear hbr;obtain ⟨hPc0,hPf0,hPc1,hPf1,hPc2,hPf2⟩:=hP.x3;go_wp2;clear hPc0 hPf0 hPc1 hPf1 hPc2 hPf2;go_loopw [4] (fun i wr=>∃k:Nat,k≤n2∧i=.int .i64 k∧Hid ((S.vars.take k).all vldB=true)∧Below wp.heap.size wp wr) (fun i _=>n2-(intOf i).toNat)
   case atStart=>exact ⟨0,by omega,rfl,rfl,Below.refl _ _⟩
   case round =>
    clear HA hlt hk;obtain ⟨k,hk,rfl,HA,hbr⟩:=hrel;obtain ⟨wq,hwq⟩:∃wq,wq=wr:=⟨_,rfl⟩;subst hwq;replace hS:=hS.after hbr;replace hP:=hP.after hbr;replace hBW:=bt hBW hbr;by_cases hlt:k<n2
    ·have hkl:k<S.vars.length:=by rw [←HN2.out];exact hlt
     have HSZ:=Lib.hid (HM.out.v _ (List.getElem_mem hkl));have HT:=Lib.hid (all_take vldB S.vars k hkl);have HBAD:Hid (vldB S.vars[k]=false→formB S=false):=fun h=>by unfold formB;rw [all_bad vldB S.vars k hkl h];simp
     obtain ⟨b,o,rfl,hbl,x1⟩:=hS.v.at_ hkl;generalize S.vars[k]'hkl=s1 at x1 HSZ HT HBAD;have h0k:(0:Int)≤(k:Int):=by omega
     have h1k:(k:Int)<(n2:Int):=by omega
     cases hv1:vldB s1
     ·have HF:Hid (formB S=false):=HBAD.out hv1;obtain ⟨hPc0,hPf0,hPc1,hPf1,hPc2,hPf2⟩:=hP.x3;go_wp2_with fail
      refine (rvalB_c s1 false _ HSZ.out hv1).mono ?_;rintro e w' ⟨rfl,hw'⟩;subst w';go_wp2;go_ret
      exact ⟨by rw [HRES.out,HF.out];rfl,hBW⟩
     ·have HX:Hid ((S.vars.take (k+1)).all vldB=true):=by rw [Hid,HT.out,HA.out,hv1];rfl
      obtain ⟨hPc0,hPf0,hPc1,hPf1,hPc2,hPf2⟩:=hP.x3;go_wp2_with fail
      refine (rvalB_c s1 true _ HSZ.out hv1).mono ?_;rintro e w' ⟨rfl,hw'⟩;subst w';go_wp2;go_roundw
      case rel=>exact ⟨k+1,by omega,by go_num,HX,hbr⟩
      case measure=>simp [intOf];omega
    ·have HV:Hid (S.vars.all vldB=true):=all_end vldB S.vars k (by rw [←HN2.out];omega) HA.out;clear hbr;obtain ⟨hPc0,hPf0,hPc1,hPf1,hPc2,hPf2⟩:=hP.x3;go_wp2;clear hPc0 hPf0 hPc1 hPf1 hPc2 hPf2;clear HA hlt hk;go_loopw [5] (fun i wr=>∃k:Nat,k≤n3∧i=.int .i64 k∧Hid ((S.eqs.take k).all (eokB n1 n2)=true)∧Below wq.heap.size wq wr) (fun i _=>n3-(intOf i).toNat)
     case atStart=>exact ⟨0,by omega,rfl,rfl,Below.refl _ _⟩
     case round =>
      obtain ⟨k,hk,rfl,HA,hbr⟩:=hrel;obtain ⟨wt,hwt⟩:∃wt,wt=wr:=⟨_,rfl⟩;subst hwt;replace hS:=hS.after hbr;replace hP:=hP.after hbr;replace hBW:=bt hBW hbr;by_cases hlt:k<n3
      ·have hkl:k<S.eqs.length:=by rw [←HN3.out];exact hlt
       have HSZ:=Lib.hid (HM.out.e _ (List.getElem_mem hkl));have HT:=Lib.hid (all_take (eokB n1 n2) S.eqs k hkl);have HBAD:Hid (eokB n1 n2 S.eqs[k]=false→formB S=false):=fun h=>by unfold formB;rw [←HN1.out,←HN2.out,all_bad (eokB n1 n2) S.eqs k hkl h];simp
       obtain ⟨b,o,tv,rfl,hbl,x1,x2,x3,hTs⟩:=hS.e.at_ hkl;generalize S.eqs[k]'hkl=q at x1 x2 x3 hTs HSZ HT HBAD;obtain ⟨qg,qt,qs⟩:=q;simp only [] at x1 x2 x3 hTs;obtain ⟨to_,tc,rfl⟩:=RAt.form hTs;obtain ⟨n4,hn4⟩:∃n,n=qs.length:=⟨_,rfl⟩;have HN4:=Lib.hid hn4;rw [←hn4] at x3 hTs;clear hn4;have hB:=Blk.new wt #[.int .i64 qg,.string qt,.slice to_ n4 tc] 115;have h0k:(0:Int)≤(k:Int):=by omega
       have h1k:(k:Int)<(n3:Int):=by omega
       have hPl:=hP.lt;have HQ:Hid (eokB n1 n2 ⟨qg,qt,qs⟩=(decide (0≤qg)&&decide (qg<(n1:Int))&&vldB qt&&qs.all (tokB n2))):=rfl;generalize eokB n1 n2 ⟨qg,qt,qs⟩=ek at HT HBAD HQ;cases hv:vldB qt
       ·have HF:Hid (formB S=false):=HBAD.out (by rw [HQ.out,hv];simp);obtain ⟨hPc0,hPf0,hPc1,hPf1,hPc2,hPf2⟩:=hP.x3;go_wp2_with fail
        refine (rvalB_c qt false _ HSZ.out.1 hv).mono ?_;rintro e w' ⟨rfl,hw'⟩;subst w';go_wp2;go_ret
        exact ⟨by rw [HRES.out,HF.out];rfl,ba hBW _⟩
       ·cases hd1:decide (qg<0)
        ·cases hd2:decide ((n1:Int)≤qg)
         ·have hx1:decide (0≤qg)=true:=decide_eq_true (by have:=of_decide_eq_false hd1;omega);have hx2:decide (qg<(n1:Int))=true:=decide_eq_true (by have:=of_decide_eq_false hd2;omega);obtain ⟨hPc0,hPf0,hPc1,hPf1,hPc2,hPf2⟩:=hP.x3;go_wp2_with fail
          refine (rvalB_c qt true _ HSZ.out.1 hv).mono ?_;rintro e w' ⟨rfl,hw'⟩;subst w';go_wp2;clear hPc0 hPf0 hPc1 hPf1 hPc2 hPf2;replace hP:=hP.alloc (.cells #[.int .i64 qg,.string qt,.slice to_ n4 tc] 115);replace hTs:=TsAt.after hTs (b1 _ (.cells #[.int .i64 qg,.string qt,.slice to_ n4 tc] 115));replace hBW:=ba hBW (.cells #[.int .i64 qg,.string qt,.slice to_ n4 tc] 115);replace hbr:=ba hbr (.cells #[.int .i64 qg,.string qt,.slice to_ n4 tc] 115);have l4:n4≤1000:=by rw [HN4.out];exact HSZ.out.2.1
          generalize wt.alloc (.cells #[.int .i64 qg,.string qt,.slice to_ n4 tc] 115)=wu at hP hTs hBW hbr hB;replace hB:Blk wu wt.heap.size 115 [.int .i64 qg,.string qt,.slice to_ n4 tc]:=hB;clear hS;go_loopw [7] (fun i wr=>∃k:Nat,k≤n4∧i=.int .i64 k∧Hid ((qs.take k).all (tokB n2)=true)∧Below wu.heap.size wu wr) (fun i _=>n4-(intOf i).toNat)
          case atStart=>exact ⟨0,by omega,rfl,rfl,Below.refl _ _⟩
          case round =>
           obtain ⟨j,hj,rfl,HJ,hbs⟩:=hrel;obtain ⟨wv,hwv⟩:∃wv,wv=wr:=⟨_,rfl⟩;subst hwv;replace hP:=hP.after hbs;replace hB:=hB.after hbs;replace hTs:=TsAt.after hTs hbs;replace hBW:=bt hBW hbs;have hBl:=hB.lt;by_cases hltj:j<n4
           ·have hjl:j<qs.length:=by rw [←HN4.out];exact hltj
            have HSJ:=Lib.hid (HSZ.out.2.2 _ (List.getElem_mem hjl));have HTJ:=Lib.hid (all_take (tokB n2) qs j hjl);have HBJ:Hid (tokB n2 qs[j]=false→formB S=false):=fun h=>HBAD.out (by rw [HQ.out,all_bad (tokB n2) qs j hjl h];simp)
            obtain ⟨b4,o4,rfl,hbl4,y1,y2,y3,y4⟩:=TsAt.at_ hTs hjl;generalize qs[j]'hjl=t at y1 y2 y3 y4 HSJ HTJ HBJ;obtain ⟨tb,tv,tn,ta⟩:=t;simp only [] at y1 y2 y3 y4;have hB4:=Blk.new wv #[.string tb,.int .i64 tv,.bool tn,.string ta] 118;have h0j:(0:Int)≤(j:Int):=by omega
            have h1j:(j:Int)<(n4:Int):=by omega
            have hPl4:=hP.lt;have HTK:Hid (tokB n2 ⟨tb,tv,tn,ta⟩=(decide (0≤tv)&&decide (tv<(n2:Int))&&vldB tb&&ivB tn ta)):=rfl;generalize tokB n2 ⟨tb,tv,tn,ta⟩=tk at HTJ HBJ HTK;cases hv3:vldB tb
            ·have HF:Hid (formB S=false):=HBJ.out (by rw [HTK.out,hv3];simp);obtain ⟨hPc0,hPf0,hPc1,hPf1,hPc2,hPf2⟩:=hP.x3;obtain ⟨hBc0,hBf0,hBc1,hBf1,hBc2,hBf2⟩:=hB.x3;go_wp2_with fail
             refine (rvalB_c tb false _ HSJ.out.1 hv3).mono ?_;rintro e w' ⟨rfl,hw'⟩;subst w';go_wp2;go_ret
             exact ⟨by rw [HRES.out,HF.out];rfl,ba hBW _⟩
            ·cases hv4:ivB tn ta
             ·have HF:Hid (formB S=false):=HBJ.out (by rw [HTK.out,hv4];simp);obtain ⟨hPc0,hPf0,hPc1,hPf1,hPc2,hPf2⟩:=hP.x3;obtain ⟨hBc0,hBf0,hBc1,hBf1,hBc2,hBf2⟩:=hB.x3;go_wp2_with fail
              refine (rvalB_c tb true _ HSJ.out.1 hv3).mono ?_;rintro e w' ⟨rfl,hw'⟩;subst w';go_wp2_with fail
              refine (rivalB_c tn ta false _ HSJ.out.2 hv4).mono ?_;rintro e w7 ⟨rfl,hb7⟩;go_wp2;go_ret
              exact ⟨by rw [HRES.out,HF.out];rfl,bt (ba hBW _) hb7⟩
             ·have hPl5:=hP.lt;obtain ⟨hPc0,hPf0,hPc1,hPf1,hPc2,hPf2⟩:=hP.x3;obtain ⟨hBc0,hBf0,hBc1,hBf1,hBc2,hBf2⟩:=hB.x3;go_wp2_with fail
              refine (rvalB_c tb true _ HSJ.out.1 hv3).mono ?_;rintro e w' ⟨rfl,hw'⟩;subst w';go_wp2_with fail
              refine (rivalB_c tn ta true _ HSJ.out.2 hv4).mono ?_;rintro e w7 ⟨rfl,hb7⟩;clear hPc0 hPf0 hPc1 hPf1 hPc2 hPf2;clear hBc0 hBf0 hBc1 hBf1 hBc2 hBf2;have hP7:=(hP.alloc (.cells #[.string tb,.int .i64 tv,.bool tn,.string ta] 118)).after hb7;have hB7:=hB4.after hb7;have hP7l:=hP7.lt;have hB7l:=hB7.lt;obtain ⟨hP7c0,hP7f0,hP7c1,hP7f1,hP7c2,hP7f2⟩:=hP7.x3;obtain ⟨hB7c0,hB7f0,hB7c1,hB7f1,hB7c2,hB7f2,hB7c3,hB7f3⟩:=hB7.x4;cases hd3:decide (tv<0)
              ·cases hd4:decide ((n2:Int)≤tv)
               ·have hx3:decide (0≤tv)=true:=decide_eq_true (by have:=of_decide_eq_false hd3;omega);have hx4:decide (tv<(n2:Int))=true:=decide_eq_true (by have:=of_decide_eq_false hd4;omega);have HX:Hid ((qs.take (j+1)).all (tokB n2)=true):=by rw [Hid,HTJ.out,HJ.out,HTK.out,hv3,hx3,hx4,hv4];rfl
                go_wp2;go_roundw
                case rel=>exact ⟨j+1,by omega,by go_num,HX,bt (ba hbs _) hb7⟩
                case measure=>simp [intOf];omega
               ·have HF:Hid (formB S=false):=HBJ.out (by rw [HTK.out,decide_eq_false (show ¬ tv<(n2:Int) by have:=of_decide_eq_true hd4;omega)];simp);go_wp2;go_ret
                exact ⟨by rw [HRES.out,HF.out];rfl,bt (ba hBW _) hb7⟩
              ·have HF:Hid (formB S=false):=HBJ.out (by rw [HTK.out,decide_eq_false (show ¬ 0≤tv by have:=of_decide_eq_true hd3;omega)];simp);go_wp2;go_ret
               exact ⟨by rw [HRES.out,HF.out];rfl,bt (ba hBW _) hb7⟩
           ·have HE4:Hid (qs.all (tokB n2)=true):=all_end (tokB n2) qs j (by rw [←HN4.out];omega) HJ.out;have HX:Hid ((S.eqs.take (k+1)).all (eokB n1 n2)=true):=by rw [Hid,HT.out,HA.out,HQ.out,hv,hx1,hx2,HE4.out];rfl
            obtain ⟨hPc0,hPf0,hPc1,hPf1,hPc2,hPf2⟩:=hP.x3;obtain ⟨hBc0,hBf0,hBc1,hBf1,hBc2,hBf2⟩:=hB.x3;go_wp2;go_roundw
            case rel=>exact ⟨k+1,by omega,by go_num,HX,bt hbr hbs⟩
            case measure=>simp [intOf];omega
         ·have HF:Hid (formB S=false):=HBAD.out (by rw [HQ.out,decide_eq_false (show ¬ qg<(n1:Int) by have:=of_decide_eq_true hd2;omega)];simp);obtain ⟨hPc0,hPf0,hPc1,hPf1,hPc2,hPf2⟩:=hP.x3;go_wp2_with fail
          refine (rvalB_c qt true _ HSZ.out.1 hv).mono ?_;rintro e w' ⟨rfl,hw'⟩;subst w';go_wp2;go_ret
          exact ⟨by rw [HRES.out,HF.out];rfl,ba hBW _⟩
        ·have HF:Hid (formB S=false):=HBAD.out (by rw [HQ.out,decide_eq_false (show ¬ 0≤qg by have:=of_decide_eq_true hd1;omega)];simp);obtain ⟨hPc0,hPf0,hPc1,hPf1,hPc2,hPf2⟩:=hP.x3;go_wp2_with fail
         refine (rvalB_c qt true _ HSZ.out.1 hv).mono ?_;rintro e w' ⟨rfl,hw'⟩;subst w';go_wp2;go_ret
         exact ⟨by rw [HRES.out,HF.out];rfl,ba hBW _⟩
      ·have HE:Hid (S.eqs.all (eokB n1 n2)=true):=all_end (eokB n1 n2) S.eqs k (by rw [←HN3.out];omega) HA.out;have HF:Hid (formB S=true):=by unfold Hid formB;rw [HG.out,HV.out,←HN1.out,←HN2.out,HE.out];rfl
       obtain ⟨hPc0,hPf0,hPc1,hPf1,hPc2,hPf2⟩:=hP.x3;go_wp2;go_ret
       exact ⟨by rw [HRES.out,HF.out];rfl,hBW⟩
end
section
open Go.RowKit Go.Shelf
theorem dzT {n k:Nat} (h:¬ n≤k):decide ((k:Int)<(n:Int))=true:=decide_eq_true (by omega)
theorem dzF {n k:Nat} (h:n≤k):decide ((k:Int)<(n:Int))=false:=decide_eq_false (by omega)
theorem l27num_c (n:Nat) (w:World) (h:n<256^8) :
  Calls Tryz.prog 28 #[.int .u64 (n:Int)] w fun e w'=>e=.returned (.string (E n))∧Below w.heap.size w w':=by
 have HO:=Lib.hid (fun w=>rof_c n w h);go_enter Tryz.func28,Tryz.ntmps28
 go_wp2_with fail
 refine (HO.out _).mono ?_;rintro e w' ⟨rfl,hb⟩;go_wp2;go_ret
 exact ⟨rfl,hb⟩
theorem l27whole_c (z:Int) (w:World) (h1:-9223372036854775808≤z) (h2:z≤9223372036854775807) :
  Calls Tryz.prog 26 #[.int .i64 z] w fun e w'=>e=.returned (.agg #[.bool (sg (z)),.string (E (z).natAbs)])∧Below w.heap.size w w':=by
 have HO:Hid (∀w,Calls Tryz.prog 52 #[.int .i64 z] w fun e w'=>e=.returned (.agg #[.bool (sg (z)),.string (E (z).natAbs)])∧Below w.heap.size w w'):=fun w=>riof_c z w h1 h2
 have hB:=Blk.new w #[Value.bool false,.string ⟨#[]⟩] 28;have hBW:=b1 w (.cells #[Value.bool false,.string ⟨#[]⟩] 28);go_enter Tryz.func26,Tryz.ntmps26
 go_wp2_with fail
 refine (HO.out _).mono ?_;rintro e w1 ⟨rfl,hb⟩;have hB2:=hB.after hb;have hBW2:=bt hBW hb;have hl:=hB2.lt;clear hB hb hBW;obtain ⟨hB2c0,hB2f0,hB2c1,hB2f1⟩:=hB2.x2;go_wp2;refine bodyPost_ret (v:=.agg #[.bool (sg (z)),.string (E (z).natAbs)]) ?_ rfl ?_
 ·simp [results,Tryz.results26,go_sem,hB2c0,hB2c1,hB2f0,hB2f1,hl]
 ·exact ⟨rfl,(hBW2.setCell (Nat.le_refl _) _).setCell (Nat.le_refl _) _⟩
theorem l27opening_c (a b:Bool) (s t:ByteArray) (w:World) (hs:s.size≤9223372036854775807) (ht:t.size≤9223372036854775807) :
  Calls Tryz.prog 37 #[.agg #[.bool a,.string s,.bool b,.string t]] w fun e w'=>e=.returned (.bool (decide (s.size≤12)&&decide (t.size≤12)))∧Below w.heap.size w w':=by
 have hB:=Blk.new w #[Value.bool a,Value.string s,Value.bool b,Value.string t] 30;have hBW:=b1 w (.cells #[Value.bool a,Value.string s,Value.bool b,Value.string t] 30);by_cases h1:s.size≤12
 ·rw [decide_eq_true h1];have h1i:(s.size:Int)≤12:=by omega
  by_cases h2:t.size≤12
  ·rw [decide_eq_true h2];have h2i:(t.size:Int)≤12:=by omega
   obtain ⟨hBc0,hBf0,hBc1,hBf1,hBc2,hBf2,hBc3,hBf3⟩:=hB.x4;go_enter Tryz.func37,Tryz.ntmps37
   go_wp2;go_ret
   exact ⟨rfl,hBW⟩
  ·rw [decide_eq_false h2];have h2i:¬ (t.size:Int)≤12:=by omega
   obtain ⟨hBc0,hBf0,hBc1,hBf1,hBc2,hBf2,hBc3,hBf3⟩:=hB.x4;go_enter Tryz.func37,Tryz.ntmps37
   go_wp2;go_ret
   exact ⟨rfl,hBW⟩
 ·rw [decide_eq_false h1];have h1i:¬ (s.size:Int)≤12:=by omega
  obtain ⟨hBc0,hBf0,hBc1,hBf1,hBc2,hBf2,hBc3,hBf3⟩:=hB.x4;go_enter Tryz.func37,Tryz.ntmps37
  go_wp2;go_ret
  exact ⟨rfl,hBW⟩
def kfw (a b c d:ByteArray):Bool:=decide (a.size≤8)&&decide (b.size≤8)&&decide (c.size≤12)&&decide (d.size≤12)
theorem l27Few_c (a b c d:ByteArray) (w:World) :
  Calls Tryz.prog 36 #[.agg #[.string a,.string b,.string c,.string d]] w fun e w'=>e=.returned (.bool (kfw a b c d))∧Below w.heap.size w w':=by
 go_enter Tryz.func36,Tryz.ntmps36
 go_wp2;all_goals go_ret
 all_goals exact ⟨rb (by simp only [kfw];rw [Bool.eq_iff_iff];simp;omega),b1 _ _⟩
def szN (x:ByteArray):Bool:=decide (x.size≤16)
def tfw (L:List ByteArray) (sd:ByteArray):Bool:=L.all szN&&decide (L.length≤80)&&decide (sd.size≤60)
theorem l27few_c (L:List ByteArray) (sd:ByteArray) (ti:Int) (v:Value) (w:World) (hn:L.length≤9223372036854775807) (hs:∀x∈L,x.size≤9223372036854775807) (hR:SsAt w v L) :
  Calls Tryz.prog 14 #[.agg #[v,.string sd,.int .i64 ti]] w fun e w'=>e=.returned (.bool (tfw L sd))∧Below w.heap.size w w':=by
 obtain ⟨ao,c,rfl⟩:=RAt.form hR;obtain ⟨r,hr⟩:∃r,r=tfw L sd:=⟨_,rfl⟩;rw [←hr];have HR:=Lib.hid hr;obtain ⟨m,hm⟩:∃m,m=L.length:=⟨_,rfl⟩;have HM:=Lib.hid hm;rw [←hm] at hR hn ⊢;have HS:=Lib.hid hs;clear hr hm hs;have hB:=Blk.new w #[Value.slice ao m c,.string sd,.int .i64 ti] 47;have hBW:=b1 w (.cells #[Value.slice ao m c,.string sd,.int .i64 ti] 47);have hR1:=SsAt.after hR hBW;go_enter Tryz.func14,Tryz.ntmps14
 go_wp2;generalize w.alloc (.cells #[Value.slice ao m c,.string sd,.int .i64 ti] 47)=w1 at hB hBW hR1 ⊢;generalize w.heap.size=g at hB ⊢;replace hB:Blk w1 g 47 [Value.slice ao m c,.string sd,.int .i64 ti]:=hB;clear hR;obtain ⟨hBc0,hBf0,hBc1,hBf1,hBc2,hBf2⟩:=hB.x3;go_loop [3] (fun i=>∃k:Nat,k≤m∧k≤80∧i=.int .i64 k∧Hid ((L.take k).all szN=true)) (fun i=>m-(intOf i).toNat)
 case atStart=>exact ⟨0,by omega,by omega,rfl,rfl⟩
 case round =>
  obtain ⟨k,hk,hk20,rfl,HK⟩:=hrel;by_cases hlt:k<m
  ·by_cases h20:k<80
   ·have hkl:k<L.length:=by rw [←HM.out];exact hlt
    obtain ⟨b,o,rfl,hb,x1⟩:=SsAt.at_ hR1 hkl;have hsz:=HS.out _ (List.getElem_mem hkl);have h0k:(0:Int)≤(k:Int):=by omega
    have h1k:(k:Int)<(m:Int):=by omega
    have h2k:(k:Int)<80:=by omega
    have HT:=Lib.hid (all_take szN L k hkl);have HB:Hid (szN L[k]=false→tfw L sd=false):=fun h=>by unfold tfw;rw [all_bad szN L k hkl h];rfl
    have HQ:Hid (szN L[k]=decide (L[k].size≤16)):=rfl;generalize szN (L[k]'hkl)=q at HT HB HQ;generalize (L[k]'hkl)=s at x1 hsz HQ;by_cases h8:s.size≤16
    ·have hd:decide ((16:Int)<(s.size:Int))=false:=dzF h8;have HX:Hid ((L.take (k+1)).all szN=true):=by rw [Hid,HT.out,HK.out,HQ.out,decide_eq_true h8];rfl
     clear h8;go_wp2;go_round
     case rel=>exact ⟨k+1,by omega,by omega,by go_num,HX⟩
     case measure=>simp [intOf];omega
    ·have hd:decide ((16:Int)<(s.size:Int))=true:=dzT h8;have HF:Hid (r=false):=by rw [Hid,HR.out];exact HB.out (by rw [HQ.out];exact decide_eq_false h8)
     clear h8;go_wp2;go_ret
     exact ⟨by first | (rw [HF.out];done) | (rw [HF.out];rfl),hBW⟩
   ·have hk2:k=80:=by omega
    have HF:Hid (r=false):=by
     rw [Hid,HR.out,tfw,decide_eq_false (show ¬ L.length≤80 by have:=HM.out;omega),Bool.and_false,Bool.false_and]
    have h1k:(k:Int)<(m:Int):=by omega
    have hq:decide ((m:Int)≤80)=false:=decide_eq_false (by omega);subst hk2;clear h20 hk20;go_wp2;go_ret
    exact ⟨by first | (rw [HF.out];done) | (rw [HF.out];rfl),hBW⟩
  ·obtain rfl:k=m:=by omega
   by_cases h8:k≤80
   ·have hq:decide ((k:Int)≤80)=true:=decide_eq_true (by omega)
    have HF:Hid (r=decide (sd.size≤60)):=by
     rw [Hid,HR.out,tfw,all_end szN L k HM.out HK.out,decide_eq_true (show L.length≤80 by have:=HM.out;omega)] <;> rfl
    clear hk20;by_cases h6:sd.size≤60
    ·have h6i:decide ((sd.size:Int)≤60)=true:=decide_eq_true (by omega);replace HF:Hid (r=true):=HF.out.trans (decide_eq_true h6);clear h6;go_wp2;go_ret
     exact ⟨by first | (rw [HF.out];done) | (rw [HF.out];rfl),hBW⟩
    ·have h6i:decide ((sd.size:Int)≤60)=false:=decide_eq_false (by omega);replace HF:Hid (r=false):=HF.out.trans (decide_eq_false h6);clear h6;go_wp2;go_ret
     exact ⟨by first | (rw [HF.out];done) | (rw [HF.out];rfl),hBW⟩
   ·exact absurd hk20 h8
end
section
open Go.RowKit
theorem idx_cgd (l:List ByteArray) (p:ByteArray→Bool) (v:Value) (w:World) (hn:l.length≤1000) (hR:SsAt w v l)
  (hf:∀k (hk:k<l.length) (w':World),Below w.heap.size w w'→Calls Tryz.prog 166 #[.string (l[k]'hk)] w' fun e w''=>e=.returned (.bool (p (l[k]'hk)))∧Below w'.heap.size w' w'') :
  Calls Tryz.prog 188 #[v,.func (.func 166) #[] #[]] w (IPost (l.any p) w):=by
 obtain ⟨ao,c,rfl⟩:=RAt.form hR;obtain ⟨n,hn'⟩:∃n,n=l.length:=⟨_,rfl⟩;have HN:=Lib.hid hn';rw [←hn'] at hR hn ⊢;clear hn';have HF:=Lib.hid hf;clear hf;go_enter Tryz.func188,Tryz.ntmps188
 go_wp2;go_loopw [8] (fun i wr=>∃k:Nat,k≤n∧i=.int .i64 k∧Hid ((l.take k).any p=false)∧Below w.heap.size w wr) (fun i _=>n-(intOf i).toNat)
 case atStart=>exact ⟨0,by omega,rfl,rfl,Below.refl _ _⟩
 case round =>
  obtain ⟨k,hk,rfl,HA,hbr⟩:=hrel;obtain ⟨wp,hwp⟩:∃wp,wp=wr:=⟨_,rfl⟩;subst hwp;replace hR:=SsAt.after hR hbr;by_cases hlt:k<n
  ·have hkl:k<l.length:=by rw [←HN.out];exact hlt
   have HT:=Lib.hid (any_take p l k hkl);have HB:Hid (p (l[k]'hkl)=true→l.any p=true):=any_hit p l k hkl;obtain ⟨b,o,rfl,hbl,x1⟩:=SsAt.at_ hR hkl;have HC:=Lib.hid (HF.out k hkl _ hbr);generalize p (l[k]'hkl)=pk at HT HB HC;generalize (l[k]'hkl)=x at x1 HC;have h0k:(0:Int)≤(k:Int):=by omega
   have h1k:(k:Int)<(n:Int):=by omega
   clear hR;cases pk
   ·have HX:Hid ((l.take (k+1)).any p=false):=by rw [Hid,HT.out,HA.out];rfl
    clear HT HB;go_wp2_with fail
    refine (HC.out).mono ?_;rintro e w2 ⟨rfl,hb2⟩;go_wp2;go_roundw
    case rel=>exact ⟨k+1,by omega,by go_num,HX,bt hbr hb2⟩
    case measure=>simp [intOf];omega
   ·have HX:Hid (l.any p=true):=HB.out rfl;clear HT HB;go_wp2_with fail
    refine (HC.out).mono ?_;rintro e w2 ⟨rfl,hb2⟩;go_wp2;go_ret
    exact ⟨(k:Int),rfl,by rw [HX.out];exact decide_eq_true h0k,bt hbr hb2⟩
  ·have HX:Hid (l.any p=false):=any_end p l k (by rw [←HN.out];omega) HA.out;go_wp2;go_ret
   exact ⟨-1,rfl,by rw [HX.out];rfl,hbr⟩
theorem cont_cgd (l:List ByteArray) (p:ByteArray→Bool) (b:Bool) (v:Value) (w:World) (hn:l.length≤1000) (hR:SsAt w v l) (hb:l.any p=b)
  (hf:∀k (hk:k<l.length) (w':World),Below w.heap.size w w'→Calls Tryz.prog 166 #[.string (l[k]'hk)] w' fun e w''=>e=.returned (.bool (p (l[k]'hk)))∧Below w'.heap.size w' w'') :
  Calls Tryz.prog 165 #[v,.func (.func 166) #[] #[]] w fun e w'=>e=.returned (.bool b)∧Below w.heap.size w w':=by
 have HE:=Lib.hid (idx_cgd l p v w hn hR hf);rw [hb] at HE;obtain ⟨ao,c,rfl⟩:=RAt.form hR;generalize l.length=n at HE;clear hn hR hf hb;go_enter Tryz.func165,Tryz.ntmps165
 go_wp2_with fail
 refine HE.out.mono ?_;rintro e w1 ⟨i,rfl,hi,hb1⟩;have HI:=Lib.hid hi;clear hi;cases b
 ·have hi:decide (0≤i)=false:=HI.out;go_wp2;go_ret
  exact ⟨rfl,hb1⟩
 ·have hi:decide (0≤i)=true:=HI.out;go_wp2;go_ret
  exact ⟨rfl,hb1⟩
end
end Go.Proofs.YtfgandecbkbleaaGreatDoor
