import Derived.Test.YteahlbhjhjhljaaGreatDoorIdx
import Derived.Test.YteahlbhjhjhljaaGreatDoorRInt5
import Derived.Test.YteahlbhjhjhljaaGreatDoorNat2
import Derived.Test.YteahlbhjhjhljaaGreatDoorFs5
set_option linter.unusedVariables false
set_option linter.unusedSimpArgs false
set_option maxRecDepth 100000
set_option maxHeartbeats 16000000
namespace Go.Proofs.YteahlbhjhjhljaaGreatDoor
section
open Go.RowKit
theorem rvalB_c (s:ByteArray) (b:Bool) (w:World) (hs:s.size≤1000) (h:vldB s=b):Calls Tryz.prog 58 #[.string s] w fun e w'=>e=.returned (.bool b)∧w'=w:=by
 rw [←h];exact (rvalid_c s w (by omega)).mono fun _ _ h=>⟨h.1,h.2.symm⟩
theorem rivalB_c (n:Bool) (s:ByteArray) (b:Bool) (w:World) (hs:s.size≤1000) (h:ivB n s=b):Calls Tryz.prog 55 #[.agg #[.bool n,.string s]] w fun e w'=>e=.returned (.bool b)∧Below w.heap.size w w':=by
 rw [←h];exact rivalid_c n s w (by omega)
theorem rformed_c (S:Sta) (v1 v2 v3:Value) (w:World) (hm:SSm S) (hS:StAt w v1 v2 v3 S) :
  Calls Tryz.prog 119 #[.agg #[v1,v2,v3]] w fun e w'=>e=.returned (.bool (formB S))∧Below w.heap.size w w':=by
 obtain ⟨r,hr⟩:∃r:Bool,r=formB S:=⟨_,rfl⟩;have HRES:=Lib.hid hr;rw [←hr];clear hr;obtain ⟨a1,c1,rfl⟩:=hS.g.form;obtain ⟨a2,c2,rfl⟩:=hS.v.form;obtain ⟨a3,c3,rfl⟩:=hS.e.form;have HM:=Lib.hid hm;obtain ⟨n1,hn1⟩:∃n,n=S.grps.length:=⟨_,rfl⟩;obtain ⟨n2,hn2⟩:∃n,n=S.vars.length:=⟨_,rfl⟩;obtain ⟨n3,hn3⟩:∃n,n=S.eqs.length:=⟨_,rfl⟩;have HN1:=Lib.hid hn1;have HN2:=Lib.hid hn2;have HN3:=Lib.hid hn3;have l1:n1≤1000:=by rw [hn1];exact hm.ng
 have l2:n2≤1000:=by rw [hn2];exact hm.nv
 have l3:n3≤1000:=by rw [hn3];exact hm.ne
 rw [←hn1,←hn2,←hn3] at hS ⊢;clear hm hn1 hn2 hn3;have hP:=Blk.new w #[.slice a1 n1 c1,.slice a2 n2 c2,.slice a3 n3 c3] 43;have hBW:=b1 w (.cells #[.slice a1 n1 c1,.slice a2 n2 c2,.slice a3 n3 c3] 43);replace hS:=hS.after hBW;go_enter Tryz.func119,Tryz.ntmps119
 go_wp2;generalize w.alloc (.cells #[.slice a1 n1 c1,.slice a2 n2 c2,.slice a3 n3 c3] 43)=w1 at hP hBW hS;replace hP:Blk w1 w.heap.size 43 [.slice a1 n1 c1,.slice a2 n2 c2,.slice a3 n3 c3]:=hP;go_loopw [3] (fun i wr=>∃k:Nat,k≤n1∧i=.int .i64 k∧Hid ((S.grps.take k).all gokB=true)∧Below w1.heap.size w1 wr) (fun i _=>n1-(intOf i).toNat)
 case atStart=>exact ⟨0,by omega,rfl,rfl,Below.refl _ _⟩
 case round =>
  obtain ⟨k,hk,rfl,HA,hbr⟩:=hrel;obtain ⟨wp,hwp⟩:∃wp,wp=wr:=⟨_,rfl⟩;subst hwp;replace hS:=hS.after hbr;replace hP:=hP.after hbr;replace hBW:=bt hBW hbr;by_cases hlt:k<n1
  ·have hkl:k<S.grps.length:=by rw [←HN1.out];exact hlt
   have HSZ:=Lib.hid (HM.out.g _ (List.getElem_mem hkl));have HT:=Lib.hid (all_take gokB S.grps k hkl);have HBAD:Hid (gokB S.grps[k]=false→formB S=false):=fun h=>by unfold formB;rw [all_bad gokB S.grps k hkl h];rfl
   obtain ⟨b,o,rfl,hbl,x1,x2⟩:=hS.g.at_ hkl;have HG:Hid (gokB S.grps[k]=(vldB S.grps[k].1&&vldB S.grps[k].2)):=rfl;generalize gokB (S.grps[k]'hkl)=gk at HT HBAD HG;generalize (S.grps[k]'hkl).1=s1 at x1 HSZ HG;generalize (S.grps[k]'hkl).2=s2 at x2 HSZ HG;have h0k:(0:Int)≤(k:Int):=by omega
   have h1k:(k:Int)<(n1:Int):=by omega
   cases hv1:vldB s1
   ·have HF:Hid (formB S=false):=HBAD.out (by rw [HG.out,hv1];rfl);obtain ⟨hPc0,hPf0,hPc1,hPf1,hPc2,hPf2⟩:=hP.x3;go_wp2_with fail
    refine (rvalB_c s1 false _ HSZ.out.1 hv1).mono ?_;rintro e w' ⟨rfl,hw'⟩;subst w';go_wp2;go_ret
    exact ⟨by rw [HRES.out,HF.out];rfl,hBW⟩
   ·cases hv2:vldB s2
    ·have HF:Hid (formB S=false):=HBAD.out (by rw [HG.out,hv1,hv2];rfl);obtain ⟨hPc0,hPf0,hPc1,hPf1,hPc2,hPf2⟩:=hP.x3;go_wp2_with fail
     refine (rvalB_c s1 true _ HSZ.out.1 hv1).mono ?_;rintro e w' ⟨rfl,hw'⟩;subst w';go_wp2_with fail
     refine (rvalB_c s2 false _ HSZ.out.2 hv2).mono ?_;rintro e w' ⟨rfl,hw'⟩;subst w';go_wp2;go_ret
     exact ⟨by rw [HRES.out,HF.out];rfl,hBW⟩
    ·have HX:Hid ((S.grps.take (k+1)).all gokB=true):=by rw [Hid,HT.out,HA.out,HG.out,hv1,hv2];rfl
     obtain ⟨hPc0,hPf0,hPc1,hPf1,hPc2,hPf2⟩:=hP.x3;go_wp2_with fail
     refine (rvalB_c s1 true _ HSZ.out.1 hv1).mono ?_;rintro e w' ⟨rfl,hw'⟩;subst w';go_wp2_with fail
     refine (rvalB_c s2 true _ HSZ.out.2 hv2).mono ?_;rintro e w' ⟨rfl,hw'⟩;subst w';go_wp2;go_roundw
     case rel=>exact ⟨k+1,by omega,by go_num,HX,hbr⟩
     case measure=>simp [intOf];omega
  ·have HG:Hid (S.grps.all gokB=true):=all_end gokB S.grps k (by rw [←HN1.out];omega) HA.out;clear hbr;obtain ⟨hPc0,hPf0,hPc1,hPf1,hPc2,hPf2⟩:=hP.x3;go_wp2;clear hPc0 hPf0 hPc1 hPf1 hPc2 hPf2;go_loopw [4] (fun i wr=>∃k:Nat,k≤n2∧i=.int .i64 k∧Hid ((S.vars.take k).all vldB=true)∧Below wp.heap.size wp wr) (fun i _=>n2-(intOf i).toNat)
   case atStart=>exact ⟨0,by omega,rfl,rfl,Below.refl _ _⟩
   case round =>
    clear HA hlt hk;obtain ⟨k,hk,rfl,HA,hbr⟩:=hrel;obtain ⟨wq,hwq⟩:∃wq,wq=wr:=⟨_,rfl⟩;subst hwq;replace hS:=hS.after hbr;replace hP:=hP.after hbr;replace hBW:=bt hBW hbr;by_cases hlt:k<n2
    ·have hkl:k<S.vars.length:=by rw [←HN2.out];exact hlt
     have HSZ:=Lib.hid (HM.out.v _ (List.getElem_mem hkl));have HT:=Lib.hid (all_take vldB S.vars k hkl);have HBAD:Hid (vldB S.vars[k]=false→formB S=false):=fun h=>by unfold formB;rw [all_bad vldB S.vars k hkl h];simp
     obtain ⟨b,o,rfl,hbl,x1⟩:=hS.v.at_ hkl;generalize S.vars[k]'hkl=s1 at x1 HSZ HT HBAD;have h0k:(0:Int)≤(k:Int):=by omega
     have h1k:(k:Int)<(n2:Int):=by omega
     cases hv1:vldB s1
     ·have HF:Hid (formB S=false):=HBAD.out hv1;obtain ⟨hPc0,hPf0,hPc1,hPf1,hPc2,hPf2⟩:=hP.x3;go_wp2_with fail
      refine (rvalB_c s1 false _ HSZ.out hv1).mono ?_;rintro e w' ⟨rfl,hw'⟩;subst w';go_wp2;go_ret
      exact ⟨by rw [HRES.out,HF.out];rfl,hBW⟩
     ·have HX:Hid ((S.vars.take (k+1)).all vldB=true):=by rw [Hid,HT.out,HA.out,hv1];rfl
      obtain ⟨hPc0,hPf0,hPc1,hPf1,hPc2,hPf2⟩:=hP.x3;go_wp2_with fail
      refine (rvalB_c s1 true _ HSZ.out hv1).mono ?_;rintro e w' ⟨rfl,hw'⟩;subst w';go_wp2;go_roundw
      case rel=>exact ⟨k+1,by omega,by go_num,HX,hbr⟩
      case measure=>simp [intOf];omega
    ·have HV:Hid (S.vars.all vldB=true):=all_end vldB S.vars k (by rw [←HN2.out];omega) HA.out;clear hbr;obtain ⟨hPc0,hPf0,hPc1,hPf1,hPc2,hPf2⟩:=hP.x3;go_wp2;clear hPc0 hPf0 hPc1 hPf1 hPc2 hPf2;clear HA hlt hk;go_loopw [5] (fun i wr=>∃k:Nat,k≤n3∧i=.int .i64 k∧Hid ((S.eqs.take k).all (eokB n1 n2)=true)∧Below wq.heap.size wq wr) (fun i _=>n3-(intOf i).toNat)
     case atStart=>exact ⟨0,by omega,rfl,rfl,Below.refl _ _⟩
     case round =>
      obtain ⟨k,hk,rfl,HA,hbr⟩:=hrel;obtain ⟨wt,hwt⟩:∃wt,wt=wr:=⟨_,rfl⟩;subst hwt;replace hS:=hS.after hbr;replace hP:=hP.after hbr;replace hBW:=bt hBW hbr;by_cases hlt:k<n3
      ·have hkl:k<S.eqs.length:=by rw [←HN3.out];exact hlt
       have HSZ:=Lib.hid (HM.out.e _ (List.getElem_mem hkl));have HT:=Lib.hid (all_take (eokB n1 n2) S.eqs k hkl);have HBAD:Hid (eokB n1 n2 S.eqs[k]=false→formB S=false):=fun h=>by unfold formB;rw [←HN1.out,←HN2.out,all_bad (eokB n1 n2) S.eqs k hkl h];simp
       obtain ⟨b,o,tv,rfl,hbl,x1,x2,x3,hTs⟩:=hS.e.at_ hkl;generalize S.eqs[k]'hkl=q at x1 x2 x3 hTs HSZ HT HBAD;obtain ⟨qg,qt,qs⟩:=q;simp only [] at x1 x2 x3 hTs;obtain ⟨to_,tc,rfl⟩:=RAt.form hTs;obtain ⟨n4,hn4⟩:∃n,n=qs.length:=⟨_,rfl⟩;have HN4:=Lib.hid hn4;rw [←hn4] at x3 hTs;clear hn4;have hB:=Blk.new wt #[.int .i64 qg,.string qt,.slice to_ n4 tc] 120;have h0k:(0:Int)≤(k:Int):=by omega
       have h1k:(k:Int)<(n3:Int):=by omega
       have hPl:=hP.lt;have HQ:Hid (eokB n1 n2 ⟨qg,qt,qs⟩=(decide (0≤qg)&&decide (qg<(n1:Int))&&vldB qt&&qs.all (tokB n2))):=rfl;generalize eokB n1 n2 ⟨qg,qt,qs⟩=ek at HT HBAD HQ;cases hv:vldB qt
       ·have HF:Hid (formB S=false):=HBAD.out (by rw [HQ.out,hv];simp);obtain ⟨hPc0,hPf0,hPc1,hPf1,hPc2,hPf2⟩:=hP.x3;go_wp2_with fail
        refine (rvalB_c qt false _ HSZ.out.1 hv).mono ?_;rintro e w' ⟨rfl,hw'⟩;subst w';go_wp2;go_ret
        exact ⟨by rw [HRES.out,HF.out];rfl,ba hBW _⟩
       ·cases hd1:decide (qg<0)
        ·cases hd2:decide ((n1:Int)≤qg)
         ·have hx1:decide (0≤qg)=true:=decide_eq_true (by have:=of_decide_eq_false hd1;omega);have hx2:decide (qg<(n1:Int))=true:=decide_eq_true (by have:=of_decide_eq_false hd2;omega);obtain ⟨hPc0,hPf0,hPc1,hPf1,hPc2,hPf2⟩:=hP.x3;go_wp2_with fail
          refine (rvalB_c qt true _ HSZ.out.1 hv).mono ?_;rintro e w' ⟨rfl,hw'⟩;subst w';go_wp2;clear hPc0 hPf0 hPc1 hPf1 hPc2 hPf2;replace hP:=hP.alloc (.cells #[.int .i64 qg,.string qt,.slice to_ n4 tc] 120);replace hTs:=TsAt.after hTs (b1 _ (.cells #[.int .i64 qg,.string qt,.slice to_ n4 tc] 120));replace hBW:=ba hBW (.cells #[.int .i64 qg,.string qt,.slice to_ n4 tc] 120);replace hbr:=ba hbr (.cells #[.int .i64 qg,.string qt,.slice to_ n4 tc] 120);have l4:n4≤1000:=by rw [HN4.out];exact HSZ.out.2.1
          generalize wt.alloc (.cells #[.int .i64 qg,.string qt,.slice to_ n4 tc] 120)=wu at hP hTs hBW hbr hB;replace hB:Blk wu wt.heap.size 120 [.int .i64 qg,.string qt,.slice to_ n4 tc]:=hB;clear hS;go_loopw [7] (fun i wr=>∃k:Nat,k≤n4∧i=.int .i64 k∧Hid ((qs.take k).all (tokB n2)=true)∧Below wu.heap.size wu wr) (fun i _=>n4-(intOf i).toNat)
          case atStart=>exact ⟨0,by omega,rfl,rfl,Below.refl _ _⟩
          case round =>
           obtain ⟨j,hj,rfl,HJ,hbs⟩:=hrel;obtain ⟨wv,hwv⟩:∃wv,wv=wr:=⟨_,rfl⟩;subst hwv;replace hP:=hP.after hbs;replace hB:=hB.after hbs;replace hTs:=TsAt.after hTs hbs;replace hBW:=bt hBW hbs;have hBl:=hB.lt;by_cases hltj:j<n4
           ·have hjl:j<qs.length:=by rw [←HN4.out];exact hltj
            have HSJ:=Lib.hid (HSZ.out.2.2 _ (List.getElem_mem hjl));have HTJ:=Lib.hid (all_take (tokB n2) qs j hjl);have HBJ:Hid (tokB n2 qs[j]=false→formB S=false):=fun h=>HBAD.out (by rw [HQ.out,all_bad (tokB n2) qs j hjl h];simp)
            obtain ⟨b4,o4,rfl,hbl4,y1,y2,y3,y4⟩:=TsAt.at_ hTs hjl;generalize qs[j]'hjl=t at y1 y2 y3 y4 HSJ HTJ HBJ;obtain ⟨tb,tv,tn,ta⟩:=t;simp only [] at y1 y2 y3 y4;have hB4:=Blk.new wv #[.string tb,.int .i64 tv,.bool tn,.string ta] 181;have h0j:(0:Int)≤(j:Int):=by omega
            have h1j:(j:Int)<(n4:Int):=by omega
            have hPl4:=hP.lt;have HTK:Hid (tokB n2 ⟨tb,tv,tn,ta⟩=(decide (0≤tv)&&decide (tv<(n2:Int))&&vldB tb&&ivB tn ta)):=rfl;generalize tokB n2 ⟨tb,tv,tn,ta⟩=tk at HTJ HBJ HTK;cases hv3:vldB tb
            ·have HF:Hid (formB S=false):=HBJ.out (by rw [HTK.out,hv3];simp);obtain ⟨hPc0,hPf0,hPc1,hPf1,hPc2,hPf2⟩:=hP.x3;obtain ⟨hBc0,hBf0,hBc1,hBf1,hBc2,hBf2⟩:=hB.x3;go_wp2_with fail
             refine (rvalB_c tb false _ HSJ.out.1 hv3).mono ?_;rintro e w' ⟨rfl,hw'⟩;subst w';go_wp2;go_ret
             exact ⟨by rw [HRES.out,HF.out];rfl,ba hBW _⟩
            ·cases hv4:ivB tn ta
             ·have HF:Hid (formB S=false):=HBJ.out (by rw [HTK.out,hv4];simp);obtain ⟨hPc0,hPf0,hPc1,hPf1,hPc2,hPf2⟩:=hP.x3;obtain ⟨hBc0,hBf0,hBc1,hBf1,hBc2,hBf2⟩:=hB.x3;go_wp2_with fail
              refine (rvalB_c tb true _ HSJ.out.1 hv3).mono ?_;rintro e w' ⟨rfl,hw'⟩;subst w';go_wp2_with fail
              refine (rivalB_c tn ta false _ HSJ.out.2 hv4).mono ?_;rintro e w7 ⟨rfl,hb7⟩;go_wp2;go_ret
              exact ⟨by rw [HRES.out,HF.out];rfl,bt (ba hBW _) hb7⟩
             ·have hPl5:=hP.lt;obtain ⟨hPc0,hPf0,hPc1,hPf1,hPc2,hPf2⟩:=hP.x3;obtain ⟨hBc0,hBf0,hBc1,hBf1,hBc2,hBf2⟩:=hB.x3;go_wp2_with fail
              refine (rvalB_c tb true _ HSJ.out.1 hv3).mono ?_;rintro e w' ⟨rfl,hw'⟩;subst w';go_wp2_with fail
              refine (rivalB_c tn ta true _ HSJ.out.2 hv4).mono ?_;rintro e w7 ⟨rfl,hb7⟩;clear hPc0 hPf0 hPc1 hPf1 hPc2 hPf2;clear hBc0 hBf0 hBc1 hBf1 hBc2 hBf2;have hP7:=(hP.alloc (.cells #[.string tb,.int .i64 tv,.bool tn,.string ta] 181)).after hb7;have hB7:=hB4.after hb7;have hP7l:=hP7.lt;have hB7l:=hB7.lt;obtain ⟨hP7c0,hP7f0,hP7c1,hP7f1,hP7c2,hP7f2⟩:=hP7.x3;obtain ⟨hB7c0,hB7f0,hB7c1,hB7f1,hB7c2,hB7f2,hB7c3,hB7f3⟩:=hB7.x4;cases hd3:decide (tv<0)
              ·cases hd4:decide ((n2:Int)≤tv)
               ·have hx3:decide (0≤tv)=true:=decide_eq_true (by have:=of_decide_eq_false hd3;omega);have hx4:decide (tv<(n2:Int))=true:=decide_eq_true (by have:=of_decide_eq_false hd4;omega);have HX:Hid ((qs.take (j+1)).all (tokB n2)=true):=by rw [Hid,HTJ.out,HJ.out,HTK.out,hv3,hx3,hx4,hv4];rfl
                go_wp2;go_roundw
                case rel=>exact ⟨j+1,by omega,by go_num,HX,bt (ba hbs _) hb7⟩
                case measure=>simp [intOf];omega
               ·have HF:Hid (formB S=false):=HBJ.out (by rw [HTK.out,decide_eq_false (show ¬ tv<(n2:Int) by have:=of_decide_eq_true hd4;omega)];simp);go_wp2;go_ret
                exact ⟨by rw [HRES.out,HF.out];rfl,bt (ba hBW _) hb7⟩
              ·have HF:Hid (formB S=false):=HBJ.out (by rw [HTK.out,decide_eq_false (show ¬ 0≤tv by have:=of_decide_eq_true hd3;omega)];simp);go_wp2;go_ret
               exact ⟨by rw [HRES.out,HF.out];rfl,bt (ba hBW _) hb7⟩
           ·have HE4:Hid (qs.all (tokB n2)=true):=all_end (tokB n2) qs j (by rw [←HN4.out];omega) HJ.out;have HX:Hid ((S.eqs.take (k+1)).all (eokB n1 n2)=true):=by rw [Hid,HT.out,HA.out,HQ.out,hv,hx1,hx2,HE4.out];rfl
            obtain ⟨hPc0,hPf0,hPc1,hPf1,hPc2,hPf2⟩:=hP.x3;obtain ⟨hBc0,hBf0,hBc1,hBf1,hBc2,hBf2⟩:=hB.x3;go_wp2;go_roundw
            case rel=>exact ⟨k+1,by omega,by go_num,HX,bt hbr hbs⟩
            case measure=>simp [intOf];omega
         ·have HF:Hid (formB S=false):=HBAD.out (by rw [HQ.out,decide_eq_false (show ¬ qg<(n1:Int) by have:=of_decide_eq_true hd2;omega)];simp);obtain ⟨hPc0,hPf0,hPc1,hPf1,hPc2,hPf2⟩:=hP.x3;go_wp2_with fail
          refine (rvalB_c qt true _ HSZ.out.1 hv).mono ?_;rintro e w' ⟨rfl,hw'⟩;subst w';go_wp2;go_ret
          exact ⟨by rw [HRES.out,HF.out];rfl,ba hBW _⟩
        ·have HF:Hid (formB S=false):=HBAD.out (by rw [HQ.out,decide_eq_false (show ¬ 0≤qg by have:=of_decide_eq_true hd1;omega)];simp);obtain ⟨hPc0,hPf0,hPc1,hPf1,hPc2,hPf2⟩:=hP.x3;go_wp2_with fail
         refine (rvalB_c qt true _ HSZ.out.1 hv).mono ?_;rintro e w' ⟨rfl,hw'⟩;subst w';go_wp2;go_ret
         exact ⟨by rw [HRES.out,HF.out];rfl,ba hBW _⟩
      ·have HE:Hid (S.eqs.all (eokB n1 n2)=true):=all_end (eokB n1 n2) S.eqs k (by rw [←HN3.out];omega) HA.out;have HF:Hid (formB S=true):=by unfold Hid formB;rw [HG.out,HV.out,←HN1.out,←HN2.out,HE.out];rfl
       obtain ⟨hPc0,hPf0,hPc1,hPf1,hPc2,hPf2⟩:=hP.x3;go_wp2;go_ret
       exact ⟨by rw [HRES.out,HF.out];rfl,hBW⟩
end
section
/- Long division in base 256: the digits of a number as a list,one digit set,the steps of the loops. Plain Lean. -/
end
end Go.Proofs.YteahlbhjhjhljaaGreatDoor
