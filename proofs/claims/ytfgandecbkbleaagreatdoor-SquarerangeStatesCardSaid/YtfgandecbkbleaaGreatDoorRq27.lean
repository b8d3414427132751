/- ref27.Statement. -/
import Derived.Test.YtfgandecbkbleaaGreatDoorRq0
set_option linter.unusedVariables false
set_option linter.unusedSimpArgs false
set_option maxRecDepth 100000
set_option maxHeartbeats 16000000
namespace Go.Proofs.YtfgandecbkbleaaGreatDoor
open Go.RowKit Go.Shelf
theorem rstat_c (a b c d:ByteArray) (lo:Int) (cc:ByteArray) (P:List ByteArray) (vl rd:ByteArray) (v:Value) (w:World)
  (ha:a.size≤8) (hb:b.size≤100) (hc:c.size≤100) (hd:d.size≤100) (hcc:cc.size≤12) (hP:P.length≤8) (hPs:∀x∈P,x.size≤12) (hvl:vl.size≤12) (hrd:rd.size≤12) (hlo:-1099511627776<lo) (hlo2:lo<1099511627776) (hV:SsAt w v P) :
  Calls Tryz.prog 21 #[.agg #[.string a,.string b,.string c,.string d],.int .i64 lo,.string cc,v,.string vl,.string rd] w (StPost w (stR a b c d lo cc P vl rd)):=by
 obtain ⟨i2,hi2,hz20,hz21,hz22⟩:=info_parts infoV27;obtain ⟨i3,hi3,hz30,hz31,hz32⟩:=info_parts infoT27;obtain ⟨i4,hi4,hz40,hz41,hz42⟩:=info_parts infoE27;have HI2:=Lib.hid hi2;have HA2:=Lib.hid hz20;have HB2:=Lib.hid hz21;have HC2:=Lib.hid hz22;have HI3:=Lib.hid hi3;have HA3:=Lib.hid hz30;have HB3:=Lib.hid hz31;have HC3:=Lib.hid hz32;have HI4:=Lib.hid hi4;have HA4:=Lib.hid hz40;have HB4:=Lib.hid hz41;have HC4:=Lib.hid hz42;clear hi2 hz20 hz21 hz22 hi3 hz30 hz31 hz32 hi4 hz40 hz41 hz42;obtain ⟨m,hm⟩:∃m,kyV a b c d=m:=⟨_,rfl⟩;obtain ⟨f1,hf1⟩:∃f,vl4 a b c d=f:=⟨_,rfl⟩;obtain ⟨f2,hf2⟩:∃f,vldB cc=f:=⟨_,rfl⟩;obtain ⟨f3,hf3⟩:∃f,vldB vl=f:=⟨_,rfl⟩;obtain ⟨f4,hf4⟩:∃f,vldB rd=f:=⟨_,rfl⟩;obtain ⟨f5,hf5⟩:∃f,P.all vldB=f:=⟨_,rfl⟩;obtain ⟨R,hR⟩:∃R,R=stR a b c d lo cc P vl rd:=⟨_,rfl⟩;have HRR:=Lib.hid hR;rw [←hR]
 have HF0:Hid ((f1&&f2&&f3&&f4&&f5)=false→R=(3,nilN)):=fun h=>by
  rw [hR];refine stR_chk ?_ (by decide);unfold chkV;split
  ·rename_i h1;have h2:=h1.2;simp only [List.all_cons,Bool.and_eq_true,hf2,hf3,hf4,hf5] at h2;obtain ⟨rfl,rfl,rfl,rfl⟩:=h2;have e1:f1=false:=by cases f1 <;> simp_all
   have e:pedV a b c d=3:=by unfold pedV;rw [hf1,e1];rfl
   unfold kyV;rw [e];rfl
  ·rfl
 have HCV:Hid (f1=true∧f2=true∧f3=true∧f4=true∧f5=true→chkV [] (cc :: vl :: rd :: P) a b c d=m):=fun h=>by
  obtain ⟨rfl,rfl,rfl,rfl,rfl⟩:=h;unfold chkV;rw [if_pos ⟨rfl,by simp only [List.all_cons,hf2,hf3,hf4,hf5];rfl⟩,hm]
 have HBM:Hid (f1=true∧f2=true∧f3=true∧f4=true∧f5=true→m≠0→R=(m,nilN)):=fun h h2=>by
  rw [hR];exact stR_chk (HCV.out h) h2
 have HFM:Hid (∀w:World,Calls Tryz.prog 43 #[.agg #[.string a,.string b,.string c,.string d]] w fun e w'=>e=.returned (.bool f1)∧Below w.heap.size w w'):=fun w=>by rw [←hf1];exact r27form_c a b c d w (by omega) (by omega) (by omega) (by omega)
 have HVC:Hid (∀w:World,Calls Tryz.prog 50 #[.string cc] w fun e w'=>e=.returned (.bool f2)∧w=w'):=fun w=>by rw [←hf2];exact rvalid_c cc w (by omega)
 have HVV:Hid (∀w:World,Calls Tryz.prog 50 #[.string vl] w fun e w'=>e=.returned (.bool f3)∧w=w'):=fun w=>by rw [←hf3];exact rvalid_c vl w (by omega)
 have HVR:Hid (∀w:World,Calls Tryz.prog 50 #[.string rd] w fun e w'=>e=.returned (.bool f4)∧w=w'):=fun w=>by rw [←hf4];exact rvalid_c rd w (by omega)
 have HKY:Hid (∀w:World,Calls Tryz.prog 45 #[.agg #[.string a,.string b,.string c,.string d]] w fun e w'=>e=.returned (.int .i64 m)∧Below w.heap.size w w'):=fun w=>r27key_c a b c d m w ha hb hc hd hm
 have HCC:Hid (cc.size≤12):=hcc;have HVL:Hid (vl.size≤12):=hvl;have HRD:Hid (rd.size≤12):=hrd;have HAS:Hid (a.size≤8):=ha;have HPS:=Lib.hid hPs;have HPL:=Lib.hid hP;have HLO:Hid (lo.natAbs<1099511627776):=by rw [Hid];omega
 have HF5:=Lib.hid hf5;have HPV:Hid (∀(k:Nat) (h:k<P.length) (w:World),Calls Tryz.prog 50 #[.string (P[k]'h)] w fun e w'=>e=.returned (.bool (vldB (P[k]'h)))∧w=w'):=fun k h w=>rvalid_c _ w (by have:=hPs _ (List.getElem_mem h);omega)
 clear ha hb hc hd hcc hP hPs hvl hrd hlo hlo2 hm hR hf1 hf2 hf3 hf4 hf5;obtain ⟨ao,pc,rfl⟩:=RAt.form hV;obtain ⟨n,hn⟩:∃n,n=P.length:=⟨_,rfl⟩;have HN:=Lib.hid hn;have hn8:n≤8:=by rw [hn];exact HPL.out
 rw [←hn] at hV ⊢;clear hn;have hB:=blk2a w #[.string a,.string b,.string c,.string d] #[.slice none 0 0,.slice none 0 0,.slice none 0 0] 26 61;have hR:=blk2b w #[.string a,.string b,.string c,.string d] #[.slice none 0 0,.slice none 0 0,.slice none 0 0] 26 61;have hBW:=b2 w (.cells #[.string a,.string b,.string c,.string d] 26) (.cells #[.slice none 0 0,.slice none 0 0,.slice none 0 0] 61);go_enter Tryz.func21,Tryz.ntmps21
 go_upto_region 1 with fail
 have hV1:=SsAt.after hV hBW;generalize (w.alloc (.cells #[.string a,.string b,.string c,.string d] 26)).alloc (.cells #[.slice none 0 0,.slice none 0 0,.slice none 0 0] 61)=w1 at hB hR hBW hV1 ⊢;obtain ⟨gR,hgR⟩:∃g,w.heap.size+1=g:=⟨_,rfl⟩;rw [hgR] at hR ⊢;have HGR:Hid (w.heap.size<gR):=by rw [Hid];omega
 replace hR:Blk w1 gR 61 [.slice none 0 0,.slice none 0 0,.slice none 0 0]:=hR;replace hB:Blk w1 w.heap.size 26 [.string a,.string b,.string c,.string d]:=hB;have HWR:Hid (w.heap.size≤gR):=by have:=HGR.out;rw [Hid];omega
 clear hgR;obtain ⟨hBc0,hBf0,hBc1,hBf1,hBc2,hBf2,hBc3,hBf3⟩:=hB.x4;go_wp2_with fail
 refine (HFM.out _).mono ?_;rintro e wa ⟨rfl,hba⟩;clear hBc0 hBf0 hBc1 hBf1 hBc2 hBf2 hBc3 hBf3;replace hB:=hB.after hba;replace hR:=hR.after hba;replace hV1:=SsAt.after hV1 hba;replace hBW:=bt hBW hba;clear hba hV;cases f1
 case false =>
  have HX:=Lib.hid (HF0.out (by simp));clear HF0 HBM HCV hB;have hRl:=hR.lt;obtain ⟨hRc0,hRf0,hRc1,hRf1,hRc2,hRf2⟩:=hR.x3;go_wp2;refine bodyPost_ret (v:=.tuple #[.agg #[.slice none 0 0,.slice none 0 0,.slice none 0 0],.int .i64 3]) ?_ rfl ?_
  ·simp [results,Tryz.results21,go_sem,hRc0,hRc1,hRc2,hRl]
  ·rw [HX.out];exact StPost.err (((hBW.setCell HWR.out _).setCell HWR.out _).setCell HWR.out _)
 case true =>
  go_wp2_with fail
  refine (HVC.out _).mono ?_;rintro e wz' ⟨rfl,rfl⟩;cases f2
  case false =>
   have HX:=Lib.hid (HF0.out (by simp));clear HF0 HBM HCV hB;have hRl:=hR.lt;obtain ⟨hRc0,hRf0,hRc1,hRf1,hRc2,hRf2⟩:=hR.x3;go_wp2;refine bodyPost_ret (v:=.tuple #[.agg #[.slice none 0 0,.slice none 0 0,.slice none 0 0],.int .i64 3]) ?_ rfl ?_
   ·simp [results,Tryz.results21,go_sem,hRc0,hRc1,hRc2,hRl]
   ·rw [HX.out];exact StPost.err (((hBW.setCell HWR.out _).setCell HWR.out _).setCell HWR.out _)
  case true =>
   go_wp2_with fail
   refine (HVV.out _).mono ?_;rintro e wz' ⟨rfl,rfl⟩;cases f3
   case false =>
    have HX:=Lib.hid (HF0.out (by simp));clear HF0 HBM HCV hB;have hRl:=hR.lt;obtain ⟨hRc0,hRf0,hRc1,hRf1,hRc2,hRf2⟩:=hR.x3;go_wp2;refine bodyPost_ret (v:=.tuple #[.agg #[.slice none 0 0,.slice none 0 0,.slice none 0 0],.int .i64 3]) ?_ rfl ?_
    ·simp [results,Tryz.results21,go_sem,hRc0,hRc1,hRc2,hRl]
    ·rw [HX.out];exact StPost.err (((hBW.setCell HWR.out _).setCell HWR.out _).setCell HWR.out _)
   case true =>
    go_wp2_with fail
    refine (HVR.out _).mono ?_;rintro e wz' ⟨rfl,rfl⟩;cases f4
    case false =>
     have HX:=Lib.hid (HF0.out (by simp));clear HF0 HBM HCV hB;have hRl:=hR.lt;obtain ⟨hRc0,hRf0,hRc1,hRf1,hRc2,hRf2⟩:=hR.x3;go_wp2;refine bodyPost_ret (v:=.tuple #[.agg #[.slice none 0 0,.slice none 0 0,.slice none 0 0],.int .i64 3]) ?_ rfl ?_
     ·simp [results,Tryz.results21,go_sem,hRc0,hRc1,hRc2,hRl]
     ·rw [HX.out];exact StPost.err (((hBW.setCell HWR.out _).setCell HWR.out _).setCell HWR.out _)
    case true =>
     go_upto_region 3 with fail
     obtain ⟨wx,hwx⟩:∃wx,wx=wa:=⟨_,rfl⟩;subst hwx;go_wp2;go_loopw [14] (fun i wr=>∃k:Nat,k≤n∧i=.int .i64 k∧Hid ((P.take k).all vldB=true)∧wr=wx) (fun i _=>n-(intOf i).toNat)
     case atStart=>exact ⟨0,by omega,rfl,rfl,rfl⟩
     case round =>
      obtain ⟨k,hk,rfl,HJ,rfl⟩:=hrel;by_cases hlt:k<n
      ·have hkl:k<P.length:=by rw [←HN.out];exact hlt
       obtain ⟨bo,oo,rfl,hbo,x1⟩:=SsAt.at_ hV1 hkl;have HT:Hid ((P.take (k+1)).all vldB=((P.take k).all vldB&&vldB (P[k]'hkl))):=by rw [Hid,take_snoc P k hkl,List.all_append];simp
       have HBD:Hid (vldB (P[k]'hkl)=false→f5=false):=fun h=>by rw [←HF5.out,List.all_eq_false];exact ⟨_,List.getElem_mem hkl,by rw [h];decide⟩
       have HIV:=Lib.hid (HPV.out k hkl);generalize vldB (P[k]'hkl)=q at HT HBD HIV;generalize (P[k]'hkl)=o at x1 HIV;have h0k:(0:Int)≤(k:Int):=by omega
       have h1k:(k:Int)<(n:Int):=by omega
       go_wp2_with fail
       refine (HIV.out _).mono ?_;rintro e wz' ⟨rfl,rfl⟩;cases q
       ·have HX:Hid (R=(3,nilN)):=HF0.out (by rw [HBD.out rfl,Bool.and_false]);clear HF0 HBM HCV hB;have hRl:=hR.lt;obtain ⟨hRc0,hRf0,hRc1,hRf1,hRc2,hRf2⟩:=hR.x3;go_wp2;refine bodyPost_ret (v:=.tuple #[.agg #[.slice none 0 0,.slice none 0 0,.slice none 0 0],.int .i64 3]) ?_ rfl ?_
        ·simp [results,Tryz.results21,go_sem,hRc0,hRc1,hRc2,hRl]
        ·rw [HX.out];exact StPost.err (((hBW.setCell HWR.out _).setCell HWR.out _).setCell HWR.out _)
       ·have HX:Hid ((P.take (k+1)).all vldB=true):=by rw [Hid,HT.out,HJ.out];rfl
        go_wp2;go_roundw
        case rel=>exact ⟨k+1,by omega,by go_num,HX,by trivial⟩
        case measure=>simp [intOf];omega
      ·obtain rfl:n=k:=by omega
       have HAL:Hid (f5=true):=by
        have:=HJ.out;rw [List.take_of_length_le (by rw [←HN.out];omega)] at this;rw [Hid,←HF5.out];exact this
       have HBN:=Lib.hid (HBM.out ⟨by trivial,by trivial,by trivial,by trivial,HAL.out⟩);have HM0:=Lib.hid (HCV.out ⟨by trivial,by trivial,by trivial,by trivial,HAL.out⟩);clear HF0 HCV HJ HPV HF5 HBM HAL hlt hk;obtain ⟨hBc0,hBf0,hBc1,hBf1,hBc2,hBf2,hBc3,hBf3⟩:=hB.x4;go_wp2_with fail
       refine (HKY.out _).mono ?_;rintro e wb ⟨rfl,hbb⟩;clear hBc0 hBf0 hBc1 hBf1 hBc2 hBf2 hBc3 hBf3;replace hB:=hB.after hbb;replace hR:=hR.after hbb;replace hV1:=SsAt.after hV1 hbb;replace hBW:=bt hBW hbb;clear hbb;by_cases hm0:m=0
       case neg =>
        have hmb:((m:Int) != 0)=true:=by rw [bne_iff_ne];omega
        have HX:=Lib.hid (HBN.out hm0);clear hm0 HBN hB;have hRl:=hR.lt;obtain ⟨hRc0,hRf0,hRc1,hRf1,hRc2,hRf2⟩:=hR.x3;go_wp2;refine bodyPost_ret (v:=.tuple #[.agg #[.slice none 0 0,.slice none 0 0,.slice none 0 0],.int .i64 (m:Int)]) ?_ rfl ?_
        ·simp [results,Tryz.results21,go_sem,hRc0,hRc1,hRc2,hRl]
        ·rw [HX.out];exact StPost.err (((hBW.setCell HWR.out _).setCell HWR.out _).setCell HWR.out _)
       case pos =>
        subst hm0;obtain ⟨hky,hvc,hvv,hvr,hvp⟩:=chk_nums HM0.out;obtain ⟨c1,_,rfl⟩:=of_vldB hvc;obtain ⟨vb,_,rfl⟩:=of_vldB hvv;obtain ⟨rb,_,rfl⟩:=of_vldB hvr;obtain ⟨p,g,h,⟨hp,hg,hh⟩,rfl,rfl,rfl,rfl,hpe⟩:=kyV_zero hky HAS.out;have hPN:=all_nums hvp;obtain ⟨Q,hQ⟩:∃Q,P.map numb=Q:=⟨_,rfl⟩;rw [hQ] at hPN;subst hPN;have hz:=stR_zero (lo:=lo) HM0.out;rw [←HRR.out] at hz;have HRZ:=Lib.hid hz;have HCB:=Lib.hid (lt_of_size HCC.out);have HVB:=Lib.hid (lt_of_size HVL.out);have HRB:=Lib.hid (lt_of_size HRD.out);have HKEY:Hid ((p<256^8∧g<256^128∧h<256^128)∧pedE p 0 g h=0):=⟨⟨hp,hg,hh⟩,hpe⟩;have HQB:Hid (∀x∈Q,x<256^12):=fun x hx=>lt_of_size (HPS.out (E x) (List.mem_map.2 ⟨x,hx,rfl⟩))
        have HNQ:Hid (n=Q.length):=by rw [Hid,HN.out,List.length_map]
        clear hz hky hvc hvv hvr hvp hp hg hh hpe HBN HM0 HPS HAS HCC HVL HRD HN HPL hQ HFM HVC HVV HVR HKY;by_cases hv0:vb=0
        case pos =>
         have hz:=zE hv0;have HX:Hid (R=(11,nilN)):=by rw [Hid,HRZ.out,if_pos (.inl hv0)]
         clear hv0 hB;have hRl:=hR.lt;obtain ⟨hRc0,hRf0,hRc1,hRf1,hRc2,hRf2⟩:=hR.x3;go_wp2;refine bodyPost_ret (v:=.tuple #[.agg #[.slice none 0 0,.slice none 0 0,.slice none 0 0],.int .i64 11]) ?_ rfl ?_
         ·simp [results,Tryz.results21,go_sem,hRc0,hRc1,hRc2,hRl]
         ·rw [HX.out];exact StPost.err (((hBW.setCell HWR.out _).setCell HWR.out _).setCell HWR.out _)
        case neg =>
         have hz:=nzE (Nat.pos_of_ne_zero hv0);by_cases hr0:rb=0
         case pos =>
          have hz2:=zE hr0;have HX:Hid (R=(11,nilN)):=by rw [Hid,HRZ.out,if_pos (.inr hr0)]
          clear hr0 hv0 hB;have hRl:=hR.lt;obtain ⟨hRc0,hRf0,hRc1,hRf1,hRc2,hRf2⟩:=hR.x3;go_wp2;refine bodyPost_ret (v:=.tuple #[.agg #[.slice none 0 0,.slice none 0 0,.slice none 0 0],.int .i64 11]) ?_ rfl ?_
          ·simp [results,Tryz.results21,go_sem,hRc0,hRc1,hRc2,hRl]
          ·rw [HX.out];exact StPost.err (((hBW.setCell HWR.out _).setCell HWR.out _).setCell HWR.out _)
         case neg =>
          have hz2:=nzE (Nat.pos_of_ne_zero hr0);have HR2:Hid (R=if Q.length≠4 then (6,nilN) else if hasAll p c1 Q=false then (13,nilN) else (0,stN p g h lo c1 Q vb rb)):=by rw [Hid,HRZ.out,if_neg (by omega)]
          have HVR0:Hid (vb≠0∧rb≠0):=⟨hv0,hr0⟩;clear hv0 hr0 HRZ;by_cases hn4:n=4
          case neg =>
           have hne:((n:Int) != 4)=true:=by rw [bne_iff_ne];omega
           have HX:Hid (R=(6,nilN)):=by rw [Hid,HR2.out,if_pos (by rw [←HNQ.out];exact hn4)]
           clear hn4 hB;have hRl:=hR.lt;obtain ⟨hRc0,hRf0,hRc1,hRf1,hRc2,hRf2⟩:=hR.x3;go_wp2;refine bodyPost_ret (v:=.tuple #[.agg #[.slice none 0 0,.slice none 0 0,.slice none 0 0],.int .i64 6]) ?_ rfl ?_
           ·simp [results,Tryz.results21,go_sem,hRc0,hRc1,hRc2,hRl]
           ·rw [HX.out];exact StPost.err (((hBW.setCell HWR.out _).setCell HWR.out _).setCell HWR.out _)
          case pos =>
           subst hn4;have HQ4:Hid (Q.length=4):=HNQ.out.symm;have HR3:Hid (R=if hasAll p c1 Q=false then (13,nilN) else (0,stN p g h lo c1 Q vb rb)):=by rw [Hid,HR2.out,if_neg (by rw [HQ4.out];decide)]
           have HHS:Hid (∀(x:Nat) (w:World),x<256^128→Calls Tryz.prog 62 #[.agg #[.string (E p),.string (E 0)],.string (E x)] w fun e w'=>e=.returned (.bool (hasB p 0 x))∧Below w.heap.size w w'):=fun x w hx=>rHasV_c p 0 x (hasB p 0 x) w HKEY.out.1.1 (by decide) (pedE_grp HKEY.out.2) hx rfl
           clear HR2 HNQ hn8;obtain ⟨hh1,hhd1⟩:∃t,hasB p 0 c1=t:=⟨_,rfl⟩;have HHD1:=Lib.hid hhd1
           have HH1:Hid (∀w:World,Calls Tryz.prog 62 #[.agg #[.string (E p),.string (E 0)],.string (E c1)] w fun e w'=>e=.returned (.bool hh1)∧Below w.heap.size w w'):=fun w=>by
            rw [←hhd1];exact HHS.out c1 w (Nat.lt_of_lt_of_le HCB.out (Nat.pow_le_pow_right (by decide) (by decide)))
           clear hhd1;obtain ⟨hBc0,hBf0,hBc1,hBf1,hBc2,hBf2,hBc3,hBf3⟩:=hB.x4;go_wp2_with fail
           refine (HH1.out _).mono ?_;rintro e wc1 ⟨rfl,hbc⟩;clear hBc0 hBf0 hBc1 hBf1 hBc2 hBf2 hBc3 hBf3;replace hB:=hB.after hbc;replace hR:=hR.after hbc;replace hV1:=SsAt.after hV1 hbc;replace hBW:=bt hBW hbc;clear hbc;cases hh1
           case false =>
            have HX:Hid (R=(13,nilN)):=by rw [Hid,HR3.out,if_pos (by unfold hasAll;rw [HHD1.out,Bool.false_and])]
            clear hB;have hRl:=hR.lt;obtain ⟨hRc0,hRf0,hRc1,hRf1,hRc2,hRf2⟩:=hR.x3;go_wp2;refine bodyPost_ret (v:=.tuple #[.agg #[.slice none 0 0,.slice none 0 0,.slice none 0 0],.int .i64 13]) ?_ rfl ?_
            ·simp [results,Tryz.results21,go_sem,hRc0,hRc1,hRc2,hRl]
            ·rw [HX.out];exact StPost.err (((hBW.setCell HWR.out _).setCell HWR.out _).setCell HWR.out _)
           case true =>
            have HR4:Hid (R=if Q.all (hasB p 0)=false then (13,nilN) else (0,stN p g h lo c1 Q vb rb)):=by rw [Hid,HR3.out];unfold hasAll;rw [HHD1.out,Bool.true_and]
            clear HR3 HH1;obtain ⟨wx2,hwx2⟩:∃wx2,wx2=wc1:=⟨_,rfl⟩;subst hwx2;go_wp2;go_loopw [16] (fun i wr=>∃k:Nat,k≤4∧i=.int .i64 k∧Hid (∀x∈Q.take k,hasB p 0 x=true)∧Below wx2.heap.size wx2 wr) (fun i _=>4-(intOf i).toNat)
            case atStart=>exact ⟨0,by omega,rfl,(by intro x hx;simp at hx),Below.refl _ _⟩
            case round =>
             obtain ⟨k,hk,rfl,HAL,hbr⟩:=hrel;obtain ⟨wp,hwp⟩:∃wp,wp=wr:=⟨_,rfl⟩;subst hwp;replace hB:=hB.after hbr;replace hR:=hR.after hbr;have hU:=SsAt.after hV1 hbr;have hBW2:=bt hBW hbr;by_cases hlt:k<4
             ·have hkz:k<Q.length:=by rw [HQ4.out];exact hlt
              obtain ⟨bb,o,rfl,hbl,x1⟩:=SsAt.at_ hU (show k<(Q.map E).length by rw [List.length_map];exact hkz);simp only [List.getElem_map] at x1;have HXM:Hid (Q[k]'hkz∈Q):=List.getElem_mem hkz;have HTK:Hid (Q.take (k+1)=Q.take k++[Q[k]'hkz]):=take_snoc Q k hkz;generalize (Q[k]'hkz)=xk at x1 HXM HTK;have h0k:(0:Int)≤(k:Int):=by omega
              have h1k:(k:Int)<4:=by omega
              have HXB:Hid (xk<256^128):=Nat.lt_of_lt_of_le (HQB.out xk HXM.out) (Nat.pow_le_pow_right (by decide) (by decide));obtain ⟨hh,hhd⟩:∃t,hasB p 0 xk=t:=⟨_,rfl⟩;have HHD:=Lib.hid hhd;have HHX:=Lib.hid (HHS.out xk);rw [hhd] at HHX;clear hhd;have hC:CA wp [(⟨w.heap.size,0,none⟩,.string (E p)),(⟨w.heap.size,1,none⟩,.string (E 0)),(⟨bb,o+k,none⟩,.string (E xk))]:=CA.cons hB.lt (hB.cell 0) (CA.cons hB.lt (hB.cell 1) (CA.cons hbl x1 (CA.nil _)));go_wp2_with fail
              go_cut [92] (fun s92 wy=>s92=.bool (!hh)∧Below wp.heap.size wp wy)
              case first =>
               go_region_held3 (fun w'=>w'.cell? ⟨w.heap.size,0,none⟩=some (.string (E p))∧w'.cell? ⟨w.heap.size,1,none⟩=some (.string (E 0))∧w'.cell? ⟨bb,o+k,none⟩=some (.string (E xk)))
                ((refine CA.k3 ?_;repeat (first | (with_reducible exact hCq) | (with_reducible exact hC) | (with_reducible refine CA.drew ?_))))
                ((go_at_call 62;go_loud (refine (HHX.out _ HXB.out).mono ?_);rintro e wq ⟨rfl,hbq⟩;have hCq:=hC.drew.after hbq))
               all_goals
                go_wp2_with fail
                go_meet
                exact ⟨rfl,(Below.drew (Below.refl _ _)).trans hbq⟩
              case rest =>
               obtain ⟨rfl,hbq⟩:=hcut;obtain ⟨wq,hwq⟩:∃wq,wq=wc:=⟨_,rfl⟩;subst hwq;clear hC;cases hh
               case false =>
                have HX:Hid (R=(13,nilN)):=by
                 rw [Hid,HR4.out,if_pos];rw [List.all_eq_false];exact ⟨xk,HXM.out,by rw [HHD.out];decide⟩
                replace hR:=hR.after hbq;have hbw:=bt hBW2 hbq;clear hB hU hV1 hBW2;have hRl:=hR.lt;obtain ⟨hRc0,hRf0,hRc1,hRf1,hRc2,hRf2⟩:=hR.x3;go_wp2;refine bodyPost_ret (v:=.tuple #[.agg #[.slice none 0 0,.slice none 0 0,.slice none 0 0],.int .i64 13]) ?_ rfl ?_
                ·simp [results,Tryz.results21,go_sem,hRc0,hRc1,hRc2,hRl]
                ·rw [HX.out];exact StPost.err (((hbw.setCell HWR.out _).setCell HWR.out _).setCell HWR.out _)
               case true =>
                have HA2:Hid (∀x∈Q.take (k+1),hasB p 0 x=true):=fun x hx=>by
                 rw [HTK.out] at hx;rcases List.mem_append.1 hx with hx | hx
                 ·exact HAL.out x hx
                 ·rw [List.mem_singleton.1 hx];exact HHD.out
                go_wp2;go_roundw
                case rel=>exact ⟨k+1,by omega,by go_num,HA2,bt hbr hbq⟩
                case measure=>simp [intOf];omega
             ·have HRN:Hid (R=(0,stN p g h lo c1 Q vb rb)):=by
               rw [Hid,HR4.out,if_neg];have h1:Q.take k=Q:=List.take_of_length_le (by rw [HQ4.out];omega);have h2:=HAL.out;rw [h1] at h2;rw [Bool.not_eq_false,List.all_eq_true];exact h2
              obtain rfl:k=4:=by omega
              clear HAL HR4 HHS hlt hk hV1;obtain ⟨s4,hs4⟩:∃s,s=E 4:=⟨_,rfl⟩;obtain ⟨s1,hs1⟩:∃s,s=E 1:=⟨_,rfl⟩;obtain ⟨k1,k2,k3⟩:=lastB_lt HVB.out HRB.out;have up:∀{n k:Nat},n<256^k→k≤128→n<256^128:=fun h h2=>Nat.lt_of_lt_of_le h (Nat.pow_le_pow_right (by decide) h2)
              have HO4:Hid (∀w,Calls Tryz.prog 64 #[.int .u64 4] w fun e w'=>e=.returned (.string s4)∧Below w.heap.size w w'):=fun w=>by rw [hs4];exact rof_c 4 w (by decide)
              have HO1:Hid (∀w,Calls Tryz.prog 64 #[.int .u64 1] w fun e w'=>e=.returned (.string s1)∧Below w.heap.size w w'):=fun w=>by rw [hs1];exact rof_c 1 w (by decide)
              have HM1:Hid (∀w,Calls Tryz.prog 63 #[.string s4,.string (E vb)] w fun e w'=>e=.returned (.tuple #[.string (E (4*vb)),.int .i64 0])∧Below w.heap.size w w'):=fun w=>by rw [hs4];exact rmul_c 4 vb w (by decide) (up HVB.out (by decide)) (by rw [Nat.mul_comm];exact up k1 (by decide))
              have HAD:Hid (∀w,Calls Tryz.prog 65 #[.string (E (4*vb)),.string s1] w fun e w'=>e=.returned (.tuple #[.string (E (4*vb+1)),.int .i64 0])∧Below w.heap.size w w'):=fun w=>by rw [hs1];exact radd_c (4*vb) 1 w (by rw [Nat.mul_comm];exact up k1 (by decide)) (by decide) (by rw [Nat.mul_comm];exact up k2 (by decide))
              have HM2:Hid (∀w,Calls Tryz.prog 63 #[.string (E rb),.string (E (4*vb+1))] w fun e w'=>e=.returned (.tuple #[.string (E (lastB vb rb)),.int .i64 0])∧Below w.heap.size w w'):=fun w=>by
               rw [show lastB vb rb=rb*(4*vb+1) by unfold lastB;rw [Nat.mul_comm]];exact rmul_c rb (4*vb+1) w (up HRB.out (by decide)) (by rw [Nat.mul_comm];exact up k2 (by decide)) (by rw [Nat.mul_comm rb,Nat.mul_comm 4];exact up k3 (by decide))
              generalize E (4*vb)=s2 at HM1 HAD;generalize E (4*vb+1)=s3 at HAD HM2;clear hs4 hs1 k1 k2 k3 up;go_wp2_with fail
              refine (HO4.out _).mono ?_;rintro e wd1 ⟨rfl,hd1⟩;go_wp2_with fail
              refine (HM1.out _).mono ?_;rintro e wd2 ⟨rfl,hd2⟩;replace hd2:=bt hd1 hd2;clear hd1;go_wp2_with fail
              refine (HO1.out _).mono ?_;rintro e wd3 ⟨rfl,hd3⟩;replace hd3:=bt hd2 hd3;clear hd2;go_wp2_with fail
              refine (HAD.out _).mono ?_;rintro e wd4 ⟨rfl,hd4⟩;replace hd4:=bt hd3 hd4;clear hd3;go_wp2_with fail
              refine (HM2.out _).mono ?_;rintro e ws ⟨rfl,hbs⟩;replace hbs:=bt hd4 hbs;clear hd4;replace hB:=hB.after hbs;replace hR:=hR.after hbs;replace hU:=SsAt.after hU hbs;have hBW3:=bt hBW2 hbs;clear hbs hbr hBW2 hBW HO4 HM1 HO1 HAD HM2;have hGg:=blk3a ws #[.string (E p),.string (E 0)] #[.slice (some ⟨ws.heap.size,0,none⟩) 1 1,.slice none 0 0,.slice none 0 0] #[.int .i64 0,.string ⟨#[]⟩,.slice none 0 0] 24 61 115;have hSs:=blk3b ws #[.string (E p),.string (E 0)] #[.slice (some ⟨ws.heap.size,0,none⟩) 1 1,.slice none 0 0,.slice none 0 0] #[.int .i64 0,.string ⟨#[]⟩,.slice none 0 0] 24 61 115;have hLs:=blk3c ws #[.string (E p),.string (E 0)] #[.slice (some ⟨ws.heap.size,0,none⟩) 1 1,.slice none 0 0,.slice none 0 0] #[.int .i64 0,.string ⟨#[]⟩,.slice none 0 0] 24 61 115;have hbS:=b3 ws (.cells #[.string (E p),.string (E 0)] 24) (.cells #[.slice (some ⟨ws.heap.size,0,none⟩) 1 1,.slice none 0 0,.slice none 0 0] 61) (.cells #[.int .i64 0,.string ⟨#[]⟩,.slice none 0 0] 115);have hBl:=hB.lt;have hRl:=hR.lt;obtain ⟨hBc0,hBf0,hBc1,hBf1,hBc2,hBf2,hBc3,hBf3⟩:=hB.x4;go_upto_region 29 with fail
              clear hBc0 hBf0 hBc1 hBf1 hBc2 hBf2 hBc3 hBf3;clear hBl hRl;generalize ((ws.alloc (.cells #[.string (E p),.string (E 0)] 24)).alloc (.cells #[.slice (some ⟨ws.heap.size,0,none⟩) 1 1,.slice none 0 0,.slice none 0 0] 61)).alloc (.cells #[.int .i64 0,.string ⟨#[]⟩,.slice none 0 0] 115)=wz at hGg hSs hLs hbS ⊢;obtain ⟨gL,hgL⟩:∃g,ws.heap.size+1+1=g:=⟨_,rfl⟩;obtain ⟨gS,hgS⟩:∃g,ws.heap.size+1=g:=⟨_,rfl⟩;have HGS:Hid (ws.heap.size<gS∧gS<gL):=by rw [Hid];omega
              have HGL2:=Lib.hid hgL;have HGS2:=Lib.hid hgS;rw [hgL,hgS];replace hSs:Blk wz gS 61 [.slice (some ⟨ws.heap.size,0,none⟩) 1 1,.slice none 0 0,.slice none 0 0]:=HGS2.out ▸ hSs;replace hLs:Blk wz gL 115 [.int .i64 0,.string ⟨#[]⟩,.slice none 0 0]:=HGL2.out ▸ hLs;replace hGg:Blk wz ws.heap.size 24 [.string (E p),.string (E 0)]:=hGg;have HWS:Hid (w.heap.size≤ws.heap.size):=hBW3.size;clear hgS hgL HGL2 HGS2;go_wp2;go_loopw [25] (fun i wr=>∃(k:Nat) (vv ev tv:Value) (EL:List (NEqn × Value)),k≤4∧i=.int .i64 k∧Hid (EL.map (fun e=>e.1)=stQ g h Q k)∧Blk wr gS 61 [.slice (some ⟨ws.heap.size,0,none⟩) 1 1,vv,ev]∧Blk wr ws.heap.size 24 [.string (E p),.string (E 0)]∧Blk wr gL 115 [.int .i64 0,.string ⟨#[]⟩,tv]∧VOwn wr ws.heap.size vv (stV vb rb k)∧EOwn wr ws.heap.size tv ev EL∧TOwn wr ws.heap.size tv (stT Q k)∧ev.ownBlock≠some gL∧Below ws.heap.size ws wr) (fun i _=>4-(intOf i).toNat)
              case atStart=>exact ⟨0,_,_,_,[],by omega,rfl,rfl,hSs,hGg,hLs,World.ownsRow_nil _ _ _ _,EOwn.nil _ _ _,World.ownsRow_nil _ _ _ _,(fun h0=>by cases h0),hbS⟩
              case round =>
               clear hSs hGg hLs hbS;obtain ⟨k,vv,ev,tv,EL,hk,rfl,HEL,hS,hG,hL,hVO,hEO,hTO,hne,hbr⟩:=hrel;obtain ⟨wp2,hwp2⟩:∃wp2,wp2=wr:=⟨_,rfl⟩;subst hwp2;by_cases hlt:k<4
               ·have hkz:k<Q.length:=by rw [HQ4.out];exact hlt
                obtain ⟨bq,oq,rfl,hbl,x1⟩:=SsAt.at_ hU (show k<(Q.map E).length by rw [List.length_map];exact hkz);simp only [List.getElem_map] at x1;have HTK:Hid (Q.getD k 0=Q[k]'hkz):=by rw [Hid,List.getD_eq_getElem?_getD,List.getElem?_eq_getElem hkz];rfl
                have HTB:Hid (Q[k]'hkz<256^12):=HQB.out _ (List.getElem_mem hkz);generalize (Q[k]'hkz)=tk at x1 HTK HTB;have h0k:(0:Int)≤(k:Int):=by omega
                have h1k:(k:Int)<4:=by omega
                have HX1:=Lib.hid x1;have HBL:=Lib.hid hbl;clear x1 hbl;go_upto_region 32 with fail
                have hszp:=hbr.size;have hbV:=b1 wp2 (.cells #[.string (E vb),.string (E rb)] 113)
                have hVJ:(wp2.alloc (.cells #[.string (E vb),.string (E rb)] 113)).ownsRow ws.heap.size 113 1 vv (2*k) (strs (stV vb rb k)):=by
                 have h:=own_after hVO hbV;rwa [stV_len] at h
                have hSJ:=hS.after hbV;obtain ⟨hSc0,hSf0,hSc1,hSf1,hSc2,hSf2⟩:=hS.x3;go_upto_region 33 with (at_builtin;go_loud (refine wpList_append_lies _ rfl (.tmp 133) (.tmp 138) 58 rfl ws.heap.size 113 i2 _ 1 16 Tryz.underlying58 HI2.out HA2.out HB2.out HC2.out rfl (by omega) vv (2*k) (strs (stV vb rb k)) rfl hVJ ⟨wp2.heap.size,0,none⟩ 2 2 [.string (E vb),.string (E rb)] rfl rfl (Blk.new wp2 #[.string (E vb),.string (E rb)] 113).cells (by simp [Value.oneCell']) (by omega) (by simp only [maxLen];omega) (by omega) (by rw [World.size_alloc];omega) (wp2.heap.size+1) (by simp) ?_);intro gv cv wv hownV hgrowV hatV hltV;have hSv:=Blk.grown hSJ hgrowV (own_ne hVJ hSJ (by decide));obtain ⟨hSvc0,hSvf0,hSvc1,hSvf1,hSvc2,hSvf2⟩:=hSv.x3;have hSvl:=hSv.lt)
                have hSv:=Blk.grown hSJ hgrowV (own_ne hVJ hSJ (by decide));have hGJ:=hG.after hbV;have hGv:=Blk.grown hGJ hgrowV (own_ne hVJ hGJ (by decide));have hLJ:=hL.after hbV;have hLv:=Blk.grown hLJ hgrowV (own_ne hVJ hLJ (by decide));have hEv:=(hEO.after hbV).other hVJ (by decide) (by decide) hgrowV;have hTv:TOwn wv ws.heap.size tv (stT Q k):=own_grown (hTO.after hbV) hVJ (by decide) hgrowV;have hbv:Below ws.heap.size ws wv:=Below.grown (ba hbr (.cells #[.string (E vb),.string (E rb)] 113)) hgrowV (by rw [World.size_alloc];omega) (fun y hy=>(own_lt hVO hy).2)
                have hVv:VOwn wv ws.heap.size (.slice (some ⟨gv,0,none⟩) (2*k+2) cv) (stV vb rb (k+1)):=by
                 unfold VOwn;rw [stV_snoc,List.length_append,stV_len];have e:strs (stV vb rb k++[vb,rb])=strs (stV vb rb k)++[.string (E vb),.string (E rb)]:=by unfold strs;rw [List.map_append];rfl
                 rw [e];exact hownV
                clear hVJ hSJ hGJ hLJ hVO hS hG hL hEO hTO hbr hbV hownV hgrowV hatV hltV;clear hSc0 hSf0 hSc1 hSf1 hSc2 hSf2;have hgS:ws.heap.size≤gS:=Nat.le_of_lt HGS.out.1;have hEu:=hEv.set (i:=1) (u:=.slice (some ⟨gv,0,none⟩) (2*k+2) cv) hSv (by decide) (by decide);have hTu:TOwn (wv.setCell ⟨gS,1,none⟩ (.slice (some ⟨gv,0,none⟩) (2*k+2) cv)) ws.heap.size tv (stT Q k):=own_set hTv (own_ne hTv hSv (by decide));have hVu:VOwn (wv.setCell ⟨gS,1,none⟩ (.slice (some ⟨gv,0,none⟩) (2*k+2) cv)) ws.heap.size (.slice (some ⟨gv,0,none⟩) (2*k+2) cv) (stV vb rb (k+1)):=own_set hVv (own_ne hVv hSv (by decide));have hGu:=hGv.other ⟨gS,1,none⟩ (.slice (some ⟨gv,0,none⟩) (2*k+2) cv) (by have:=HGS.out;show ws.heap.size≠gS;omega);have hLu:=hLv.other ⟨gS,1,none⟩ (.slice (some ⟨gv,0,none⟩) (2*k+2) cv) (by have:=HGS.out;show gL≠gS;omega);have hSu:=hSv.set 1 (.slice (some ⟨gv,0,none⟩) (2*k+2) cv);have hbu:=hbv.setCell (p:=⟨gS,1,none⟩) hgS (.slice (some ⟨gv,0,none⟩) (2*k+2) cv);generalize wv.setCell ⟨gS,1,none⟩ (.slice (some ⟨gv,0,none⟩) (2*k+2) cv)=wu at hEu hTu hVu hGu hLu hSu hbu ⊢;replace hSu:Blk wu gS 61 [.slice (some ⟨ws.heap.size,0,none⟩) 1 1,.slice (some ⟨gv,0,none⟩) (2*k+2) cv,ev]:=hSu;clear hEv hTv hVv hGv hSv hLv hbv;generalize (.slice (some ⟨gv,0,none⟩) (2*k+2) cv:Value)=vv2 at hVu hSu ⊢;have HW1:Hid (ws.heap.size≤wu.heap.size):=hbu.size;obtain ⟨NL,hNL⟩:∃L,L=stQ g h Q (k+1):=⟨_,rfl⟩;go_cut [] (fun wy=>fRq3 gS ws.heap.size gL p vv2 ev tv ws.heap.size (stV vb rb (k+1)) (stT Q k) EL NL [true,true] wy∧Below ws.heap.size wu wy)
                case first =>
                 refine wp_region_invB (vRq3 wu.heap.size gS w.heap.size gL g h tk k (some ⟨bq,oq+k,none⟩) (some ⟨bq,oq,none⟩) 4 pc ev tv ws.heap.size NL) [20,22] ws.heap.size (fRq3 gS ws.heap.size gL p vv2 ev tv ws.heap.size (stV vb rb (k+1)) (stT Q k) EL NL) 207 ?_ (by kernel_rfl) rfl (by kernel_rfl) ?_ ?_ (by kernel_rfl)
                 ·exact fRq3_st _ _ _ _ _ _ _ _ _ _ _ _ _ _ _ (Below.drew (Below.refl _ _)) ⟨fun _=>⟨hne,hEu⟩,hGu,hVu,hTu,hLu,ev,hSu,fun _=>rfl,fun h0=>(by cases h0)⟩
                 ·intro hsl done a' w' i o hJ ho hun hpre;have hi:=(Array.getElem?_eq_some_iff.1 ho).1;have hst:=vRq3_st wu.heap.size gS w.heap.size gL g h tk k (some ⟨bq,oq+k,none⟩) (some ⟨bq,oq,none⟩) 4 pc ev tv ws.heap.size NL;have hFt:=fRq3_st gS ws.heap.size gL p vv2 ev tv ws.heap.size (stV vb rb (k+1)) (stT Q k) EL NL;have hwz:ws.heap.size≤w'.heap.size:=Nat.le_trans HW1.out hJ.bw.size
                  match i,hi,ho,hun,hpre with
                   | 0,_,ho,hun,hpre =>
                    simp at ho;subst ho;refine hJ.op (d:=141) hsl hst hFt hwz rfl rfl rfl (by decide) hpre ?_;simp only [List.getElem_toArray,List.getElem_cons_zero,List.getElem_cons_succ] at hpre ⊢;have q23:=hJ.keep 23 (.pointer (some ⟨gS,0,none⟩)) rfl (by kernel_rfl);refine wp_val (v:=.pointer (some ⟨gS,2,none⟩)) (by simp [execOp,q23,go_sem]) rfl
                   | 1,_,ho,hun,hpre =>
                    simp at ho;subst ho;refine hJ.op (d:=142) hsl hst hFt hwz rfl rfl rfl (by decide) hpre ?_;simp only [List.getElem_toArray,List.getElem_cons_zero,List.getElem_cons_succ] at hpre ⊢;obtain ⟨v141,ev141,hv141⟩:=hJ.dn 0 _ 141 rfl (hpre { on:=0,ground:=Ground.data } (by simp) rfl) rfl;have qv141:=eval_of ev141;obtain rfl:v141=.pointer (some ⟨gS,2,none⟩):=hv141;obtain ⟨_,_,_,_,_,e3,hS3,he3,_⟩:=hJ.ex
                    have hnA:stB [20,22] done≠[true,true]:=fun e=>by
                     have hL':done.getD 22 false=true:=by
                      simp only [stB,List.map_cons,List.map_nil,List.cons.injEq] at e;exact e.2.1
                     have:=hJ.pr 22 _ rfl hL' { on:=1,ground:=Ground.phase } (by simp) rfl;rw [this] at hun;cases hun
                    obtain rfl:=he3 hnA;have x2:=hS3.cell 2;refine wp_val (v:=e3) (by simp [execOp,ev141,go_sem,x2]) rfl
                   | 2,_,ho,hun,hpre =>
                    simp at ho;subst ho;refine hJ.op (d:=143) hsl hst hFt hwz rfl rfl rfl (by decide) hpre ?_;simp only [List.getElem_toArray,List.getElem_cons_zero,List.getElem_cons_succ] at hpre ⊢;have q3:=hJ.keep 3 (.slice (some ⟨bq,oq,none⟩) 4 pc) rfl (by kernel_rfl);refine wp_val (v:=.slice (some ⟨bq,oq,none⟩) 4 pc) (by simp [execOp,q3,go_sem]) rfl
                   | 3,_,ho,hun,hpre =>
                    simp at ho;subst ho;refine hJ.op (d:=144) hsl hst hFt hwz rfl rfl rfl (by decide) hpre ?_;simp only [List.getElem_toArray,List.getElem_cons_zero,List.getElem_cons_succ] at hpre ⊢;have q25:=hJ.keep 25 (.int .i64 (k:Int)) rfl (by kernel_rfl);refine wp_val (v:=.int .i64 (k:Int)) (by simp [execOp,q25,go_sem]) rfl
                   | 4,_,ho,hun,hpre =>
                    simp at ho;subst ho;refine hJ.op (d:=145) hsl hst hFt hwz rfl rfl rfl (by decide) hpre ?_;simp only [List.getElem_toArray,List.getElem_cons_zero,List.getElem_cons_succ] at hpre ⊢;obtain ⟨v143,ev143,hv143⟩:=hJ.dn 2 _ 143 rfl (hpre { on:=2,ground:=Ground.data } (by simp) rfl) rfl;have qv143:=eval_of ev143;obtain ⟨v144,ev144,hv144⟩:=hJ.dn 3 _ 144 rfl (hpre { on:=3,ground:=Ground.data } (by simp) rfl) rfl;have qv144:=eval_of ev144;obtain rfl:v143=.slice (some ⟨bq,oq,none⟩) 4 pc:=hv143;obtain rfl:v144=.int .i64 (k:Int):=hv144;refine wp_val (v:=.pointer (some ⟨bq,oq+k,none⟩)) (by simp [execOp,ev143,ev144,go_sem,h0k,h1k]) rfl
                   | 5,_,ho,hun,hpre =>
                    simp at ho;subst ho;refine hJ.op (d:=146) hsl hst hFt hwz rfl rfl rfl (by decide) hpre ?_;simp only [List.getElem_toArray,List.getElem_cons_zero,List.getElem_cons_succ] at hpre ⊢;obtain ⟨v145,ev145,hv145⟩:=hJ.dn 4 _ 145 rfl (hpre { on:=4,ground:=Ground.data } (by simp) rfl) rfl;have qv145:=eval_of ev145;obtain rfl:v145=.pointer (some ⟨bq,oq+k,none⟩):=hv145;have xq:=(((hbu).trans hJ.bw).cell (p:=⟨bq,oq+k,none⟩) HBL.out).trans HX1.out;refine wp_val (v:=.string (E tk)) (by simp [execOp,ev145,go_sem,xq]) rfl
                   | 6,_,ho,hun,hpre =>
                    simp at ho;subst ho;refine hJ.op (d:=147) hsl hst hFt hwz rfl rfl rfl (by decide) hpre ?_;simp only [List.getElem_toArray,List.getElem_cons_zero,List.getElem_cons_succ] at hpre ⊢;have q6:=hJ.keep 6 (.pointer (some ⟨w.heap.size,0,none⟩)) rfl (by kernel_rfl);refine wp_val (v:=.pointer (some ⟨w.heap.size,2,none⟩)) (by simp [execOp,q6,go_sem]) rfl
                   | 7,_,ho,hun,hpre =>
                    simp at ho;subst ho;refine hJ.op (d:=148) hsl hst hFt hwz rfl rfl rfl (by decide) hpre ?_;simp only [List.getElem_toArray,List.getElem_cons_zero,List.getElem_cons_succ] at hpre ⊢;obtain ⟨v147,ev147,hv147⟩:=hJ.dn 6 _ 147 rfl (hpre { on:=6,ground:=Ground.data } (by simp) rfl) rfl;have qv147:=eval_of ev147;have hBx:=hB.after (hbu.trans hJ.bw);have hBl:=hBx.lt;have x2:=hBx.cell 2;have x3:=hBx.cell 3;obtain rfl:v147=.pointer (some ⟨w.heap.size,2,none⟩):=hv147;refine wp_val (v:=.string (E g)) (by simp [execOp,ev147,go_sem,x2]) rfl
                   | 8,_,ho,hun,hpre =>
                    simp at ho;subst ho;refine hJ.op (d:=149) hsl hst hFt hwz rfl rfl rfl (by decide) hpre ?_;simp only [List.getElem_toArray,List.getElem_cons_zero,List.getElem_cons_succ] at hpre ⊢;have q25:=hJ.keep 25 (.int .i64 (k:Int)) rfl (by kernel_rfl);refine wp_val (v:=.int .i64 (k:Int)) (by simp [execOp,q25,go_sem]) rfl
                   | 9,_,ho,hun,hpre =>
                    simp at ho;subst ho;refine hJ.op (d:=150) hsl hst hFt hwz rfl rfl rfl (by decide) hpre ?_;simp only [List.getElem_toArray,List.getElem_cons_zero,List.getElem_cons_succ] at hpre ⊢;obtain ⟨v149,ev149,hv149⟩:=hJ.dn 8 _ 149 rfl (hpre { on:=8,ground:=Ground.data } (by simp) rfl) rfl;have qv149:=eval_of ev149;obtain rfl:v149=.int .i64 (k:Int):=hv149;refine wp_val (v:=.int .i64 ((2*k:Nat):Int)) (by rcases (show k=0∨k=1∨k=2∨k=3 by omega) with rfl | rfl | rfl | rfl <;> (simp [execOp,ev149,go_sem];try rfl)) rfl
                   | 10,_,ho,hun,hpre =>
                    simp at ho;subst ho;refine hJ.op (d:=151) hsl hst hFt hwz rfl rfl rfl (by decide) hpre ?_;simp only [List.getElem_toArray,List.getElem_cons_zero,List.getElem_cons_succ] at hpre ⊢;obtain ⟨v148,ev148,hv148⟩:=hJ.dn 7 _ 148 rfl (hpre { on:=7,ground:=Ground.data } (by simp) rfl) rfl;have qv148:=eval_of ev148;obtain ⟨v150,ev150,hv150⟩:=hJ.dn 9 _ 150 rfl (hpre { on:=9,ground:=Ground.data } (by simp) rfl) rfl;have qv150:=eval_of ev150;obtain rfl:v148=.string (E g):=hv148;obtain rfl:v150=.int .i64 ((2*k:Nat):Int):=hv150;refine wp_callX 66 #[.tmp 148,.tmp 150] #[22,3] rfl (enters_of Tryz.func66 (by kernel_rfl) rfl) ?_;simp only [List.map_toArray,List.map_cons,List.map_nil,qv148,qv150];refine (r27term_c (E g) ((2*k:Nat):Int) w').mono ?_;rintro e w'' ⟨rfl,hb⟩;exact ⟨_,rfl,hb,rfl⟩
                   | 11,_,ho,hun,hpre =>
                    simp at ho;subst ho;refine hJ.op (d:=152) hsl hst hFt hwz rfl rfl rfl (by decide) hpre ?_;simp only [List.getElem_toArray,List.getElem_cons_zero,List.getElem_cons_succ] at hpre ⊢;have q6:=hJ.keep 6 (.pointer (some ⟨w.heap.size,0,none⟩)) rfl (by kernel_rfl);refine wp_val (v:=.pointer (some ⟨w.heap.size,3,none⟩)) (by simp [execOp,q6,go_sem]) rfl
                   | 12,_,ho,hun,hpre =>
                    simp at ho;subst ho;refine hJ.op (d:=153) hsl hst hFt hwz rfl rfl rfl (by decide) hpre ?_;simp only [List.getElem_toArray,List.getElem_cons_zero,List.getElem_cons_succ] at hpre ⊢;obtain ⟨v152,ev152,hv152⟩:=hJ.dn 11 _ 152 rfl (hpre { on:=11,ground:=Ground.data } (by simp) rfl) rfl;have qv152:=eval_of ev152;have hBx:=hB.after (hbu.trans hJ.bw);have hBl:=hBx.lt;have x2:=hBx.cell 2;have x3:=hBx.cell 3;obtain rfl:v152=.pointer (some ⟨w.heap.size,3,none⟩):=hv152;refine wp_val (v:=.string (E h)) (by simp [execOp,ev152,go_sem,x3]) rfl
                   | 13,_,ho,hun,hpre =>
                    simp at ho;subst ho;refine hJ.op (d:=154) hsl hst hFt hwz rfl rfl rfl (by decide) hpre ?_;simp only [List.getElem_toArray,List.getElem_cons_zero,List.getElem_cons_succ] at hpre ⊢;have q25:=hJ.keep 25 (.int .i64 (k:Int)) rfl (by kernel_rfl);refine wp_val (v:=.int .i64 (k:Int)) (by simp [execOp,q25,go_sem]) rfl
                   | 14,_,ho,hun,hpre =>
                    simp at ho;subst ho;refine hJ.op (d:=155) hsl hst hFt hwz rfl rfl rfl (by decide) hpre ?_;simp only [List.getElem_toArray,List.getElem_cons_zero,List.getElem_cons_succ] at hpre ⊢;obtain ⟨v154,ev154,hv154⟩:=hJ.dn 13 _ 154 rfl (hpre { on:=13,ground:=Ground.data } (by simp) rfl) rfl;have qv154:=eval_of ev154;obtain rfl:v154=.int .i64 (k:Int):=hv154;refine wp_val (v:=.int .i64 ((2*k:Nat):Int)) (by rcases (show k=0∨k=1∨k=2∨k=3 by omega) with rfl | rfl | rfl | rfl <;> (simp [execOp,ev154,go_sem];try rfl)) rfl
                   | 15,_,ho,hun,hpre =>
                    simp at ho;subst ho;refine hJ.op (d:=156) hsl hst hFt hwz rfl rfl rfl (by decide) hpre ?_;simp only [List.getElem_toArray,List.getElem_cons_zero,List.getElem_cons_succ] at hpre ⊢;obtain ⟨v155,ev155,hv155⟩:=hJ.dn 14 _ 155 rfl (hpre { on:=14,ground:=Ground.data } (by simp) rfl) rfl;have qv155:=eval_of ev155;obtain rfl:v155=.int .i64 ((2*k:Nat):Int):=hv155;refine wp_val (v:=.int .i64 ((2*k+1:Nat):Int)) (by rcases (show k=0∨k=1∨k=2∨k=3 by omega) with rfl | rfl | rfl | rfl <;> (simp [execOp,ev155,go_sem];try rfl)) rfl
                   | 16,_,ho,hun,hpre =>
                    simp at ho;subst ho;refine hJ.op (d:=157) hsl hst hFt hwz rfl rfl rfl (by decide) hpre ?_;simp only [List.getElem_toArray,List.getElem_cons_zero,List.getElem_cons_succ] at hpre ⊢;obtain ⟨v153,ev153,hv153⟩:=hJ.dn 12 _ 153 rfl (hpre { on:=12,ground:=Ground.data } (by simp) rfl) rfl;have qv153:=eval_of ev153;obtain ⟨v156,ev156,hv156⟩:=hJ.dn 15 _ 156 rfl (hpre { on:=15,ground:=Ground.data } (by simp) rfl) rfl;have qv156:=eval_of ev156;obtain rfl:v153=.string (E h):=hv153;obtain rfl:v156=.int .i64 ((2*k+1:Nat):Int):=hv156;refine wp_callX 66 #[.tmp 153,.tmp 156] #[22,3] rfl (enters_of Tryz.func66 (by kernel_rfl) rfl) ?_;simp only [List.map_toArray,List.map_cons,List.map_nil,qv153,qv156];refine (r27term_c (E h) ((2*k+1:Nat):Int) w').mono ?_;rintro e w'' ⟨rfl,hb⟩;exact ⟨_,rfl,hb,rfl⟩
                   | 17,_,ho,hun,hpre =>
                    simp at ho;subst ho;refine hJ.op (d:=158) hsl hst hFt hwz rfl rfl rfl (by decide) hpre ?_;simp only [List.getElem_toArray,List.getElem_cons_zero,List.getElem_cons_succ] at hpre ⊢;obtain ⟨v151,ev151,hv151⟩:=hJ.dn 10 _ 151 rfl (hpre { on:=10,ground:=Ground.data } (by simp) rfl) rfl;have qv151:=eval_of ev151;obtain ⟨v157,ev157,hv157⟩:=hJ.dn 16 _ 157 rfl (hpre { on:=16,ground:=Ground.data } (by simp) rfl) rfl;have qv157:=eval_of ev157;obtain rfl:v151=.agg #[.string (E g),.int .i64 ((2*k:Nat):Int),.bool false,.string (E 1)]:=hv151;obtain rfl:v157=.agg #[.string (E h),.int .i64 ((2*k+1:Nat):Int),.bool false,.string (E 1)]:=hv157;have hN:=Blk.new w' #[.string (E g),.int .i64 ((2*k:Nat):Int),.bool false,.string (E 1),.string (E h),.int .i64 ((2*k+1:Nat):Int),.bool false,.string (E 1)] 118;have hszw:=hJ.bw.size;simp [Oper.wp,execOp,ev151,ev157,go_sem];exact ⟨_,rfl,b1 _ _,fun _=>⟨w'.heap.size,rfl,hszw,TOwn.blk [t1 g (2*k),t1 h (2*k+1)] 2 rfl (by decide) hN⟩⟩
                   | 18,_,ho,hun,hpre =>
                    simp at ho;subst ho;refine hJ.op (d:=159) hsl hst hFt hwz rfl rfl rfl (by decide) hpre ?_;simp only [List.getElem_toArray,List.getElem_cons_zero,List.getElem_cons_succ] at hpre ⊢;obtain ⟨v146,ev146,hv146⟩:=hJ.dn 5 _ 146 rfl (hpre { on:=5,ground:=Ground.data } (by simp) rfl) rfl;have qv146:=eval_of ev146;obtain ⟨v158,ev158,hv158⟩:=hJ.dn 17 _ 158 rfl (hpre { on:=17,ground:=Ground.data } (by simp) rfl) rfl;have qv158:=eval_of ev158
                    have hs0:stB [20,22] done=[false,false]:=by
                     have k20:done.getD 20 false=false:=by
                      cases a20:done.getD 20 false with
                      | false=>rfl
                      | true =>
                       have a19:=hJ.pr 20 _ rfl a20 { on:=19,ground:=Ground.data } (by simp) rfl;have a18:=hJ.pr 19 _ rfl a19 { on:=18,ground:=Ground.data } (by simp) rfl;rw [hun] at a18;cases a18
                     have k22:done.getD 22 false=false:=by
                      cases a22:done.getD 22 false with
                      | false=>rfl
                      | true =>
                       have a20:=hJ.pr 22 _ rfl a22 { on:=20,ground:=Ground.data } (by simp) rfl;rw [k20] at a20;cases a20
                     simp only [stB,List.map_cons,List.map_nil,k20,k22]
                    rw [hs0] at hv158;obtain ⟨b,rfl,hb1,hT⟩:=hv158 rfl;obtain rfl:v146=.string (E tk):=hv146;refine wp_val (v:=.agg #[.int .i64 0,.string (E tk),.slice (some ⟨b,0,none⟩) 2 2]) (by simp [execOp,ev146,ev158,go_sem]) (fun _=>⟨b,rfl,hb1,hT⟩)
                   | 19,_,ho,hun,hpre =>
                    simp at ho;subst ho;refine hJ.op (d:=160) hsl hst hFt hwz rfl rfl rfl (by decide) hpre ?_;simp only [List.getElem_toArray,List.getElem_cons_zero,List.getElem_cons_succ] at hpre ⊢;obtain ⟨v159,ev159,hv159⟩:=hJ.dn 18 _ 159 rfl (hpre { on:=18,ground:=Ground.data } (by simp) rfl) rfl;have qv159:=eval_of ev159
                    have hs0:stB [20,22] done=[false,false]:=by
                     have k20:done.getD 20 false=false:=by
                      cases a20:done.getD 20 false with
                      | false=>rfl
                      | true =>
                       have a19:=hJ.pr 20 _ rfl a20 { on:=19,ground:=Ground.data } (by simp) rfl;rw [hun] at a19;cases a19
                     have k22:done.getD 22 false=false:=by
                      cases a22:done.getD 22 false with
                      | false=>rfl
                      | true =>
                       have a20:=hJ.pr 22 _ rfl a22 { on:=20,ground:=Ground.data } (by simp) rfl;rw [k20] at a20;cases a20
                     simp only [stB,List.map_cons,List.map_nil,k20,k22]
                    rw [hs0] at hv159;obtain ⟨b,rfl,hb1,hT⟩:=hv159 rfl;have hN:=Blk.new w' #[.int .i64 0,.string (E tk),.slice (some ⟨b,0,none⟩) 2 2] 115;simp [Oper.wp,execOp,ev159,go_sem];exact ⟨_,rfl,b1 _ _,fun _=>⟨b,w'.heap.size,rfl,hN,hb1,hT.after (b1 _ _)⟩⟩
                   | 20,_,ho,hun,hpre =>
                    simp at ho;subst ho;simp only [List.getElem_toArray,List.getElem_cons_zero,List.getElem_cons_succ] at hpre;obtain ⟨v142,ev142,hv142⟩:=hJ.dn 1 _ 142 rfl (hpre { on:=1,ground:=Ground.data } (by simp) rfl) rfl;have qv142:=eval_of ev142;obtain ⟨v160,ev160,hv160⟩:=hJ.dn 19 _ 160 rfl (hpre { on:=19,ground:=Ground.data } (by simp) rfl) rfl;have qv160:=eval_of ev160
                    have hs0:stB [20,22] done=[false,false]:=by
                     have k20:done.getD 20 false=false:=hun
                     have k22:done.getD 22 false=false:=by
                      cases a22:done.getD 22 false with
                      | false=>rfl
                      | true =>
                       have a20:=hJ.pr 22 _ rfl a22 { on:=20,ground:=Ground.data } (by simp) rfl;rw [hun] at a20;cases a20
                     simp only [stB,List.map_cons,List.map_nil,k20,k22]
                    have hi20:20<done.size:=by rw [hJ.sz];decide
                    have hs1:stB [20,22] (done.setIfInBounds 20 true)=[true,false]:=by
                     have e:=hs0;simp only [stB,List.map_cons,List.map_nil,List.cons.injEq,and_true] at e;simp only [stB,List.map_cons,List.map_nil,getD_set _ _ _ hi20,e,if_true,if_false,Nat.reduceEqDiff]
                    rw [hs0] at hv160;obtain ⟨b,b2,rfl,hN,hb1,hT⟩:=hv160 rfl;have hev:v142=ev:=hv142;clear hv142;have hex:=hJ.ex;rw [hs0] at hex;obtain ⟨hE0,hG0,hV0,hT0,hL0,e3,hS3,he3,_⟩:=hex;have hE1:=(hE0 rfl).2;have hEQ:=HEL.out;have hEl:EL.length=k:=by have:=congrArg List.length hEQ;rwa [List.length_map,stQ_len] at this
                    have hro:=hE1.row;refine wpOp_step rfl fun K' hK=>?_
                    simp only [List.getElem_toArray,List.getElem_cons_zero,List.getElem_cons_succ];refine step_append_lies _ rfl (.tmp 142) (.tmp 160) 59 rfl ws.heap.size 115 i4 _ 3 48 Tryz.underlying59 HI4.out HA4.out HB4.out HC4.out rfl (by omega) ev EL.length (EL.flatMap ecp) (qv142.trans hev) hro ⟨b2,0,none⟩ 1 1 [.int .i64 0,.string (E tk),.slice (some ⟨b,0,none⟩) 2 2] qv160 rfl hN.cells (by simp [Value.oneCell']) (by omega) (by rw [hEl];simp only [maxLen];omega) (by rw [hEl];omega) hwz w'.heap.size rfl fun gE cE w'' hown hgrow hat hlt=>hK _ _ ?_
                    have hel:ecp (eqK g h Q k,.slice (some ⟨b,0,none⟩) 2 2)=[.int .i64 0,.string (E tk),.slice (some ⟨b,0,none⟩) 2 2]:=by
                     have e:=HTK.out;unfold ecp eqK;rw [←e];rfl
                    have hfar:∀g',tv.ownBlock=some g'→(Value.slice (some ⟨b,0,none⟩) 2 2).ownBlock≠some g':=fun g' hg' hb'=>by
                     have h1:=(own_lt hTu hg').1;have h2:b=g':=by simpa [Value.ownBlock] using hb'
                     omega
                    refine hJ.put (d:=161) hsl rfl rfl hpre (Below.grown hJ.bw hgrow hwz (fun g' hg'=>(own_lt hro hg').2)) ?_ ?_ ?_
                    ·rw [hs1];exact ⟨fun h0=>(by cases h0),Blk.grown hG0 hgrow (own_ne hro hG0 (by decide)),own_grown hV0 hro (by decide) hgrow,own_grown hT0 hro (by decide) hgrow,Blk.grown hL0 hgrow hne,e3,Blk.grown hS3 hgrow (own_ne hro hS3 (by decide)),fun _=>he3 (by decide),fun h0=>(by cases h0)⟩
                    ·intro j q hq hj hdn u h;rw [hs0] at h;rw [hs1];exact vRq3_ap j u hj h
                    ·rw [hs1];intro _;refine ⟨fun h0=>?_,EL++[(eqK g h Q k,.slice (some ⟨b,0,none⟩) 2 2)],?_,hE1.snoc hgrow rfl (by rw [hel];exact hown) hT hfar⟩
                     ·have h1:gE=gL:=by simpa [Value.ownBlock] using h0
                      exact own_new hat hL0.lt hne h1
                     ·rw [List.map_append,hEQ,hNL,stQ_snoc];rfl
                   | 21,_,ho,hun,hpre =>
                    simp at ho;subst ho;refine hJ.op (d:=162) hsl hst hFt hwz rfl rfl rfl (by decide) hpre ?_;simp only [List.getElem_toArray,List.getElem_cons_zero,List.getElem_cons_succ] at hpre ⊢;have q23:=hJ.keep 23 (.pointer (some ⟨gS,0,none⟩)) rfl (by kernel_rfl);refine wp_val (v:=.pointer (some ⟨gS,2,none⟩)) (by simp [execOp,q23,go_sem]) rfl
                   | 22,_,ho,hun,hpre =>
                    simp at ho;subst ho;simp only [List.getElem_toArray,List.getElem_cons_zero,List.getElem_cons_succ] at hpre;obtain ⟨v161,ev161,hv161⟩:=hJ.dn 20 _ 161 rfl (hpre { on:=20,ground:=Ground.data } (by simp) rfl) rfl;have qv161:=eval_of ev161;obtain ⟨v162,ev162,hv162⟩:=hJ.dn 21 _ 162 rfl (hpre { on:=21,ground:=Ground.data } (by simp) rfl) rfl;have qv162:=eval_of ev162;have a20:=hpre { on:=20,ground:=Ground.data } (by simp) rfl
                    have hs0:stB [20,22] done=[true,false]:=by
                     have k22:done.getD 22 false=false:=hun;simp only [stB,List.map_cons,List.map_nil,a20,k22]
                    have hi22:22<done.size:=by rw [hJ.sz];decide
                    have hs1:stB [20,22] (done.setIfInBounds 22 true)=[true,true]:=by
                     have e:=hs0;simp only [stB,List.map_cons,List.map_nil,List.cons.injEq,and_true] at e;simp only [stB,List.map_cons,List.map_nil,getD_set _ _ _ hi22,e,if_true,if_false,Nat.reduceEqDiff]
                    rw [hs0] at hv161;obtain ⟨hm,LL,hLL,hE⟩:=hv161 rfl;obtain ⟨ae,n9,ce,rfl⟩:=hE.form;obtain rfl:v162=.pointer (some ⟨gS,2,none⟩):=hv162;have hex:=hJ.ex;rw [hs0] at hex;obtain ⟨_,hG0,hV0,hT0,hL0,e3,hS3,_,_⟩:=hex;have hSl:=hS3.lt;have f2:=hS3.free 2;have c2:=hS3.cell 2;refine wpOp_step rfl fun K' hK=>?_
                    simp only [List.getElem_toArray,List.getElem_cons_zero,List.getElem_cons_succ];rw [if_pos (by simp [Region.wanted])];simp [Oper.wp,execOp,ev161,ev162,go_sem,f2,c2,hSl];have h9:=hJ.skip (i:=22) (v:=undef) rfl rfl hpre (hJ.bw.setCell (p:=⟨gS,2,none⟩) hgS (.slice ae n9 ce)) ?_ ?_
                    ·exact hK a' _ h9
                    ·rw [hs1];exact ⟨fun h0=>(by cases h0),hG0.other ⟨gS,2,none⟩ _ (by have:=HGS.out;show ws.heap.size≠gS;omega),own_set hV0 (own_ne hV0 hS3 (by decide)),own_set hT0 (own_ne hT0 hS3 (by decide)),hL0.other ⟨gS,2,none⟩ _ (by have:=HGS.out;show gL≠gS;omega),_,hS3.set 2 _,fun h0=>absurd rfl h0,fun _=>⟨hm,LL,hLL,hE.set hS3 (by decide) (by decide)⟩⟩
                    ·intro j q hq hj hdn d u hd hu hv;rw [hs0] at hv;rw [hs1];exact vRq3_sto j u hv
                 ·intro done a' w' hJ hd;obtain ⟨f,hf,hv⟩:=hJ.all hd;have hs1:stB [20,22] done=[true,true]:=stB_all hd (by kernel_rfl);have hex:=hJ.ex;rw [hs1] at hex;subst hf;simp only [putAll,List.size_toArray,List.length_cons,List.length_nil,Nat.reduceAdd,List.getElem?_toArray,List.getElem?_cons_zero,List.getElem?_cons_succ,Option.bind_some,Act.put,List.setIfInBounds_toArray,List.set_cons_zero,List.set_cons_succ];go_wp2_with fail
                  go_meet
                  exact ⟨hex,hJ.bw⟩
                case rest =>
                 obtain ⟨⟨_,hG4,hV4,hT4,hL4,e3,hS4,_,hE4⟩,hb4⟩:=hcut;obtain ⟨hne4,EL4,hEL4,hEO4⟩:=hE4 rfl;obtain ⟨wy,hwy⟩:∃wy,wy=wc:=⟨_,rfl⟩;subst hwy;have hb5:=hbu.trans hb4;have HE4:Hid (EL4.map (fun e=>e.1)=stQ g h Q (k+1)):=by rw [Hid,hEL4,hNL]
                 clear hEu hTu hVu hGu hLu hSu hbu hE4 hb4 HEL hne hEL4 hNL HW1;have HW2:Hid (ws.heap.size≤wy.heap.size):=hb5.size;go_upto_region 34 with fail
                 refine wp_region_invB (vRq4 gL tk k (some ⟨bq,oq+k,none⟩) (some ⟨bq,oq,none⟩) 4 pc tv e3 ws.heap.size (E tk) ((2*k:Nat):Int) (stT Q (k+1)) EL4) [10,12] ws.heap.size (fRq4 gS ws.heap.size gL p vv2 e3 tv ws.heap.size (stV vb rb (k+1)) (stT Q k) (stT Q (k+1)) EL4) 207 ?_ (by kernel_rfl) rfl (by kernel_rfl) ?_ ?_ (by kernel_rfl)
                 ·exact fRq4_st _ _ _ _ _ _ _ _ _ _ _ _ _ _ _ (Below.drew (Below.refl _ _)) ⟨fun _=>⟨hT4,hEO4⟩,hG4,hV4,hS4,tv,hL4,fun _=>rfl,fun h0=>(by cases h0)⟩
                 ·intro hsl done a' w' i o hJ ho hun hpre;have hi:=(Array.getElem?_eq_some_iff.1 ho).1;have hst:=vRq4_st gL tk k (some ⟨bq,oq+k,none⟩) (some ⟨bq,oq,none⟩) 4 pc tv e3 ws.heap.size (E tk) ((2*k:Nat):Int) (stT Q (k+1)) EL4;have hFt:=fRq4_st gS ws.heap.size gL p vv2 e3 tv ws.heap.size (stV vb rb (k+1)) (stT Q k) (stT Q (k+1)) EL4;have hwz:ws.heap.size≤w'.heap.size:=Nat.le_trans HW2.out hJ.bw.size
                  match i,hi,ho,hun,hpre with
                   | 0,_,ho,hun,hpre =>
                    simp at ho;subst ho;refine hJ.op (d:=163) hsl hst hFt hwz rfl rfl rfl (by decide) hpre ?_;simp only [List.getElem_toArray,List.getElem_cons_zero,List.getElem_cons_succ] at hpre ⊢;have q24:=hJ.keep 24 (.pointer (some ⟨gL,0,none⟩)) rfl (by kernel_rfl);refine wp_val (v:=.pointer (some ⟨gL,2,none⟩)) (by simp [execOp,q24,go_sem]) rfl
                   | 1,_,ho,hun,hpre =>
                    simp at ho;subst ho;refine hJ.op (d:=164) hsl hst hFt hwz rfl rfl rfl (by decide) hpre ?_;simp only [List.getElem_toArray,List.getElem_cons_zero,List.getElem_cons_succ] at hpre ⊢;obtain ⟨v163,ev163,hv163⟩:=hJ.dn 0 _ 163 rfl (hpre { on:=0,ground:=Ground.data } (by simp) rfl) rfl;have qv163:=eval_of ev163;obtain rfl:v163=.pointer (some ⟨gL,2,none⟩):=hv163;obtain ⟨_,_,_,_,t9,hL3,he3,_⟩:=hJ.ex
                    have hnA:stB [10,12] done≠[true,true]:=fun e=>by
                     have hL':done.getD 12 false=true:=by
                      simp only [stB,List.map_cons,List.map_nil,List.cons.injEq] at e;exact e.2.1
                     have:=hJ.pr 12 _ rfl hL' { on:=1,ground:=Ground.phase } (by simp) rfl;rw [this] at hun;cases hun
                    obtain rfl:=he3 hnA;have x2:=hL3.cell 2;refine wp_val (v:=t9) (by simp [execOp,ev163,go_sem,x2]) rfl
                   | 2,_,ho,hun,hpre =>
                    simp at ho;subst ho;refine hJ.op (d:=165) hsl hst hFt hwz rfl rfl rfl (by decide) hpre ?_;simp only [List.getElem_toArray,List.getElem_cons_zero,List.getElem_cons_succ] at hpre ⊢;have q3:=hJ.keep 3 (.slice (some ⟨bq,oq,none⟩) 4 pc) rfl (by kernel_rfl);refine wp_val (v:=.slice (some ⟨bq,oq,none⟩) 4 pc) (by simp [execOp,q3,go_sem]) rfl
                   | 3,_,ho,hun,hpre =>
                    simp at ho;subst ho;refine hJ.op (d:=166) hsl hst hFt hwz rfl rfl rfl (by decide) hpre ?_;simp only [List.getElem_toArray,List.getElem_cons_zero,List.getElem_cons_succ] at hpre ⊢;have q25:=hJ.keep 25 (.int .i64 (k:Int)) rfl (by kernel_rfl);refine wp_val (v:=.int .i64 (k:Int)) (by simp [execOp,q25,go_sem]) rfl
                   | 4,_,ho,hun,hpre =>
                    simp at ho;subst ho;refine hJ.op (d:=167) hsl hst hFt hwz rfl rfl rfl (by decide) hpre ?_;simp only [List.getElem_toArray,List.getElem_cons_zero,List.getElem_cons_succ] at hpre ⊢;obtain ⟨v165,ev165,hv165⟩:=hJ.dn 2 _ 165 rfl (hpre { on:=2,ground:=Ground.data } (by simp) rfl) rfl;have qv165:=eval_of ev165;obtain ⟨v166,ev166,hv166⟩:=hJ.dn 3 _ 166 rfl (hpre { on:=3,ground:=Ground.data } (by simp) rfl) rfl;have qv166:=eval_of ev166;obtain rfl:v165=.slice (some ⟨bq,oq,none⟩) 4 pc:=hv165;obtain rfl:v166=.int .i64 (k:Int):=hv166;refine wp_val (v:=.pointer (some ⟨bq,oq+k,none⟩)) (by simp [execOp,ev165,ev166,go_sem,h0k,h1k]) rfl
                   | 5,_,ho,hun,hpre =>
                    simp at ho;subst ho;refine hJ.op (d:=168) hsl hst hFt hwz rfl rfl rfl (by decide) hpre ?_;simp only [List.getElem_toArray,List.getElem_cons_zero,List.getElem_cons_succ] at hpre ⊢;obtain ⟨v167,ev167,hv167⟩:=hJ.dn 4 _ 167 rfl (hpre { on:=4,ground:=Ground.data } (by simp) rfl) rfl;have qv167:=eval_of ev167;obtain rfl:v167=.pointer (some ⟨bq,oq+k,none⟩):=hv167;have xq:=(((hb5).trans hJ.bw).cell (p:=⟨bq,oq+k,none⟩) HBL.out).trans HX1.out;refine wp_val (v:=.string (E tk)) (by simp [execOp,ev167,go_sem,xq]) rfl
                   | 6,_,ho,hun,hpre =>
                    simp at ho;subst ho;refine hJ.op (d:=169) hsl hst hFt hwz rfl rfl rfl (by decide) hpre ?_;simp only [List.getElem_toArray,List.getElem_cons_zero,List.getElem_cons_succ] at hpre ⊢;have q25:=hJ.keep 25 (.int .i64 (k:Int)) rfl (by kernel_rfl);refine wp_val (v:=.int .i64 (k:Int)) (by simp [execOp,q25,go_sem]) rfl
                   | 7,_,ho,hun,hpre =>
                    simp at ho;subst ho;refine hJ.op (d:=170) hsl hst hFt hwz rfl rfl rfl (by decide) hpre ?_;simp only [List.getElem_toArray,List.getElem_cons_zero,List.getElem_cons_succ] at hpre ⊢;obtain ⟨v169,ev169,hv169⟩:=hJ.dn 6 _ 169 rfl (hpre { on:=6,ground:=Ground.data } (by simp) rfl) rfl;have qv169:=eval_of ev169;obtain rfl:v169=.int .i64 (k:Int):=hv169;refine wp_val (v:=.int .i64 ((2*k:Nat):Int)) (by rcases (show k=0∨k=1∨k=2∨k=3 by omega) with rfl | rfl | rfl | rfl <;> (simp [execOp,ev169,go_sem];try rfl)) rfl
                   | 8,_,ho,hun,hpre =>
                    simp at ho;subst ho;refine hJ.op (d:=171) hsl hst hFt hwz rfl rfl rfl (by decide) hpre ?_;simp only [List.getElem_toArray,List.getElem_cons_zero,List.getElem_cons_succ] at hpre ⊢;obtain ⟨v168,ev168,hv168⟩:=hJ.dn 5 _ 168 rfl (hpre { on:=5,ground:=Ground.data } (by simp) rfl) rfl;have qv168:=eval_of ev168;obtain ⟨v170,ev170,hv170⟩:=hJ.dn 7 _ 170 rfl (hpre { on:=7,ground:=Ground.data } (by simp) rfl) rfl;have qv170:=eval_of ev170;obtain rfl:v168=.string (E tk):=hv168;obtain rfl:v170=.int .i64 ((2*k:Nat):Int):=hv170;refine wp_callX 66 #[.tmp 168,.tmp 170] #[22,3] rfl (enters_of Tryz.func66 (by kernel_rfl) rfl) ?_;simp only [List.map_toArray,List.map_cons,List.map_nil,qv168,qv170];refine (r27term_c (E tk) ((2*k:Nat):Int) w').mono ?_;rintro e w'' ⟨rfl,hb⟩;exact ⟨_,rfl,hb,rfl⟩
                   | 9,_,ho,hun,hpre =>
                    simp at ho;subst ho;refine hJ.op (d:=172) hsl hst hFt hwz rfl rfl rfl (by decide) hpre ?_;simp only [List.getElem_toArray,List.getElem_cons_zero,List.getElem_cons_succ] at hpre ⊢;obtain ⟨v171,ev171,hv171⟩:=hJ.dn 8 _ 171 rfl (hpre { on:=8,ground:=Ground.data } (by simp) rfl) rfl;have qv171:=eval_of ev171;obtain rfl:v171=.agg #[.string (E tk),.int .i64 ((2*k:Nat)),.bool false,.string (E 1)]:=hv171;have hN:=Blk.new w' #[.string (E tk),.int .i64 ((2*k:Nat)),.bool false,.string (E 1)] 118;simp [Oper.wp,execOp,ev171,go_sem];exact ⟨_,rfl,b1 _ _,fun _=>⟨w'.heap.size,rfl,hN⟩⟩
                   | 10,_,ho,hun,hpre =>
                    simp at ho;subst ho;simp only [List.getElem_toArray,List.getElem_cons_zero,List.getElem_cons_succ] at hpre;obtain ⟨v164,ev164,hv164⟩:=hJ.dn 1 _ 164 rfl (hpre { on:=1,ground:=Ground.data } (by simp) rfl) rfl;have qv164:=eval_of ev164;obtain ⟨v172,ev172,hv172⟩:=hJ.dn 9 _ 172 rfl (hpre { on:=9,ground:=Ground.data } (by simp) rfl) rfl;have qv172:=eval_of ev172
                    have hs0:stB [10,12] done=[false,false]:=by
                     have k10:done.getD 10 false=false:=hun
                     have k12:done.getD 12 false=false:=by
                      cases a12:done.getD 12 false with
                      | false=>rfl
                      | true =>
                       have a10:=hJ.pr 12 _ rfl a12 { on:=10,ground:=Ground.data } (by simp) rfl;rw [hun] at a10;cases a10
                     simp only [stB,List.map_cons,List.map_nil,k10,k12]
                    have hi10:10<done.size:=by rw [hJ.sz];decide
                    have hs1:stB [10,12] (done.setIfInBounds 10 true)=[true,false]:=by
                     have e:=hs0;simp only [stB,List.map_cons,List.map_nil,List.cons.injEq,and_true] at e;simp only [stB,List.map_cons,List.map_nil,getD_set _ _ _ hi10,e,if_true,if_false,Nat.reduceEqDiff]
                    rw [hs0] at hv172;obtain ⟨b,rfl,hN⟩:=hv172 rfl;have hx9:v164=tv:=hv164;clear hv164;have hex:=hJ.ex;rw [hs0] at hex;obtain ⟨hE0,hG0,hV0,hS0,t9,hL3,he3,_⟩:=hex;obtain ⟨hT1,hE1⟩:=hE0 rfl
                    have hT2:w'.ownsRow ws.heap.size 118 4 tv k ((stT Q k).flatMap tcs):=by
                     have h:=hT1;unfold TOwn at h;rwa [stT_len] at h
                    refine wpOp_step rfl fun K' hK=>?_
                    simp only [List.getElem_toArray,List.getElem_cons_zero,List.getElem_cons_succ];refine step_append_lies _ rfl (.tmp 164) (.tmp 172) 111 rfl ws.heap.size 118 i3 _ 4 48 Tryz.underlying111 HI3.out HA3.out HB3.out HC3.out rfl (by omega) tv k ((stT Q k).flatMap tcs) (qv164.trans hx9) hT2 ⟨b,0,none⟩ 1 1 [.string (E tk),.int .i64 ((2*k:Nat)),.bool false,.string (E 1)] qv172 rfl hN.cells (by simp [Value.oneCell']) (by omega) (by simp only [maxLen];omega) (by omega) hwz w'.heap.size rfl fun gE cE w'' hown hgrow hat hlt=>hK _ _ ?_
                    refine hJ.put (d:=173) hsl rfl rfl hpre (Below.grown hJ.bw hgrow hwz (fun g' hg'=>(own_lt hT2 hg').2)) ?_ ?_ ?_
                    ·rw [hs1];exact ⟨fun h0=>(by cases h0),Blk.grown hG0 hgrow (own_ne hT2 hG0 (by decide)),own_grown hV0 hT2 (by decide) hgrow,Blk.grown hS0 hgrow (own_ne hT2 hS0 (by decide)),t9,Blk.grown hL3 hgrow (own_ne hT2 hL3 (by decide)),fun _=>he3 (by decide),fun h0=>(by cases h0)⟩
                    ·intro j q hq hj hdn u h;rw [hs0] at h;rw [hs1];exact vRq4_ap j u hj h
                    ·rw [hs1];intro _;refine ⟨⟨_,_,_,rfl⟩,?_,hE1.terms hT2 hgrow hat⟩;unfold TOwn;rw [stT_snoc,List.length_append,stT_len,List.flatMap_append,HTK.out];exact hown
                   | 11,_,ho,hun,hpre =>
                    simp at ho;subst ho;refine hJ.op (d:=174) hsl hst hFt hwz rfl rfl rfl (by decide) hpre ?_;simp only [List.getElem_toArray,List.getElem_cons_zero,List.getElem_cons_succ] at hpre ⊢;have q24:=hJ.keep 24 (.pointer (some ⟨gL,0,none⟩)) rfl (by kernel_rfl);refine wp_val (v:=.pointer (some ⟨gL,2,none⟩)) (by simp [execOp,q24,go_sem]) rfl
                   | 12,_,ho,hun,hpre =>
                    simp at ho;subst ho;simp only [List.getElem_toArray,List.getElem_cons_zero,List.getElem_cons_succ] at hpre;obtain ⟨v173,ev173,hv173⟩:=hJ.dn 10 _ 173 rfl (hpre { on:=10,ground:=Ground.data } (by simp) rfl) rfl;have qv173:=eval_of ev173;obtain ⟨v174,ev174,hv174⟩:=hJ.dn 11 _ 174 rfl (hpre { on:=11,ground:=Ground.data } (by simp) rfl) rfl;have qv174:=eval_of ev174;have a10:=hpre { on:=10,ground:=Ground.data } (by simp) rfl
                    have hs0:stB [10,12] done=[true,false]:=by
                     have k12:done.getD 12 false=false:=hun;simp only [stB,List.map_cons,List.map_nil,a10,k12]
                    have hi12:12<done.size:=by rw [hJ.sz];decide
                    have hs1:stB [10,12] (done.setIfInBounds 12 true)=[true,true]:=by
                     have e:=hs0;simp only [stB,List.map_cons,List.map_nil,List.cons.injEq,and_true] at e;simp only [stB,List.map_cons,List.map_nil,getD_set _ _ _ hi12,e,if_true,if_false,Nat.reduceEqDiff]
                    rw [hs0] at hv173;obtain ⟨⟨ae,n9,ce,rfl⟩,hT,hE⟩:=hv173 rfl;obtain rfl:v174=.pointer (some ⟨gL,2,none⟩):=hv174;have hex:=hJ.ex;rw [hs0] at hex;obtain ⟨_,hG0,hV0,hS0,t9,hL3,_,_⟩:=hex;have hLl:=hL3.lt;have f2:=hL3.free 2;have c2:=hL3.cell 2;have hgL:ws.heap.size≤gL:=by have:=HGS.out;omega
                    refine wpOp_step rfl fun K' hK=>?_
                    simp only [List.getElem_toArray,List.getElem_cons_zero,List.getElem_cons_succ];rw [if_pos (by simp [Region.wanted])];simp [Oper.wp,execOp,ev173,ev174,go_sem,f2,c2,hLl];have h9:=hJ.skip (i:=12) (v:=undef) rfl rfl hpre (hJ.bw.setCell (p:=⟨gL,2,none⟩) hgL (.slice ae n9 ce)) ?_ ?_
                    ·exact hK a' _ h9
                    ·rw [hs1];exact ⟨fun h0=>(by cases h0),hG0.other ⟨gL,2,none⟩ _ (by have:=HGS.out;show ws.heap.size≠gL;omega),own_set hV0 (own_ne hV0 hL3 (by decide)),hS0.other ⟨gL,2,none⟩ _ (by have:=HGS.out;show gS≠gL;omega),_,hL3.set 2 _,fun h0=>absurd rfl h0,fun _=>⟨own_set hT (own_ne hT hL3 (by decide)),hE.setE hL3 hne4 (by decide)⟩⟩
                    ·intro j q hq hj hdn d u hd hu hv;rw [hs0] at hv;rw [hs1];exact vRq4_sto j u hv
                 ·intro done a' w' hJ hd;obtain ⟨f,hf,hv⟩:=hJ.all hd;have hs1:stB [10,12] done=[true,true]:=stB_all hd (by kernel_rfl);have hex:=hJ.ex;rw [hs1] at hex;subst hf;obtain ⟨_,hG6,hV6,hS6,t6,hL6,_,hE6⟩:=hex;obtain ⟨hT6,hEO6⟩:=hE6 rfl;have hb7:=hb5.trans hJ.bw;simp only [putAll,List.size_toArray,List.length_cons,List.length_nil,Nat.reduceAdd,List.getElem?_toArray,List.getElem?_cons_zero,List.getElem?_cons_succ,Option.bind_some,Act.put,List.setIfInBounds_toArray,List.set_cons_zero,List.set_cons_succ];clear hG4 hV4 hT4 hL4 hS4 hEO4 hb5 hE6 HW2 hJ hv hd hs1;go_wp2;go_roundw
                  case rel=>exact ⟨k+1,vv2,e3,t6,EL4,by omega,by go_num,HE4,hS6,hG6,hL6,hV6,hEO6,hT6,hne4,hb7⟩
                  case measure=>simp [intOf];omega
               ·obtain rfl:k=4:=by omega
                go_upto_region 35 with fail
                clear hlt hk;have hsz8:=hbr.size;have hgS:ws.heap.size≤gS:=Nat.le_of_lt HGS.out.1;have hgL:ws.heap.size≤gL:=by have:=HGS.out;omega
                have hbV:=b1 wp2 (.cells #[.string (E (lastB vb rb))] 113);have hVJ:(wp2.alloc (.cells #[.string (E (lastB vb rb))] 113)).ownsRow ws.heap.size 113 1 vv 8 (strs (stV vb rb 4)):=own_after hVO hbV;have hSJ:=hS.after hbV;obtain ⟨hSc0,hSf0,hSc1,hSf1,hSc2,hSf2⟩:=hS.x3;go_upto_region 36 with (at_builtin;go_loud (refine wpList_append_lies _ rfl (.tmp 176) (.tmp 179) 58 rfl ws.heap.size 113 i2 _ 1 16 Tryz.underlying58 HI2.out HA2.out HB2.out HC2.out rfl (by omega) vv 8 (strs (stV vb rb 4)) rfl hVJ ⟨wp2.heap.size,0,none⟩ 1 1 [.string (E (lastB vb rb))] rfl rfl (Blk.new wp2 #[.string (E (lastB vb rb))] 113).cells (by simp [Value.oneCell']) (by omega) (by simp only [maxLen];omega) (by omega) (by rw [World.size_alloc];omega) (wp2.heap.size+1) (by simp) ?_);intro gv cv wv hownV hgrowV hatV hltV;have hSv:=Blk.grown hSJ hgrowV (own_ne hVJ hSJ (by decide));obtain ⟨hSvc0,hSvf0,hSvc1,hSvf1,hSvc2,hSvf2⟩:=hSv.x3;have hSvl:=hSv.lt)
                have hSv:=Blk.grown hSJ hgrowV (own_ne hVJ hSJ (by decide));have hGJ:=hG.after hbV;have hGv:=Blk.grown hGJ hgrowV (own_ne hVJ hGJ (by decide));have hLJ:=hL.after hbV;have hLv:=Blk.grown hLJ hgrowV (own_ne hVJ hLJ (by decide));have hEv:=(hEO.after hbV).other hVJ (by decide) (by decide) hgrowV;have hTv:TOwn wv ws.heap.size tv (stT Q 4):=own_grown (hTO.after hbV) hVJ (by decide) hgrowV;have hbv:Below ws.heap.size ws wv:=Below.grown (ba hbr (.cells #[.string (E (lastB vb rb))] 113)) hgrowV (by rw [World.size_alloc];omega) (fun y hy=>(own_lt hVO hy).2);have hVv:VOwn wv ws.heap.size (.slice (some ⟨gv,0,none⟩) 9 cv) (stV vb rb 4++[lastB vb rb]):=hownV;clear hVJ hSJ hGJ hLJ hVO hS hG hL hEO hTO hbr hbV hownV hgrowV hatV hltV;clear hSc0 hSf0 hSc1 hSf1 hSc2 hSf2;have hEu:=hEv.set (i:=1) (u:=.slice (some ⟨gv,0,none⟩) 9 cv) hSv (by decide) (by decide);have hTu:TOwn (wv.setCell ⟨gS,1,none⟩ (.slice (some ⟨gv,0,none⟩) 9 cv)) ws.heap.size tv (stT Q 4):=own_set hTv (own_ne hTv hSv (by decide));have hVu:VOwn (wv.setCell ⟨gS,1,none⟩ (.slice (some ⟨gv,0,none⟩) 9 cv)) ws.heap.size (.slice (some ⟨gv,0,none⟩) 9 cv) (stV vb rb 4++[lastB vb rb]):=own_set hVv (own_ne hVv hSv (by decide));have hGu:=hGv.other ⟨gS,1,none⟩ (.slice (some ⟨gv,0,none⟩) 9 cv) (by have:=HGS.out;show ws.heap.size≠gS;omega);have hLu:=hLv.other ⟨gS,1,none⟩ (.slice (some ⟨gv,0,none⟩) 9 cv) (by have:=HGS.out;show gL≠gS;omega);have hSu:=hSv.set 1 (.slice (some ⟨gv,0,none⟩) 9 cv);have hbu:=hbv.setCell (p:=⟨gS,1,none⟩) hgS (.slice (some ⟨gv,0,none⟩) 9 cv);generalize wv.setCell ⟨gS,1,none⟩ (.slice (some ⟨gv,0,none⟩) 9 cv)=wu at hEu hTu hVu hGu hLu hSu hbu ⊢;replace hSu:Blk wu gS 61 [.slice (some ⟨ws.heap.size,0,none⟩) 1 1,.slice (some ⟨gv,0,none⟩) 9 cv,ev]:=hSu;clear hEv hTv hVv hGv hSv hLv hbv;generalize (.slice (some ⟨gv,0,none⟩) 9 cv:Value)=vv2 at hVu hSu ⊢;have HW1:Hid (ws.heap.size≤wu.heap.size):=hbu.size;go_cut [] (fun wy=>fRq4 gS ws.heap.size gL p vv2 ev tv ws.heap.size (stV vb rb 4++[lastB vb rb]) (stT Q 4) (stT Q 4++[t1 h 8]) EL [true,true] wy∧Below ws.heap.size wu wy)
                case first =>
                 refine wp_region_invB (vRq5 gL w.heap.size tv ev ws.heap.size (E h) 8 (stT Q 4++[t1 h 8]) EL) [6,8] ws.heap.size (fRq4 gS ws.heap.size gL p vv2 ev tv ws.heap.size (stV vb rb 4++[lastB vb rb]) (stT Q 4) (stT Q 4++[t1 h 8]) EL) 207 ?_ (by kernel_rfl) rfl (by kernel_rfl) ?_ ?_ (by kernel_rfl)
                 ·exact fRq4_st _ _ _ _ _ _ _ _ _ _ _ _ _ _ _ (Below.drew (Below.refl _ _)) ⟨fun _=>⟨hTu,hEu⟩,hGu,hVu,hSu,tv,hLu,fun _=>rfl,fun h0=>(by cases h0)⟩
                 ·intro hsl done a' w' i o hJ ho hun hpre;have hi:=(Array.getElem?_eq_some_iff.1 ho).1;have hst:=vRq5_st gL w.heap.size tv ev ws.heap.size (E h) 8 (stT Q 4++[t1 h 8]) EL;have hFt:=fRq4_st gS ws.heap.size gL p vv2 ev tv ws.heap.size (stV vb rb 4++[lastB vb rb]) (stT Q 4) (stT Q 4++[t1 h 8]) EL;have hwz:ws.heap.size≤w'.heap.size:=Nat.le_trans HW1.out hJ.bw.size
                  match i,hi,ho,hun,hpre with
                    | 0,_,ho,hun,hpre =>
                     simp at ho;subst ho;refine hJ.op (d:=182) hsl hst hFt hwz rfl rfl rfl (by decide) hpre ?_;simp only [List.getElem_toArray,List.getElem_cons_zero,List.getElem_cons_succ] at hpre ⊢;have q24:=hJ.keep 24 (.pointer (some ⟨gL,0,none⟩)) rfl (by kernel_rfl);refine wp_val (v:=.pointer (some ⟨gL,2,none⟩)) (by simp [execOp,q24,go_sem]) rfl
                    | 1,_,ho,hun,hpre =>
                     simp at ho;subst ho;refine hJ.op (d:=183) hsl hst hFt hwz rfl rfl rfl (by decide) hpre ?_;simp only [List.getElem_toArray,List.getElem_cons_zero,List.getElem_cons_succ] at hpre ⊢;obtain ⟨v182,ev182,hv182⟩:=hJ.dn 0 _ 182 rfl (hpre { on:=0,ground:=Ground.data } (by simp) rfl) rfl;have qv182:=eval_of ev182;obtain rfl:v182=.pointer (some ⟨gL,2,none⟩):=hv182;obtain ⟨_,_,_,_,t9,hL3,he3,_⟩:=hJ.ex
                     have hnA:stB [6,8] done≠[true,true]:=fun e=>by
                      have hL':done.getD 8 false=true:=by
                       simp only [stB,List.map_cons,List.map_nil,List.cons.injEq] at e;exact e.2.1
                      have:=hJ.pr 8 _ rfl hL' { on:=1,ground:=Ground.phase } (by simp) rfl;rw [this] at hun;cases hun
                     obtain rfl:=he3 hnA;have x2:=hL3.cell 2;refine wp_val (v:=t9) (by simp [execOp,ev182,go_sem,x2]) rfl
                    | 2,_,ho,hun,hpre =>
                     simp at ho;subst ho;refine hJ.op (d:=184) hsl hst hFt hwz rfl rfl rfl (by decide) hpre ?_;simp only [List.getElem_toArray,List.getElem_cons_zero,List.getElem_cons_succ] at hpre ⊢;have q6:=hJ.keep 6 (.pointer (some ⟨w.heap.size,0,none⟩)) rfl (by kernel_rfl);refine wp_val (v:=.pointer (some ⟨w.heap.size,3,none⟩)) (by simp [execOp,q6,go_sem]) rfl
                    | 3,_,ho,hun,hpre =>
                     simp at ho;subst ho;refine hJ.op (d:=185) hsl hst hFt hwz rfl rfl rfl (by decide) hpre ?_;simp only [List.getElem_toArray,List.getElem_cons_zero,List.getElem_cons_succ] at hpre ⊢;obtain ⟨v184,ev184,hv184⟩:=hJ.dn 2 _ 184 rfl (hpre { on:=2,ground:=Ground.data } (by simp) rfl) rfl;have qv184:=eval_of ev184;have hBx:=hB.after (hbu.trans hJ.bw);have hBl:=hBx.lt;have x2:=hBx.cell 2;have x3:=hBx.cell 3;obtain rfl:v184=.pointer (some ⟨w.heap.size,3,none⟩):=hv184;refine wp_val (v:=.string (E h)) (by simp [execOp,ev184,go_sem,x3]) rfl
                    | 4,_,ho,hun,hpre =>
                     simp at ho;subst ho;refine hJ.op (d:=186) hsl hst hFt hwz rfl rfl rfl (by decide) hpre ?_;simp only [List.getElem_toArray,List.getElem_cons_zero,List.getElem_cons_succ] at hpre ⊢;obtain ⟨v185,ev185,hv185⟩:=hJ.dn 3 _ 185 rfl (hpre { on:=3,ground:=Ground.data } (by simp) rfl) rfl;have qv185:=eval_of ev185;obtain rfl:v185=.string (E h):=hv185;refine wp_callX 66 #[.tmp 185,.const (.int .i64 8)] #[22,3] rfl (enters_of Tryz.func66 (by kernel_rfl) rfl) ?_;simp only [List.map_toArray,List.map_cons,List.map_nil,qv185,eval_const];refine (r27term_c (E h) 8 w').mono ?_;rintro e w'' ⟨rfl,hb⟩;exact ⟨_,rfl,hb,rfl⟩
                    | 5,_,ho,hun,hpre =>
                     simp at ho;subst ho;refine hJ.op (d:=187) hsl hst hFt hwz rfl rfl rfl (by decide) hpre ?_;simp only [List.getElem_toArray,List.getElem_cons_zero,List.getElem_cons_succ] at hpre ⊢;obtain ⟨v186,ev186,hv186⟩:=hJ.dn 4 _ 186 rfl (hpre { on:=4,ground:=Ground.data } (by simp) rfl) rfl;have qv186:=eval_of ev186;obtain rfl:v186=.agg #[.string (E h),.int .i64 (8),.bool false,.string (E 1)]:=hv186;have hN:=Blk.new w' #[.string (E h),.int .i64 (8),.bool false,.string (E 1)] 118;simp [Oper.wp,execOp,ev186,go_sem];exact ⟨_,rfl,b1 _ _,fun _=>⟨w'.heap.size,rfl,hN⟩⟩
                    | 6,_,ho,hun,hpre =>
                     simp at ho;subst ho;simp only [List.getElem_toArray,List.getElem_cons_zero,List.getElem_cons_succ] at hpre;obtain ⟨v183,ev183,hv183⟩:=hJ.dn 1 _ 183 rfl (hpre { on:=1,ground:=Ground.data } (by simp) rfl) rfl;have qv183:=eval_of ev183;obtain ⟨v187,ev187,hv187⟩:=hJ.dn 5 _ 187 rfl (hpre { on:=5,ground:=Ground.data } (by simp) rfl) rfl;have qv187:=eval_of ev187
                     have hs0:stB [6,8] done=[false,false]:=by
                      have k6:done.getD 6 false=false:=hun
                      have k8:done.getD 8 false=false:=by
                       cases a8:done.getD 8 false with
                       | false=>rfl
                       | true =>
                        have a6:=hJ.pr 8 _ rfl a8 { on:=6,ground:=Ground.data } (by simp) rfl;rw [hun] at a6;cases a6
                      simp only [stB,List.map_cons,List.map_nil,k6,k8]
                     have hi6:6<done.size:=by rw [hJ.sz];decide
                     have hs1:stB [6,8] (done.setIfInBounds 6 true)=[true,false]:=by
                      have e:=hs0;simp only [stB,List.map_cons,List.map_nil,List.cons.injEq,and_true] at e;simp only [stB,List.map_cons,List.map_nil,getD_set _ _ _ hi6,e,if_true,if_false,Nat.reduceEqDiff]
                     rw [hs0] at hv187;obtain ⟨b,rfl,hN⟩:=hv187 rfl;have hx9:v183=tv:=hv183;clear hv183;have hex:=hJ.ex;rw [hs0] at hex;obtain ⟨hE0,hG0,hV0,hS0,t9,hL3,he3,_⟩:=hex;obtain ⟨hT1,hE1⟩:=hE0 rfl
                     have hT2:w'.ownsRow ws.heap.size 118 4 tv 4 ((stT Q 4).flatMap tcs):=by
                      have h:=hT1;unfold TOwn at h;rwa [stT_len] at h
                     refine wpOp_step rfl fun K' hK=>?_
                     simp only [List.getElem_toArray,List.getElem_cons_zero,List.getElem_cons_succ];refine step_append_lies _ rfl (.tmp 183) (.tmp 187) 111 rfl ws.heap.size 118 i3 _ 4 48 Tryz.underlying111 HI3.out HA3.out HB3.out HC3.out rfl (by omega) tv 4 ((stT Q 4).flatMap tcs) (qv183.trans hx9) hT2 ⟨b,0,none⟩ 1 1 [.string (E h),.int .i64 (8),.bool false,.string (E 1)] qv187 rfl hN.cells (by simp [Value.oneCell']) (by omega) (by simp only [maxLen];omega) (by omega) hwz w'.heap.size rfl fun gE cE w'' hown hgrow hat hlt=>hK _ _ ?_
                     refine hJ.put (d:=188) hsl rfl rfl hpre (Below.grown hJ.bw hgrow hwz (fun g' hg'=>(own_lt hT2 hg').2)) ?_ ?_ ?_
                     ·rw [hs1];exact ⟨fun h0=>(by cases h0),Blk.grown hG0 hgrow (own_ne hT2 hG0 (by decide)),own_grown hV0 hT2 (by decide) hgrow,Blk.grown hS0 hgrow (own_ne hT2 hS0 (by decide)),t9,Blk.grown hL3 hgrow (own_ne hT2 hL3 (by decide)),fun _=>he3 (by decide),fun h0=>(by cases h0)⟩
                     ·intro j q hq hj hdn u h;rw [hs0] at h;rw [hs1];exact vRq5_ap j u hj h
                     ·rw [hs1];intro _;refine ⟨⟨_,_,_,rfl⟩,?_,hE1.terms hT2 hgrow hat⟩;unfold TOwn;rw [List.length_append,stT_len,List.flatMap_append];exact hown
                    | 7,_,ho,hun,hpre =>
                     simp at ho;subst ho;refine hJ.op (d:=189) hsl hst hFt hwz rfl rfl rfl (by decide) hpre ?_;simp only [List.getElem_toArray,List.getElem_cons_zero,List.getElem_cons_succ] at hpre ⊢;have q24:=hJ.keep 24 (.pointer (some ⟨gL,0,none⟩)) rfl (by kernel_rfl);refine wp_val (v:=.pointer (some ⟨gL,2,none⟩)) (by simp [execOp,q24,go_sem]) rfl
                    | 8,_,ho,hun,hpre =>
                     simp at ho;subst ho;simp only [List.getElem_toArray,List.getElem_cons_zero,List.getElem_cons_succ] at hpre;obtain ⟨v188,ev188,hv188⟩:=hJ.dn 6 _ 188 rfl (hpre { on:=6,ground:=Ground.data } (by simp) rfl) rfl;have qv188:=eval_of ev188;obtain ⟨v189,ev189,hv189⟩:=hJ.dn 7 _ 189 rfl (hpre { on:=7,ground:=Ground.data } (by simp) rfl) rfl;have qv189:=eval_of ev189;have a6:=hpre { on:=6,ground:=Ground.data } (by simp) rfl
                     have hs0:stB [6,8] done=[true,false]:=by
                      have k8:done.getD 8 false=false:=hun;simp only [stB,List.map_cons,List.map_nil,a6,k8]
                     have hi8:8<done.size:=by rw [hJ.sz];decide
                     have hs1:stB [6,8] (done.setIfInBounds 8 true)=[true,true]:=by
                      have e:=hs0;simp only [stB,List.map_cons,List.map_nil,List.cons.injEq,and_true] at e;simp only [stB,List.map_cons,List.map_nil,getD_set _ _ _ hi8,e,if_true,if_false,Nat.reduceEqDiff]
                     rw [hs0] at hv188;obtain ⟨⟨ae,n9,ce,rfl⟩,hT,hE⟩:=hv188 rfl;obtain rfl:v189=.pointer (some ⟨gL,2,none⟩):=hv189;have hex:=hJ.ex;rw [hs0] at hex;obtain ⟨_,hG0,hV0,hS0,t9,hL3,_,_⟩:=hex;have hLl:=hL3.lt;have f2:=hL3.free 2;have c2:=hL3.cell 2;have hgL:ws.heap.size≤gL:=by have:=HGS.out;omega
                     refine wpOp_step rfl fun K' hK=>?_
                     simp only [List.getElem_toArray,List.getElem_cons_zero,List.getElem_cons_succ];rw [if_pos (by simp [Region.wanted])];simp [Oper.wp,execOp,ev188,ev189,go_sem,f2,c2,hLl];have h9:=hJ.skip (i:=8) (v:=undef) rfl rfl hpre (hJ.bw.setCell (p:=⟨gL,2,none⟩) hgL (.slice ae n9 ce)) ?_ ?_
                     ·exact hK a' _ h9
                     ·rw [hs1];exact ⟨fun h0=>(by cases h0),hG0.other ⟨gL,2,none⟩ _ (by have:=HGS.out;show ws.heap.size≠gL;omega),own_set hV0 (own_ne hV0 hL3 (by decide)),hS0.other ⟨gL,2,none⟩ _ (by have:=HGS.out;show gS≠gL;omega),_,hL3.set 2 _,fun h0=>absurd rfl h0,fun _=>⟨own_set hT (own_ne hT hL3 (by decide)),hE.setE hL3 hne (by decide)⟩⟩
                     ·intro j q hq hj hdn d u hd hu hv;rw [hs0] at hv;rw [hs1];exact vRq5_sto j u hv
                 ·intro done a' w' hJ hd;obtain ⟨f,hf,hv⟩:=hJ.all hd;have hs1:stB [6,8] done=[true,true]:=stB_all hd (by kernel_rfl);have hex:=hJ.ex;rw [hs1] at hex;subst hf;simp only [putAll,List.size_toArray,List.length_cons,List.length_nil,Nat.reduceAdd,List.getElem?_toArray,List.getElem?_cons_zero,List.getElem?_cons_succ,Option.bind_some,Act.put,List.setIfInBounds_toArray,List.set_cons_zero,List.set_cons_succ];go_wp2_with fail
                  go_meet
                  exact ⟨hex,hJ.bw⟩
                case rest =>
                 obtain ⟨⟨_,hG6,hV6,hS6,t6,hL6,_,hE6⟩,hb6⟩:=hcut;obtain ⟨hT6,hEO6⟩:=hE6 rfl;obtain ⟨wy,hwy⟩:∃wy,wy=wc:=⟨_,rfl⟩;subst hwy;have hb7:=hbu.trans hb6;clear hEu hTu hVu hGu hLu hSu hbu hb6 hE6 HW1;have HW2:Hid (ws.heap.size≤wy.heap.size):=hb7.size;obtain ⟨tgt,htg⟩:∃t,t=shiftN p c1 g (-lo):=⟨_,rfl⟩;have HTG:=Lib.hid htg;have HOF:Hid (∀w:World,Calls Tryz.prog 52 #[.int .i64 lo] w fun e w'=>e=.returned (.agg #[.bool (sg (lo)),.string (E (lo).natAbs)])∧Below w.heap.size w w'):=fun w=>riof_c lo w (by have:=HLO.out;omega) (by have:=HLO.out;omega)
                 have HNG:Hid (∀w:World,Calls Tryz.prog 68 #[.agg #[.bool (sg (lo)),.string (E (lo).natAbs)]] w fun e w'=>e=.returned (.agg #[.bool (sg (-lo)),.string (E (-lo).natAbs)])∧Below w.heap.size w w'):=fun w=>rineg_c lo w (lo128 HLO.out)
                 have HSH:Hid (∀w:World,Calls Tryz.prog 67 #[.agg #[.string (E p),.string (E 0),.string (E g),.string (E h)],.string (E c1),.agg #[.bool (sg (-lo)),.string (E (-lo).natAbs)]] w fun e w'=>e=.returned (.tuple #[.string (E tgt),.int .i64 0])∧Below w.heap.size w w'):=fun w=>by
                  rw [htg];exact r14shift_c p 0 g h c1 (-lo) w HKEY.out.1.1 (by decide) HKEY.out.1.2.1 HKEY.out.1.2.2 (Nat.lt_of_lt_of_le HCB.out (Nat.pow_le_pow_right (by decide) (by decide))) (by rw [Int.natAbs_neg];exact lo128 HLO.out) HKEY.out.2 HHD1.out (ped_two HKEY.out.2).2.2.2.1
                 clear htg;go_upto_region 37 with fail
                 go_cut [] (fun wy2=>fRq6 gS ws.heap.size gL p tgt vv2 ev t6 ws.heap.size (stV vb rb 4++[lastB vb rb]) (stT Q 4++[t1 h 8]) EL [true] wy2∧Below ws.heap.size wy wy2)
                 case first =>
                  refine wp_region_invB (vRq6 gL (.agg #[.string (E p),.string (E 0),.string (E g),.string (E h)]) c1 tgt lo) [10] ws.heap.size (fRq6 gS ws.heap.size gL p tgt vv2 ev t6 ws.heap.size (stV vb rb 4++[lastB vb rb]) (stT Q 4++[t1 h 8]) EL) 207 ?_ (by kernel_rfl) rfl (by kernel_rfl) ?_ ?_ (by kernel_rfl)
                  ·exact fRq6_st _ _ _ _ _ _ _ _ _ _ _ _ _ _ _ (Below.drew (Below.refl _ _)) ⟨hT6,hEO6,hG6,hV6,hS6,_,hL6,fun h0=>(by cases h0)⟩
                  ·intro hsl done a' w' i o hJ ho hun hpre;have hi:=(Array.getElem?_eq_some_iff.1 ho).1;have hst:=vRq6_st gL (.agg #[.string (E p),.string (E 0),.string (E g),.string (E h)]) c1 tgt lo;have hFt:=fRq6_st gS ws.heap.size gL p tgt vv2 ev t6 ws.heap.size (stV vb rb 4++[lastB vb rb]) (stT Q 4++[t1 h 8]) EL;have hwz:ws.heap.size≤w'.heap.size:=Nat.le_trans HW2.out hJ.bw.size
                   match i,hi,ho,hun,hpre with
                     | 0,_,ho,hun,hpre =>
                      simp at ho;subst ho;refine hJ.op (d:=191) hsl hst hFt hwz rfl rfl rfl (by decide) hpre ?_;simp only [List.getElem_toArray,List.getElem_cons_zero,List.getElem_cons_succ] at hpre ⊢;have q6:=hJ.keep 6 (.pointer (some ⟨w.heap.size,0,none⟩)) rfl (by kernel_rfl);have hBx:=hB.after (hb7.trans hJ.bw);have hBl:=hBx.lt;have x0:=hBx.cell 0;have x1:=hBx.cell 1;have x2:=hBx.cell 2;have x3:=hBx.cell 3;refine wp_val (v:=.agg #[.string (E p),.string (E 0),.string (E g),.string (E h)]) (by simp [execOp,q6,go_sem,x0,x1,x2,x3]) rfl
                     | 1,_,ho,hun,hpre =>
                      simp at ho;subst ho;refine hJ.op (d:=192) hsl hst hFt hwz rfl rfl rfl (by decide) hpre ?_;simp only [List.getElem_toArray,List.getElem_cons_zero,List.getElem_cons_succ] at hpre ⊢;have q2:=hJ.keep 2 (.string (E c1)) rfl (by kernel_rfl);refine wp_val (v:=.string (E c1)) (by simp [execOp,q2,go_sem]) rfl
                     | 2,_,ho,hun,hpre =>
                      simp at ho;subst ho;refine hJ.op (d:=193) hsl hst hFt hwz rfl rfl rfl (by decide) hpre ?_;simp only [List.getElem_toArray,List.getElem_cons_zero,List.getElem_cons_succ] at hpre ⊢;have q1:=hJ.keep 1 (.int .i64 lo) rfl (by kernel_rfl);refine wp_val (v:=.int .i64 lo) (by simp [execOp,q1,go_sem]) rfl
                     | 3,_,ho,hun,hpre =>
                      simp at ho;subst ho;refine hJ.op (d:=194) hsl hst hFt hwz rfl rfl rfl (by decide) hpre ?_;simp only [List.getElem_toArray,List.getElem_cons_zero,List.getElem_cons_succ] at hpre ⊢;obtain ⟨v193,ev193,hv193⟩:=hJ.dn 2 _ 193 rfl (hpre { on:=2,ground:=Ground.data } (by simp) rfl) rfl;have qv193:=eval_of ev193;obtain rfl:v193=.int .i64 lo:=hv193;refine wp_callX 52 #[.tmp 193] #[2] rfl (enters_of Tryz.func52 (by kernel_rfl) rfl) ?_;simp only [List.map_toArray,List.map_cons,List.map_nil,qv193];refine (HOF.out w').mono ?_;rintro e w'' ⟨rfl,hb⟩;exact ⟨_,rfl,hb,rfl⟩
                     | 4,_,ho,hun,hpre =>
                      simp at ho;subst ho;refine hJ.op (d:=195) hsl hst hFt hwz rfl rfl rfl (by decide) hpre ?_;simp only [List.getElem_toArray,List.getElem_cons_zero,List.getElem_cons_succ] at hpre ⊢;obtain ⟨v194,ev194,hv194⟩:=hJ.dn 3 _ 194 rfl (hpre { on:=3,ground:=Ground.data } (by simp) rfl) rfl;have qv194:=eval_of ev194;obtain rfl:v194=.agg #[.bool (sg (lo)),.string (E (lo).natAbs)]:=hv194;refine wp_callX 68 #[.tmp 194] #[28] rfl (enters_of Tryz.func68 (by kernel_rfl) rfl) ?_;simp only [List.map_toArray,List.map_cons,List.map_nil,qv194];refine (HNG.out w').mono ?_;rintro e w'' ⟨rfl,hb⟩;exact ⟨_,rfl,hb,rfl⟩
                     | 5,_,ho,hun,hpre =>
                      simp at ho;subst ho;refine hJ.op (d:=196) hsl hst hFt hwz rfl rfl rfl (by decide) hpre ?_;simp only [List.getElem_toArray,List.getElem_cons_zero,List.getElem_cons_succ] at hpre ⊢;obtain ⟨v191,ev191,hv191⟩:=hJ.dn 0 _ 191 rfl (hpre { on:=0,ground:=Ground.data } (by simp) rfl) rfl;have qv191:=eval_of ev191;obtain rfl:v191=.agg #[.string (E p),.string (E 0),.string (E g),.string (E h)]:=hv191;obtain ⟨v192,ev192,hv192⟩:=hJ.dn 1 _ 192 rfl (hpre { on:=1,ground:=Ground.data } (by simp) rfl) rfl;have qv192:=eval_of ev192;obtain rfl:v192=.string (E c1):=hv192;obtain ⟨v195,ev195,hv195⟩:=hJ.dn 4 _ 195 rfl (hpre { on:=4,ground:=Ground.data } (by simp) rfl) rfl;have qv195:=eval_of ev195;obtain rfl:v195=.agg #[.bool (sg (-lo)),.string (E (-lo).natAbs)]:=hv195;refine wp_callX 67 #[.tmp 191,.tmp 192,.tmp 195] #[26,22,28] rfl (enters_of Tryz.func67 (by kernel_rfl) rfl) ?_;simp only [List.map_toArray,List.map_cons,List.map_nil,qv191,qv192,qv195];refine (HSH.out w').mono ?_;rintro e w'' ⟨rfl,hb⟩;exact ⟨_,rfl,hb,rfl⟩
                     | 6,_,ho,hun,hpre =>
                      simp at ho;subst ho;refine hJ.op (d:=190) hsl hst hFt hwz rfl rfl rfl (by decide) hpre ?_;simp only [List.getElem_toArray,List.getElem_cons_zero,List.getElem_cons_succ] at hpre ⊢;obtain ⟨v196,ev196,hv196⟩:=hJ.dn 5 _ 196 rfl (hpre { on:=5,ground:=Ground.data } (by simp) rfl) rfl;have qv196:=eval_of ev196;obtain rfl:v196=.tuple #[.string (E tgt),.int .i64 0]:=hv196;refine wp_val (v:=.tuple #[.string (E tgt),.int .i64 0]) (by simp [execOp,ev196,go_sem]) rfl
                     | 7,_,ho,hun,hpre =>
                      simp at ho;subst ho;refine hJ.op (d:=197) hsl hst hFt hwz rfl rfl rfl (by decide) hpre ?_;simp only [List.getElem_toArray,List.getElem_cons_zero,List.getElem_cons_succ] at hpre ⊢;obtain ⟨v190,ev190,hv190⟩:=hJ.dn 6 _ 190 rfl (hpre { on:=6,ground:=Ground.data } (by simp) rfl) rfl;have qv190:=eval_of ev190;obtain rfl:v190=.tuple #[.string (E tgt),.int .i64 0]:=hv190;refine wp_val (v:=.string (E tgt)) (by simp [execOp,ev190,go_sem]) rfl
                     | 8,_,ho,hun,hpre =>
                      simp at ho;subst ho;refine hJ.op (d:=198) hsl hst hFt hwz rfl rfl rfl (by decide) hpre ?_;simp only [List.getElem_toArray,List.getElem_cons_zero,List.getElem_cons_succ] at hpre ⊢;obtain ⟨v190,ev190,hv190⟩:=hJ.dn 6 _ 190 rfl (hpre { on:=6,ground:=Ground.data } (by simp) rfl) rfl;have qv190:=eval_of ev190;obtain rfl:v190=.tuple #[.string (E tgt),.int .i64 0]:=hv190;refine wp_val (v:=.int .i64 0) (by simp [execOp,ev190,go_sem]) trivial
                     | 9,_,ho,hun,hpre =>
                      simp at ho;subst ho;refine hJ.op (d:=199) hsl hst hFt hwz rfl rfl rfl (by decide) hpre ?_;simp only [List.getElem_toArray,List.getElem_cons_zero,List.getElem_cons_succ] at hpre ⊢;have q24:=hJ.keep 24 (.pointer (some ⟨gL,0,none⟩)) rfl (by kernel_rfl);refine wp_val (v:=.pointer (some ⟨gL,1,none⟩)) (by simp [execOp,q24,go_sem]) rfl
                     | 10,_,ho,hun,hpre =>
                      simp at ho;subst ho;simp only [List.getElem_toArray,List.getElem_cons_zero,List.getElem_cons_succ] at hpre;obtain ⟨v197,ev197,hv197⟩:=hJ.dn 7 _ 197 rfl (hpre { on:=7,ground:=Ground.data } (by simp) rfl) rfl;have qv197:=eval_of ev197;obtain ⟨v199,ev199,hv199⟩:=hJ.dn 9 _ 199 rfl (hpre { on:=9,ground:=Ground.data } (by simp) rfl) rfl;have qv199:=eval_of ev199
                      have hs0:stB [10] done=[false]:=by
                       have k10:done.getD 10 false=false:=hun;simp only [stB,List.map_cons,List.map_nil,k10]
                      have hi10:10<done.size:=by rw [hJ.sz];decide
                      have hs1:stB [10] (done.setIfInBounds 10 true)=[true]:=by
                       have e:=hs0;simp only [stB,List.map_cons,List.map_nil,List.cons.injEq,and_true] at e;simp only [stB,List.map_cons,List.map_nil,getD_set _ _ _ hi10,e,if_true,if_false,Nat.reduceEqDiff]
                      obtain rfl:v197=.string (E tgt):=hv197;obtain rfl:v199=.pointer (some ⟨gL,1,none⟩):=hv199;obtain ⟨hT0,hE0,hG0,hV0,hS0,s0,hL0,_⟩:=hJ.ex;have hLl:=hL0.lt;have f1:=hL0.free 1;have c1':=hL0.cell 1;refine wpOp_step rfl fun K' hK=>?_
                      simp only [List.getElem_toArray,List.getElem_cons_zero,List.getElem_cons_succ];rw [if_pos (by simp [Region.wanted])];simp [Oper.wp,execOp,ev197,ev199,go_sem,f1,c1',hLl];have h9:=hJ.skip (i:=10) (v:=undef) rfl rfl hpre (hJ.bw.setCell (p:=⟨gL,1,none⟩) hgL (.string (E tgt))) ?_ ?_
                      ·exact hK a' _ h9
                      ·exact ⟨own_set hT0 (own_ne hT0 hL0 (by decide)),hE0.setE hL0 hne (by decide),hG0.other ⟨gL,1,none⟩ _ (by have:=HGS.out;show ws.heap.size≠gL;omega),own_set hV0 (own_ne hV0 hL0 (by decide)),hS0.other ⟨gL,1,none⟩ _ (by have:=HGS.out;show gS≠gL;omega),_,hL0.set 1 _,fun _=>rfl⟩
                      ·intro j q hq hj hdn d u hd hu hv;exact vRq6_any j u hv
                  ·intro done a' w' hJ hd;obtain ⟨f,hf,hv⟩:=hJ.all hd;have hs1:stB [10] done=[true]:=stB_all hd (by kernel_rfl);have hex:=hJ.ex;rw [hs1] at hex;subst hf;simp only [putAll,List.size_toArray,List.length_cons,List.length_nil,Nat.reduceAdd,List.getElem?_toArray,List.getElem?_cons_zero,List.getElem?_cons_succ,Option.bind_some,Act.put,List.setIfInBounds_toArray,List.set_cons_zero,List.set_cons_succ];go_wp2_with fail
                   go_meet
                   exact ⟨hex,hJ.bw⟩
                 case rest =>
                  obtain ⟨⟨hT8,hE8,hG8,hV8,hS8,s8,hL8,hs8⟩,hb8⟩:=hcut;obtain rfl:=hs8 rfl;obtain ⟨wy2,hwy2⟩:∃wy2,wy2=wc:=⟨_,rfl⟩;subst hwy2;have hb9:=hb7.trans hb8;clear hG6 hV6 hS6 hL6 hT6 hEO6 hb7 hb8 hs8;obtain ⟨at8,nt8,ct8,rfl⟩:=hT8.form;have hsz9:=hb9.size;have hEQ:=HEL.out;have hEl:EL.length=4:=by have:=congrArg List.length hEQ;rwa [List.length_map,stQ_len] at this
                  have hbQ:=b1 wy2 (.cells #[.int .i64 0,.string (E tgt),.slice at8 nt8 ct8] 115);have hEJ:=hE8.after hbQ;have hTJ:=hT8.after hbQ
                  have hro:(wy2.alloc (.cells #[.int .i64 0,.string (E tgt),.slice at8 nt8 ct8] 115)).ownsRow ws.heap.size 115 3 ev 4 (EL.flatMap ecp):=by
                   have h:=hEJ.row;rwa [hEl] at h
                  have hSJ:=hS8.after hbQ;have hGJ:=hG8.after hbQ;have hVJ:=hV8.after hbQ;obtain ⟨hS8c0,hS8f0,hS8c1,hS8f1,hS8c2,hS8f2⟩:=hS8.x3;obtain ⟨hL8c0,hL8f0,hL8c1,hL8f1,hL8c2,hL8f2⟩:=hL8.x3;go_upto_region 39 with (at_builtin;go_loud (refine wpList_append_lies _ rfl (.tmp 201) (.tmp 203) 59 rfl ws.heap.size 115 i4 _ 3 48 Tryz.underlying59 HI4.out HA4.out HB4.out HC4.out rfl (by omega) ev 4 (EL.flatMap ecp) rfl hro ⟨wy2.heap.size,0,none⟩ 1 1 [.int .i64 0,.string (E tgt),.slice at8 nt8 ct8] rfl rfl (Blk.new wy2 #[.int .i64 0,.string (E tgt),.slice at8 nt8 ct8] 115).cells (by simp [Value.oneCell']) (by omega) (by simp only [maxLen];omega) (by omega) (by rw [World.size_alloc];omega) (wy2.heap.size+1) (by simp) ?_);intro gv cv wv hownV hgrowV hatV hltV;have hSv:=Blk.grown hSJ hgrowV (own_ne hro hSJ (by decide));obtain ⟨hSvc0,hSvf0,hSvc1,hSvf1,hSvc2,hSvf2⟩:=hSv.x3;have hSvl:=hSv.lt)
                  have hSv:=Blk.grown hSJ hgrowV (own_ne hro hSJ (by decide));have hGv:=Blk.grown hGJ hgrowV (own_ne hro hGJ (by decide));have hVv:VOwn wv ws.heap.size vv2 (stV vb rb 4++[lastB vb rb]):=own_grown hVJ hro (by decide) hgrowV;have hEv:EOwn wv ws.heap.size (.slice none 0 0) (.slice (some ⟨gv,0,none⟩) 5 cv) (EL++[(stL h tgt Q,.slice at8 nt8 ct8)]):=hEJ.nilx.snoc hgrowV (by rw [hEl]) hownV hTJ (fun g' hg'=>(by cases hg'));have hbv:Below ws.heap.size ws wv:=Below.grown (ba hb9 (.cells #[.int .i64 0,.string (E tgt),.slice at8 nt8 ct8] 115)) hgrowV (by rw [World.size_alloc];omega) (fun y hy=>(own_lt hro hy).2)
                  have hEL9:(EL++[(stL h tgt Q,Value.slice at8 nt8 ct8)]).map (fun e=>e.1)=stQ g h Q 4++[stL h (shiftN p c1 g (-lo)) Q]:=by
                   rw [List.map_append,hEQ,←HTG.out];rfl
                  clear hro hSJ hGJ hVJ hEJ hTJ hbQ hownV hgrowV hatV hltV hT8 hE8 hG8 hV8;clear hS8c0 hS8f0 hS8c1 hS8f1 hS8c2 hS8f2;clear hL8c0 hL8f0 hL8c1 hL8f1 hL8c2 hL8f2;clear hS8 hL8;have hEu:=hEv.set (i:=2) (u:=.slice (some ⟨gv,0,none⟩) 5 cv) hSv (by decide) (by decide);have hVu:VOwn (wv.setCell ⟨gS,2,none⟩ (.slice (some ⟨gv,0,none⟩) 5 cv)) ws.heap.size vv2 (stV vb rb 4++[lastB vb rb]):=own_set hVv (own_ne hVv hSv (by decide));have hGu:=hGv.other ⟨gS,2,none⟩ (.slice (some ⟨gv,0,none⟩) 5 cv) (by have:=HGS.out;show ws.heap.size≠gS;omega);have hSu:=hSv.set 2 (.slice (some ⟨gv,0,none⟩) 5 cv);have hbu:=hbv.setCell (p:=⟨gS,2,none⟩) hgS (.slice (some ⟨gv,0,none⟩) 5 cv);generalize wv.setCell ⟨gS,2,none⟩ (.slice (some ⟨gv,0,none⟩) 5 cv)=wz2 at hEu hVu hGu hSu hbu ⊢;replace hSu:Blk wz2 gS 61 [.slice (some ⟨ws.heap.size,0,none⟩) 1 1,vv2,.slice (some ⟨gv,0,none⟩) 5 cv]:=hSu;obtain ⟨av,cv9,hav⟩:=RAt.form hVu.ss;rw [List.length_map] at hav;obtain ⟨n10,hn10⟩:∃n,n=(stV vb rb 4++[lastB vb rb]).length:=⟨_,rfl⟩;rw [←hn10] at hav;subst hav;clear hn10 hEv hVv hGv hSv hbv;have hRL:gR<ws.heap.size:=hR.lt;have hRy:=hR.after hbu;have hRl:=hRy.lt;have hSl:=hSu.lt;have hBWy:=bt hBW3 hbu;obtain ⟨hSuc0,hSuf0,hSuc1,hSuf1,hSuc2,hSuf2⟩:=hSu.x3;obtain ⟨hRyc0,hRyf0,hRyc1,hRyf1,hRyc2,hRyf2⟩:=hRy.x3;go_wp2;refine bodyPost_ret (v:=.tuple #[.agg #[.slice (some ⟨ws.heap.size,0,none⟩) 1 1,.slice av n10 cv9,.slice (some ⟨gv,0,none⟩) 5 cv],.int .i64 0]) ?_ rfl ?_
                  ·simp [results,Tryz.results21,go_sem,hRyc0,hRyc1,hRyc2,hRl]
                  ·rw [HRN.out];exact ⟨_,_,_,rfl,stn_ret hRy (by omega) hGu hVu hEu hEL9 _ _ _,((hBWy.setCell HWR.out _).setCell HWR.out _).setCell HWR.out _⟩
end Go.Proofs.YtfgandecbkbleaaGreatDoor
