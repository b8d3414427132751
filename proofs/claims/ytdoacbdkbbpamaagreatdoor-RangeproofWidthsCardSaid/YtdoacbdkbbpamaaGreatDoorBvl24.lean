/- bits.valid,bits.Value. -/
import Derived.Test.YtdoacbdkbbpamaaGreatDoorIsm
import Derived.Test.YtdoacbdkbbpamaaGreatDoorVlp24
set_option linter.unusedVariables false
set_option linter.unusedSimpArgs false
set_option maxRecDepth 100000
set_option maxHeartbeats 16000000
namespace Go.Proofs.YtdoacbdkbbpamaaGreatDoor
open Go.RowKit Go.Shelf
theorem or_dig (s d k:Nat) (hs:s<2^k) (hk:k<32) (hd:d≤1):bits .or .i64 (s:Int) (wrap64 ((d:Int)*2^k))=((s+d*2^k:Nat):Int):=by
 have hp:2^k≤2^31:=Nat.pow_le_pow_right (by decide) (by omega);have hp2:(2:Nat)^31=2147483648:=by decide
 have hdk:d*2^k≤1*2^k:=Nat.mul_le_mul_right _ hd;have e:(d:Int)*2^k=((d*2^k:Nat):Int):=by simp
 have hor:s ||| d*2^k=s+d*2^k:=by
  rw [Nat.or_comm,Nat.mul_comm,←Nat.two_pow_add_eq_or_of_lt hs,Nat.add_comm]
 rw [e,IntWalk.wrap64_in _ (by omega)]
 have key:(BitVec.ofInt 64 (s:Int) ||| BitVec.ofInt 64 ((d*2^k:Nat):Int)).toNat=s+d*2^k:=by
  rw [BitVec.toNat_or,BitVec.toNat_ofInt,BitVec.toNat_ofInt,←hor];rw [show ((s:Int)%((2^64:Nat):Int)).toNat=s by omega,show (((d*2^k:Nat):Int)%((2^64:Nat):Int)).toNat=d*2^k by omega]
 show IntKind.i64.wrap ((BitVec.ofInt 64 (s:Int) ||| BitVec.ofInt 64 ((d*2^k:Nat):Int)).toNat:Nat)=_;rw [key,IntKind.wrap_i64];omega
theorem bvalid_c (L:List Opn) (v:Value) (w:World) (hn:L.length≤9223372036854775807) (hs:∀x∈L,x.va.size≤1000∧x.ra.size≤1000) (hR:OsAt w v L) :
  Calls Tryz.prog 36 #[v] w fun e w'=>e=.returned (.bool (L.all vlO))∧Below w.heap.size w w':=by
 obtain ⟨ao,cp,rfl⟩:=RAt.form hR;obtain ⟨r,hr⟩:∃r,r=L.all vlO:=⟨_,rfl⟩;rw [←hr];have HR:=Lib.hid hr;obtain ⟨m,hm⟩:∃m,m=L.length:=⟨_,rfl⟩;have HM:=Lib.hid hm;rw [←hm] at hR hn ⊢;have HS:=Lib.hid hs;clear hr hm hs;go_enter Tryz.func36,Tryz.ntmps36
 go_upto_region 2 with fail
 go_loopw [7] (fun i wr=>∃k:Nat,k≤m∧i=.int .i64 k∧Hid ((L.take k).all vlO=true)∧Below w.heap.size w wr) (fun i _=>m-(intOf i).toNat)
 case atStart=>exact ⟨0,by omega,rfl,rfl,Below.refl _ _⟩
 case round =>
  obtain ⟨k,hk,rfl,HK,hbr⟩:=hrel;obtain ⟨wp,hwp⟩:∃wp,wp=wr:=⟨_,rfl⟩;subst hwp;have hRp:=OsAt.after hR hbr;by_cases hlt:k<m
  ·have hkl:k<L.length:=by rw [←HM.out];exact hlt
   obtain ⟨bb,o,rfl,hbb,x1,x2,x3,x4⟩:=OsAt.at_ hRp hkl;have hsz:=HS.out _ (List.getElem_mem hkl);have h0k:(0:Int)≤(k:Int):=by omega
   have h1k:(k:Int)<(m:Int):=by omega
   have HT:=Lib.hid (all_take vlO L k hkl);have HBD:Hid (vlO L[k]=false→r=false):=fun h=>by rw [HR.out,all_bad vlO L k hkl h]
   have HVX:Hid (vlO L[k]=(ivB L[k].vn L[k].va&&ivB L[k].rn L[k].ra)):=rfl;have HI1:Hid (∀w:World,Calls Tryz.prog 58 #[.agg #[.bool L[k].vn,.string L[k].va]] w fun e w'=>e=.returned (.bool (ivB L[k].vn L[k].va))∧Below w.heap.size w w'):=fun w=>ivalX_c _ _ _ w hsz.1 rfl
   have HI2:Hid (∀w:World,Calls Tryz.prog 58 #[.agg #[.bool L[k].rn,.string L[k].ra]] w fun e w'=>e=.returned (.bool (ivB L[k].rn L[k].ra))∧Below w.heap.size w w'):=fun w=>ivalX_c _ _ _ w hsz.2 rfl
   generalize vlO (L[k]'hkl)=q at HT HBD HVX;generalize (L[k]'hkl)=x at x1 x2 x3 x4 hsz HVX HI1 HI2;have hX:=Blk.new wp #[.bool x.vn,.string x.va,.bool x.rn,.string x.ra] 39;have hbX:=b1 wp (.cells #[.bool x.vn,.string x.va,.bool x.rn,.string x.ra] 39);have hbn:=bt hbr hbX;generalize ivB x.vn x.va=q1 at HI1 HVX;generalize ivB x.rn x.ra=q2 at HI2 HVX;have hXl:=hX.lt;obtain ⟨hXc0,hXf0,hXc1,hXf1,hXc2,hXf2,hXc3,hXf3⟩:=hX.x4;go_wp2_with fail
   refine (HI1.out _).mono ?_;rintro e w2 ⟨rfl,hb2⟩;clear hXc0 hXf0 hXc1 hXf1 hXc2 hXf2 hXc3 hXf3;replace hX:=hX.after hb2;replace hbn:=bt hbn hb2;clear hb2 hXl;have hXl:=hX.lt;cases q1
   ·have HF:Hid (r=false):=by rw [Hid];exact HBD.out (by rw [HVX.out];rfl)
    go_wp2;go_ret
    exact ⟨by first | (rw [HF.out];done) | (rw [HF.out];rfl),hbn⟩
   ·
    obtain ⟨hXc0,hXf0,hXc1,hXf1,hXc2,hXf2,hXc3,hXf3⟩:=hX.x4;go_wp2_with fail
    refine (HI2.out _).mono ?_;rintro e w3 ⟨rfl,hb3⟩;replace hbn:=bt hbn hb3;clear hb3;cases q2
    ·have HF:Hid (r=false):=by rw [Hid];exact HBD.out (by rw [HVX.out];rfl)
     go_wp2;go_ret
     exact ⟨by first | (rw [HF.out];done) | (rw [HF.out];rfl),hbn⟩
    ·have HX:Hid ((L.take (k+1)).all vlO=true):=by rw [Hid,HT.out,HK.out,HVX.out];rfl
     go_wp2;go_roundw
     case rel=>exact ⟨k+1,by omega,by go_num,HX,hbn⟩
     case measure=>simp [intOf];omega
  ·obtain rfl:k=m:=by omega
   have HE:Hid (r=true):=by
    rw [Hid,HR.out,←all_end vlO L k HM.out HK.out]
   go_wp2;go_ret
   exact ⟨by first | (rw [HE.out];done) | (rw [HE.out];rfl),hbr⟩
theorem bval_c (L:List Opn) (v:Value) (w:World) (hn:L.length≤9223372036854775807) (hs:∀x∈L,x.va.size≤100∧x.ra.size≤100) (hR:OsAt w v L) :
  Calls Tryz.prog 14 #[v] w fun e w'=>e=.returned (.tuple #[.int .i64 ((valE L).1:Int),.int .i64 ((valE L).2:Int)])∧Below w.heap.size w w':=by
 have HVL:Hid (∀w',Below w.heap.size w w'→Calls Tryz.prog 36 #[v] w' fun e w''=>e=.returned (.bool (L.all vlO))∧Below w'.heap.size w' w''):=fun w' hb=>bvalid_c L v w' hn (fun x hx=>by have:=hs x hx;omega) (OsAt.after hR hb)
 obtain ⟨ao,cp,rfl⟩:=RAt.form hR;obtain ⟨m,hm⟩:∃m,m=L.length:=⟨_,rfl⟩;have HM:=Lib.hid hm;have HS:=Lib.hid hs;have HE:Hid (valE L=if L.all vlO=false then (0,3) else if 32<m then (0,6) else if L.all digB=false then (0,2) else (dsum L,0)):=by rw [Hid,hm];rfl
 obtain ⟨ga,hga⟩:∃b,b=L.all vlO:=⟨_,rfl⟩;have HGA:=Lib.hid hga;rw [←hga] at HVL HE;rw [←hm] at hR hn HVL ⊢;generalize valE L=R at HE ⊢;obtain ⟨Rn,Re⟩:=R;clear hm hs hga;go_enter Tryz.func14,Tryz.ntmps14
 go_wp2_with fail
 refine (HVL.out _ (by first | exact Below.refl _ _ | exact Below.drew (Below.refl _ _))).mono ?_;rintro e w1 ⟨rfl,hb1⟩;replace hR:=OsAt.after hR hb1;have hbw:Below w.heap.size w w1:=by first | exact hb1 | exact bt (Below.drew (Below.refl _ _)) hb1
 clear hb1 HVL;cases ga
 case false =>
  have HF:Hid ((Rn,Re)=((0:Nat),(3:Nat))):=by have h:=HE.out;rw [if_pos rfl] at h;exact h
  clear HE;go_wp2;refine bodyPost_ret (v:=.tuple #[.int .i64 0,.int .i64 3]) ?_ rfl ?_
  ·simp [results,Tryz.results14,go_sem]
  ·have h:=HF.out;cases h
   exact ⟨rfl,hbw⟩
 case true =>
  obtain ⟨t1,ht1⟩:∃t:Bool,t=decide ((32:Int)<(m:Int)):=⟨_,rfl⟩;have HT1:=Lib.hid ht1;have ht1':=ht1.symm;clear ht1;cases t1
  case true =>
   have HF:Hid ((Rn,Re)=((0:Nat),(6:Nat))):=by
    have h:=HE.out;have h2:=of_decide_eq_true HT1.out.symm;rw [if_neg (by decide),if_pos (by omega)] at h;exact h
   clear HE HT1;go_wp2;refine bodyPost_ret (v:=.tuple #[.int .i64 0,.int .i64 6]) ?_ rfl ?_
   ·simp [results,Tryz.results14,go_sem]
   ·have h:=HF.out;cases h
    exact ⟨rfl,hbw⟩
  case false =>
   have HM32:Hid (m≤32):=by have h2:=of_decide_eq_false HT1.out.symm;rw [Hid];omega
   have HE2:Hid ((Rn,Re)=if L.all digB=false then (0,2) else (dsum L,0)):=by
    have h:=HE.out;rw [if_neg (by decide),if_neg (by have:=HM32.out;omega)] at h;exact h
   clear HE HT1;go_upto_region 7 with fail
   clear ht1';go_loopw [4,17] (fun u i wr=>∃k:Nat,k≤m∧i=.int .i64 k∧u=.int .i64 (dsum (L.take k):Int)∧Hid ((L.take k).all digB=true)∧Below w1.heap.size w1 wr) (fun _ i _=>m-(intOf i).toNat)
   case atStart=>exact ⟨0,by omega,rfl,rfl,rfl,by first | exact Below.refl _ _ | exact Below.drew (Below.refl _ _)⟩
   case round =>
    obtain ⟨k,hk,rfl,rfl,HK,hbr⟩:=hrel;obtain ⟨wp,hwp⟩:∃wp,wp=wr:=⟨_,rfl⟩;subst hwp;have hRp:=OsAt.after hR hbr;by_cases hlt:k<m
    ·have hkl:k<L.length:=by rw [←HM.out];exact hlt
     obtain ⟨bb,o,rfl,hbb,x1,x2,x3,x4⟩:=OsAt.at_ hRp hkl;have hsz:=HS.out _ (List.getElem_mem hkl);have h0k:(0:Int)≤(k:Int):=by omega
     have h1k:(k:Int)<(m:Int):=by omega
     have HT:=Lib.hid (all_take digB L k hkl);have HBD:Hid (digB L[k]=false→(Rn,Re)=(0,2)):=fun h=>by rw [HE2.out,if_pos (all_bad digB L k hkl h)]
     have hv:vlO L[k]=true:=List.all_eq_true.1 HGA.out.symm _ (List.getElem_mem hkl);unfold vlO at hv;rw [Bool.and_eq_true] at hv;obtain ⟨z,hz,hz1,hz2⟩:=of_ivB hv.1;have hib:intb L[k].vn L[k].va=z:=by rw [hz1,hz2];exact intb_I z
     have HDG:Hid (digB L[k]=decide (z=0∨z=1)):=by unfold digB;rw [hib];rfl
     have HDS:Hid (dsum (L.take (k+1))=dsum (L.take k)+z.toNat*2^k):=by
      rw [Hid,List.take_succ_eq_append_getElem hkl,dsum_app,hib,List.length_take,Nat.min_eq_left (by omega)]
     have HLT:Hid (dsum (L.take k)<2^k):=by
      have h:=dsum_lt (L.take k) HK.out;rwa [List.length_take,Nat.min_eq_left (by omega)] at h
     have HSM:Hid (∀w:World,Calls Tryz.prog 37 #[.agg #[.bool L[k].vn,.string L[k].va]] w fun e w'=>e=.returned (.tuple #[.int .i64 (sm64 z),.bool (sm64B z)])∧Below w.heap.size w w'):=fun w=>by rw [hz1,hz2];exact ism_c z w hz
     generalize digB (L[k]'hkl)=q at HT HBD HDG;clear hib hz1 hz2 hv hsz;generalize (L[k]'hkl)=x at x1 x2 x3 x4 HSM;obtain ⟨S,hS⟩:∃S,S=dsum (L.take k):=⟨_,rfl⟩;rw [←hS] at HDS HLT ⊢;clear hS;have hX:=Blk.new wp #[.bool x.vn,.string x.va,.bool x.rn,.string x.ra] 39;have hbX:=b1 wp (.cells #[.bool x.vn,.string x.va,.bool x.rn,.string x.ra] 39);have hbn:=bt hbr hbX;have hXl:=hX.lt;obtain ⟨sz,hsz⟩:∃n,n=sm64 z:=⟨_,rfl⟩;obtain ⟨sb,hsb⟩:∃n,n=sm64B z:=⟨_,rfl⟩;rw [←hsz,←hsb] at HSM;have HSZ:=Lib.hid hsz;have HSB:=Lib.hid hsb;clear hsz hsb;obtain ⟨hXc0,hXf0,hXc1,hXf1,hXc2,hXf2,hXc3,hXf3⟩:=hX.x4;go_upto_region 9 with fail
     go_cut [7,8] (fun s7 s8 wx=>s7=.int .i64 sz∧s8=.bool sb∧Below w1.heap.size w1 wx)
     case first =>
      go_wp2_with fail
      refine (HSM.out _).mono ?_;rintro e w2 ⟨rfl,hb2⟩;go_wp2;go_meet
      exact ⟨rfl,rfl,bt hbn hb2⟩
     case rest =>
      obtain ⟨hs7,hs8,hbc⟩:=hcut;subst hs7 hs8;obtain ⟨wy,hwy⟩:∃wy,wy=wc:=⟨_,rfl⟩;subst hwy;clear hXc0 hXf0 hXc1 hXf1 hXc2 hXf2 hXc3 hXf3;clear hX hbX hbn hXl HSM;cases sb
      case false =>
       have HF:Hid ((Rn,Re)=(0,2)):=HBD.out (by
        rw [HDG.out];refine decide_eq_false fun h=>?_
        have h2:=of_decide_eq_false (HSB.out.symm.trans rfl);omega)
       go_wp2;refine bodyPost_ret (v:=.tuple #[.int .i64 0,.int .i64 2]) ?_ rfl ?_
       ·simp [results,Tryz.results14,go_sem]
       ·have h:=HF.out;cases h
        exact ⟨rfl,bt hbw hbc⟩
      case true =>
       have hzz:sz=z:=by
        have h2:=of_decide_eq_true (HSB.out.symm.trans rfl);rw [HSZ.out,sm64,if_pos h2]
       subst hzz;by_cases hd:sz=0∨sz=1
       ·obtain ⟨d,hdd⟩:∃d:Nat,sz=(d:Int)∧d≤1:=⟨sz.toNat,by omega,by omega⟩;obtain ⟨rfl,hd1⟩:=hdd;have e1:decide ((d:Int)<0)=false:=decide_eq_false (by omega);have e2:decide ((1:Int)<(d:Int))=false:=decide_eq_false (by omega)
        have HOR:Hid (bits .or .i64 (S:Int) (wrap64 ((d:Int)*2^min k 64))=(dsum (L.take (k+1)):Int)):=by
         rw [Hid,Nat.min_eq_left (by have:=HM32.out;omega),or_dig S d k HLT.out (by have:=HM32.out;omega) hd1,HDS.out,Int.toNat_natCast]
        have HX:Hid ((L.take (k+1)).all digB=true):=by rw [Hid,HT.out,HK.out,HDG.out,decide_eq_true hd];rfl
        clear hd hd1 HDS HLT HSZ HSB HBD HDG HT HK;go_wp2;go_roundw
        case rel=>exact ⟨k+1,by omega,by go_num,by first | (rw [HOR.out];done) | (rw [HOR.out];rfl) | (congr 1;exact HOR.out),HX,hbc⟩
        case measure=>simp [intOf];omega
       ·have HF:Hid ((Rn,Re)=(0,2)):=HBD.out (by rw [HDG.out];exact decide_eq_false hd);by_cases hn1:sz<0
        ·have e1:decide (sz<0)=true:=decide_eq_true hn1;clear hd hn1;go_wp2;refine bodyPost_ret (v:=.tuple #[.int .i64 0,.int .i64 2]) ?_ rfl ?_
         ·simp [results,Tryz.results14,go_sem]
         ·have h:=HF.out;cases h
          exact ⟨rfl,bt hbw hbc⟩
        ·have e1:decide (sz<0)=false:=decide_eq_false hn1;have e2:decide (1<sz)=true:=decide_eq_true (by omega);clear hd hn1;go_wp2;refine bodyPost_ret (v:=.tuple #[.int .i64 0,.int .i64 2]) ?_ rfl ?_
         ·simp [results,Tryz.results14,go_sem]
         ·have h:=HF.out;cases h
          exact ⟨rfl,bt hbw hbc⟩
    ·obtain rfl:k=m:=by omega
     have HD:Hid (dsum (L.take k)=dsum L):=by rw [Hid,HM.out,List.take_length]
     have HF:Hid ((Rn,Re)=(dsum L,0)):=by
      rw [Hid,HE2.out,if_neg (by rw [all_end digB L k HM.out HK.out];decide)]
     obtain ⟨S,hS⟩:∃S,S=dsum (L.take k):=⟨_,rfl⟩;rw [←hS] at HD ⊢;clear hS;go_wp2;refine bodyPost_ret (v:=.tuple #[.int .i64 (S:Int),.int .i64 0]) ?_ rfl ?_
     ·simp [results,Tryz.results14,go_sem]
     ·have h:=HF.out;cases h
      rw [HD.out];exact ⟨rfl,bt hbw hbr⟩
end Go.Proofs.YtdoacbdkbbpamaaGreatDoor
