/- law 24's awake returns true. -/
import Derived.Test.YtdoacbdkbbpamaaGreatDoorIsm
import Derived.Test.YtdoacbdkbbpamaaGreatDoorRf24
import Derived.Laws.Slices
import Derived.Test.YtdoacbdkbbpamaaGreatDoorAwn24
set_option linter.unusedVariables false
set_option linter.unusedSimpArgs false
set_option maxRecDepth 100000
set_option maxHeartbeats 16000000
namespace Go.Proofs.YtdoacbdkbbpamaaGreatDoor
section
/- bits.valid,bits.Value. -/
open Go.RowKit Go.Shelf
theorem or_dig (s d k:Nat) (hs:s<2^k) (hk:k<32) (hd:d≤1):bits .or .i64 (s:Int) (wrap64 ((d:Int)*2^k))=((s+d*2^k:Nat):Int):=by
 have hp:2^k≤2^31:=Nat.pow_le_pow_right (by decide) (by omega);have hp2:(2:Nat)^31=2147483648:=by decide
 have hdk:d*2^k≤1*2^k:=Nat.mul_le_mul_right _ hd;have e:(d:Int)*2^k=((d*2^k:Nat):Int):=by simp
 have hor:s ||| d*2^k=s+d*2^k:=by
  rw [Nat.or_comm,Nat.mul_comm,←Nat.two_pow_add_eq_or_of_lt hs,Nat.add_comm]
 rw [e,IntWalk.wrap64_in _ (by omega)]
 have key:(BitVec.ofInt 64 (s:Int) ||| BitVec.ofInt 64 ((d*2^k:Nat):Int)).toNat=s+d*2^k:=by
  rw [BitVec.toNat_or,BitVec.toNat_ofInt,BitVec.toNat_ofInt,←hor];rw [show ((s:Int)%((2^64:Nat):Int)).toNat=s by omega,show (((d*2^k:Nat):Int)%((2^64:Nat):Int)).toNat=d*2^k by omega]
 show IntKind.i64.wrap ((BitVec.ofInt 64 (s:Int) ||| BitVec.ofInt 64 ((d*2^k:Nat):Int)).toNat:Nat)=_;rw [key,IntKind.wrap_i64];omega
theorem bvalid_c (L:List Opn) (v:Value) (w:World) (hn:L.length≤9223372036854775807) (hs:∀x∈L,x.va.size≤1000∧x.ra.size≤1000) (hR:OsAt w v L) :
  Calls Tryz.prog 36 #[v] w fun e w'=>e=.returned (.bool (L.all vlO))∧Below w.heap.size w w':=by
 obtain ⟨ao,cp,rfl⟩:=RAt.form hR;obtain ⟨r,hr⟩:∃r,r=L.all vlO:=⟨_,rfl⟩;rw [←hr];have HR:=Lib.hid hr;obtain ⟨m,hm⟩:∃m,m=L.length:=⟨_,rfl⟩;have HM:=Lib.hid hm;rw [←hm] at hR hn ⊢;have HS:=Lib.hid hs;clear hr hm hs;go_enter Tryz.func36,Tryz.ntmps36
 go_upto_region 2 with fail
 go_loopw [7] (fun i wr=>∃k:Nat,k≤m∧i=.int .i64 k∧Hid ((L.take k).all vlO=true)∧Below w.heap.size w wr) (fun i _=>m-(intOf i).toNat)
 case atStart=>exact ⟨0,by omega,rfl,rfl,Below.refl _ _⟩
 case round =>
  obtain ⟨k,hk,rfl,HK,hbr⟩:=hrel;obtain ⟨wp,hwp⟩:∃wp,wp=wr:=⟨_,rfl⟩;subst hwp;have hRp:=OsAt.after hR hbr;by_cases hlt:k<m
  ·have hkl:k<L.length:=by rw [←HM.out];exact hlt
   obtain ⟨bb,o,rfl,hbb,x1,x2,x3,x4⟩:=OsAt.at_ hRp hkl;have hsz:=HS.out _ (List.getElem_mem hkl);have h0k:(0:Int)≤(k:Int):=by omega
   have h1k:(k:Int)<(m:Int):=by omega
   have HT:=Lib.hid (all_take vlO L k hkl);have HBD:Hid (vlO L[k]=false→r=false):=fun h=>by rw [HR.out,all_bad vlO L k hkl h]
   have HVX:Hid (vlO L[k]=(ivB L[k].vn L[k].va&&ivB L[k].rn L[k].ra)):=rfl;have HI1:Hid (∀w:World,Calls Tryz.prog 58 #[.agg #[.bool L[k].vn,.string L[k].va]] w fun e w'=>e=.returned (.bool (ivB L[k].vn L[k].va))∧Below w.heap.size w w'):=fun w=>ivalX_c _ _ _ w hsz.1 rfl
   have HI2:Hid (∀w:World,Calls Tryz.prog 58 #[.agg #[.bool L[k].rn,.string L[k].ra]] w fun e w'=>e=.returned (.bool (ivB L[k].rn L[k].ra))∧Below w.heap.size w w'):=fun w=>ivalX_c _ _ _ w hsz.2 rfl
   generalize vlO (L[k]'hkl)=q at HT HBD HVX;generalize (L[k]'hkl)=x at x1 x2 x3 x4 hsz HVX HI1 HI2;have hX:=Blk.new wp #[.bool x.vn,.string x.va,.bool x.rn,.string x.ra] 39;have hbX:=b1 wp (.cells #[.bool x.vn,.string x.va,.bool x.rn,.string x.ra] 39);have hbn:=bt hbr hbX;generalize ivB x.vn x.va=q1 at HI1 HVX;generalize ivB x.rn x.ra=q2 at HI2 HVX;have hXl:=hX.lt;obtain ⟨hXc0,hXf0,hXc1,hXf1,hXc2,hXf2,hXc3,hXf3⟩:=hX.x4;go_wp2_with fail
   refine (HI1.out _).mono ?_;rintro e w2 ⟨rfl,hb2⟩;clear hXc0 hXf0 hXc1 hXf1 hXc2 hXf2 hXc3 hXf3;replace hX:=hX.after hb2;replace hbn:=bt hbn hb2;clear hb2 hXl;have hXl:=hX.lt;cases q1
   ·have HF:Hid (r=false):=by rw [Hid];exact HBD.out (by rw [HVX.out];rfl)
    go_wp2;go_ret
    exact ⟨by first | (rw [HF.out];done) | (rw [HF.out];rfl),hbn⟩
   ·
    obtain ⟨hXc0,hXf0,hXc1,hXf1,hXc2,hXf2,hXc3,hXf3⟩:=hX.x4;go_wp2_with fail
    refine (HI2.out _).mono ?_;rintro e w3 ⟨rfl,hb3⟩;replace hbn:=bt hbn hb3;clear hb3;cases q2
    ·have HF:Hid (r=false):=by rw [Hid];exact HBD.out (by rw [HVX.out];rfl)
     go_wp2;go_ret
     exact ⟨by first | (rw [HF.out];done) | (rw [HF.out];rfl),hbn⟩
    ·have HX:Hid ((L.take (k+1)).all vlO=true):=by rw [Hid,HT.out,HK.out,HVX.out];rfl
     go_wp2;go_roundw
     case rel=>exact ⟨k+1,by omega,by go_num,HX,hbn⟩
     case measure=>simp [intOf];omega
  ·obtain rfl:k=m:=by omega
   have HE:Hid (r=true):=by
    rw [Hid,HR.out,←all_end vlO L k HM.out HK.out]
   go_wp2;go_ret
   exact ⟨by first | (rw [HE.out];done) | (rw [HE.out];rfl),hbr⟩
theorem bval_c (L:List Opn) (v:Value) (w:World) (hn:L.length≤9223372036854775807) (hs:∀x∈L,x.va.size≤100∧x.ra.size≤100) (hR:OsAt w v L) :
  Calls Tryz.prog 14 #[v] w fun e w'=>e=.returned (.tuple #[.int .i64 ((valE L).1:Int),.int .i64 ((valE L).2:Int)])∧Below w.heap.size w w':=by
 have HVL:Hid (∀w',Below w.heap.size w w'→Calls Tryz.prog 36 #[v] w' fun e w''=>e=.returned (.bool (L.all vlO))∧Below w'.heap.size w' w''):=fun w' hb=>bvalid_c L v w' hn (fun x hx=>by have:=hs x hx;omega) (OsAt.after hR hb)
 obtain ⟨ao,cp,rfl⟩:=RAt.form hR;obtain ⟨m,hm⟩:∃m,m=L.length:=⟨_,rfl⟩;have HM:=Lib.hid hm;have HS:=Lib.hid hs;have HE:Hid (valE L=if L.all vlO=false then (0,3) else if 32<m then (0,6) else if L.all digB=false then (0,2) else (dsum L,0)):=by rw [Hid,hm];rfl
 obtain ⟨ga,hga⟩:∃b,b=L.all vlO:=⟨_,rfl⟩;have HGA:=Lib.hid hga;rw [←hga] at HVL HE;rw [←hm] at hR hn HVL ⊢;generalize valE L=R at HE ⊢;obtain ⟨Rn,Re⟩:=R;clear hm hs hga;go_enter Tryz.func14,Tryz.ntmps14
 go_wp2_with fail
 refine (HVL.out _ (by first | exact Below.refl _ _ | exact Below.drew (Below.refl _ _))).mono ?_;rintro e w1 ⟨rfl,hb1⟩;replace hR:=OsAt.after hR hb1;have hbw:Below w.heap.size w w1:=by first | exact hb1 | exact bt (Below.drew (Below.refl _ _)) hb1
 clear hb1 HVL;cases ga
 case false =>
  have HF:Hid ((Rn,Re)=((0:Nat),(3:Nat))):=by have h:=HE.out;rw [if_pos rfl] at h;exact h
  clear HE;go_wp2;refine bodyPost_ret (v:=.tuple #[.int .i64 0,.int .i64 3]) ?_ rfl ?_
  ·simp [results,Tryz.results14,go_sem]
  ·have h:=HF.out;cases h
   exact ⟨rfl,hbw⟩
 case true =>
  obtain ⟨t1,ht1⟩:∃t:Bool,t=decide ((32:Int)<(m:Int)):=⟨_,rfl⟩;have HT1:=Lib.hid ht1;have ht1':=ht1.symm;clear ht1;cases t1
  case true =>
   have HF:Hid ((Rn,Re)=((0:Nat),(6:Nat))):=by
    have h:=HE.out;have h2:=of_decide_eq_true HT1.out.symm;rw [if_neg (by decide),if_pos (by omega)] at h;exact h
   clear HE HT1;go_wp2;refine bodyPost_ret (v:=.tuple #[.int .i64 0,.int .i64 6]) ?_ rfl ?_
   ·simp [results,Tryz.results14,go_sem]
   ·have h:=HF.out;cases h
    exact ⟨rfl,hbw⟩
  case false =>
   have HM32:Hid (m≤32):=by have h2:=of_decide_eq_false HT1.out.symm;rw [Hid];omega
   have HE2:Hid ((Rn,Re)=if L.all digB=false then (0,2) else (dsum L,0)):=by
    have h:=HE.out;rw [if_neg (by decide),if_neg (by have:=HM32.out;omega)] at h;exact h
   clear HE HT1;go_upto_region 7 with fail
   clear ht1';go_loopw [4,17] (fun u i wr=>∃k:Nat,k≤m∧i=.int .i64 k∧u=.int .i64 (dsum (L.take k):Int)∧Hid ((L.take k).all digB=true)∧Below w1.heap.size w1 wr) (fun _ i _=>m-(intOf i).toNat)
   case atStart=>exact ⟨0,by omega,rfl,rfl,rfl,by first | exact Below.refl _ _ | exact Below.drew (Below.refl _ _)⟩
   case round =>
    obtain ⟨k,hk,rfl,rfl,HK,hbr⟩:=hrel;obtain ⟨wp,hwp⟩:∃wp,wp=wr:=⟨_,rfl⟩;subst hwp;have hRp:=OsAt.after hR hbr;by_cases hlt:k<m
    ·have hkl:k<L.length:=by rw [←HM.out];exact hlt
     obtain ⟨bb,o,rfl,hbb,x1,x2,x3,x4⟩:=OsAt.at_ hRp hkl;have hsz:=HS.out _ (List.getElem_mem hkl);have h0k:(0:Int)≤(k:Int):=by omega
     have h1k:(k:Int)<(m:Int):=by omega
     have HT:=Lib.hid (all_take digB L k hkl);have HBD:Hid (digB L[k]=false→(Rn,Re)=(0,2)):=fun h=>by rw [HE2.out,if_pos (all_bad digB L k hkl h)]
     have hv:vlO L[k]=true:=List.all_eq_true.1 HGA.out.symm _ (List.getElem_mem hkl);unfold vlO at hv;rw [Bool.and_eq_true] at hv;obtain ⟨z,hz,hz1,hz2⟩:=of_ivB hv.1;have hib:intb L[k].vn L[k].va=z:=by rw [hz1,hz2];exact intb_I z
     have HDG:Hid (digB L[k]=decide (z=0∨z=1)):=by unfold digB;rw [hib];rfl
     have HDS:Hid (dsum (L.take (k+1))=dsum (L.take k)+z.toNat*2^k):=by
      rw [Hid,List.take_succ_eq_append_getElem hkl,dsum_app,hib,List.length_take,Nat.min_eq_left (by omega)]
     have HLT:Hid (dsum (L.take k)<2^k):=by
      have h:=dsum_lt (L.take k) HK.out;rwa [List.length_take,Nat.min_eq_left (by omega)] at h
     have HSM:Hid (∀w:World,Calls Tryz.prog 37 #[.agg #[.bool L[k].vn,.string L[k].va]] w fun e w'=>e=.returned (.tuple #[.int .i64 (sm64 z),.bool (sm64B z)])∧Below w.heap.size w w'):=fun w=>by rw [hz1,hz2];exact ism_c z w hz
     generalize digB (L[k]'hkl)=q at HT HBD HDG;clear hib hz1 hz2 hv hsz;generalize (L[k]'hkl)=x at x1 x2 x3 x4 HSM;obtain ⟨S,hS⟩:∃S,S=dsum (L.take k):=⟨_,rfl⟩;rw [←hS] at HDS HLT ⊢;clear hS;have hX:=Blk.new wp #[.bool x.vn,.string x.va,.bool x.rn,.string x.ra] 39;have hbX:=b1 wp (.cells #[.bool x.vn,.string x.va,.bool x.rn,.string x.ra] 39);have hbn:=bt hbr hbX;have hXl:=hX.lt;obtain ⟨sz,hsz⟩:∃n,n=sm64 z:=⟨_,rfl⟩;obtain ⟨sb,hsb⟩:∃n,n=sm64B z:=⟨_,rfl⟩;rw [←hsz,←hsb] at HSM;have HSZ:=Lib.hid hsz;have HSB:=Lib.hid hsb;clear hsz hsb;obtain ⟨hXc0,hXf0,hXc1,hXf1,hXc2,hXf2,hXc3,hXf3⟩:=hX.x4;go_upto_region 9 with fail
     go_cut [7,8] (fun s7 s8 wx=>s7=.int .i64 sz∧s8=.bool sb∧Below w1.heap.size w1 wx)
     case first =>
      go_wp2_with fail
      refine (HSM.out _).mono ?_;rintro e w2 ⟨rfl,hb2⟩;go_wp2;go_meet
      exact ⟨rfl,rfl,bt hbn hb2⟩
     case rest =>
      obtain ⟨hs7,hs8,hbc⟩:=hcut;subst hs7 hs8;obtain ⟨wy,hwy⟩:∃wy,wy=wc:=⟨_,rfl⟩;subst hwy;clear hXc0 hXf0 hXc1 hXf1 hXc2 hXf2 hXc3 hXf3;clear hX hbX hbn hXl HSM;cases sb
      case false =>
       have HF:Hid ((Rn,Re)=(0,2)):=HBD.out (by
        rw [HDG.out];refine decide_eq_false fun h=>?_
        have h2:=of_decide_eq_false (HSB.out.symm.trans rfl);omega)
       go_wp2;refine bodyPost_ret (v:=.tuple #[.int .i64 0,.int .i64 2]) ?_ rfl ?_
       ·simp [results,Tryz.results14,go_sem]
       ·have h:=HF.out;cases h
        exact ⟨rfl,bt hbw hbc⟩
      case true =>
       have hzz:sz=z:=by
        have h2:=of_decide_eq_true (HSB.out.symm.trans rfl);rw [HSZ.out,sm64,if_pos h2]
       subst hzz;by_cases hd:sz=0∨sz=1
       ·obtain ⟨d,hdd⟩:∃d:Nat,sz=(d:Int)∧d≤1:=⟨sz.toNat,by omega,by omega⟩;obtain ⟨rfl,hd1⟩:=hdd;have e1:decide ((d:Int)<0)=false:=decide_eq_false (by omega);have e2:decide ((1:Int)<(d:Int))=false:=decide_eq_false (by omega)
        have HOR:Hid (bits .or .i64 (S:Int) (wrap64 ((d:Int)*2^min k 64))=(dsum (L.take (k+1)):Int)):=by
         rw [Hid,Nat.min_eq_left (by have:=HM32.out;omega),or_dig S d k HLT.out (by have:=HM32.out;omega) hd1,HDS.out,Int.toNat_natCast]
        have HX:Hid ((L.take (k+1)).all digB=true):=by rw [Hid,HT.out,HK.out,HDG.out,decide_eq_true hd];rfl
        clear hd hd1 HDS HLT HSZ HSB HBD HDG HT HK;go_wp2;go_roundw
        case rel=>exact ⟨k+1,by omega,by go_num,by first | (rw [HOR.out];done) | (rw [HOR.out];rfl) | (congr 1;exact HOR.out),HX,hbc⟩
        case measure=>simp [intOf];omega
       ·have HF:Hid ((Rn,Re)=(0,2)):=HBD.out (by rw [HDG.out];exact decide_eq_false hd);by_cases hn1:sz<0
        ·have e1:decide (sz<0)=true:=decide_eq_true hn1;clear hd hn1;go_wp2;refine bodyPost_ret (v:=.tuple #[.int .i64 0,.int .i64 2]) ?_ rfl ?_
         ·simp [results,Tryz.results14,go_sem]
         ·have h:=HF.out;cases h
          exact ⟨rfl,bt hbw hbc⟩
        ·have e1:decide (sz<0)=false:=decide_eq_false hn1;have e2:decide (1<sz)=true:=decide_eq_true (by omega);clear hd hn1;go_wp2;refine bodyPost_ret (v:=.tuple #[.int .i64 0,.int .i64 2]) ?_ rfl ?_
         ·simp [results,Tryz.results14,go_sem]
         ·have h:=HF.out;cases h
          exact ⟨rfl,bt hbw hbc⟩
    ·obtain rfl:k=m:=by omega
     have HD:Hid (dsum (L.take k)=dsum L):=by rw [Hid,HM.out,List.take_length]
     have HF:Hid ((Rn,Re)=(dsum L,0)):=by
      rw [Hid,HE2.out,if_neg (by rw [all_end digB L k HM.out HK.out];decide)]
     obtain ⟨S,hS⟩:∃S,S=dsum (L.take k):=⟨_,rfl⟩;rw [←hS] at HD ⊢;clear hS;go_wp2;refine bodyPost_ret (v:=.tuple #[.int .i64 (S:Int),.int .i64 0]) ?_ rfl ?_
     ·simp [results,Tryz.results14,go_sem]
     ·have h:=HF.out;cases h
      rw [HD.out];exact ⟨rfl,bt hbw hbr⟩
end
section
/- Parts of a slice of openings. -/
open Go.RowKit Go.Shelf
theorem addr_add (b o k:Nat):(⟨b,o,none⟩:Addr).add k=⟨b,o+k,none⟩:=by simp [Addr.add]
theorem RAt.take {α:Type} {Q:World→α→List Value→Prop} {size n c:Nat} {w:World} {ao:Option Addr} {l:List α} (h:RAt Q size w (.slice ao n c) l) (k c':Nat) (hk:k≤l.length):RAt Q size w (.slice ao k c') (l.take k):=by
 obtain ⟨ao',c2,hv,h⟩:=h;injection hv with e1 e2 e3
 subst e1;have hl:(l.take k).length=k:=by rw [List.length_take];omega
 refine ⟨ao,c',by rw [hl],?_⟩;rcases h with h | ⟨b,o,h1,h2,h3⟩
 ·exact .inl (by omega)
 ·refine .inr ⟨b,o,h1,h2,fun j hj=>?_⟩;obtain ⟨cs,h4,h5⟩:=h3 j (by omega);refine ⟨cs,?_,h5⟩;rw [List.getElem_take];exact h4
theorem RAt.drop {α:Type} {Q:World→α→List Value→Prop} {size n c:Nat} {w:World} {ao:Option Addr} {l:List α} (h:RAt Q size w (.slice ao n c) l) (k c':Nat) (hk:k≤l.length) (ao2:Option Addr) (ha:k<l.length→ao2=ao.map (·.add (k*size))):RAt Q size w (.slice ao2 (l.length-k) c') (l.drop k):=by
 obtain ⟨ao',c2,hv,h⟩:=h;injection hv with e1 e2 e3
 subst e1;have hl:(l.drop k).length=l.length-k:=List.length_drop;refine ⟨ao2,c',by rw [hl],?_⟩;by_cases hz:l.length-k=0
 ·exact .inl (by omega)
 rcases h with h | ⟨b,o,h1,h2,h3⟩
 ·omega
 ·refine .inr ⟨b,o+k*size,?_,h2,fun j hj=>?_⟩
  ·rw [ha (by omega),h1,Option.map_some,addr_add]
  ·obtain ⟨cs,h4,h5⟩:=h3 (k+j) (by omega);refine ⟨cs,?_,fun i hi=>?_⟩
   ·rw [List.getElem_drop];exact h4
   ·rw [←h5 i hi,Nat.add_mul,←Nat.add_assoc]
theorem slc_h (a:Option Addr) (n c k:Nat) (h:k≤c) (w:World):(Instr.slice 43 (.slice a n c) none (some (.int .i64 (k:Int))) none).run Tryz.prog w=.ok (.slice (if c=0 then a else a.map (·.add (0*4))) k c) w:=by
 have ht:Tryz.prog.underlying 43=some (.slice (Tryz.prog.elem 43)):=by kernel_rfl
 rw [run_slice_h w 43 a n c ht .i64 (k:Int) (by omega) (by omega)];simp [sliced,go_sem]
theorem slc_l (a:Option Addr) (n c k:Nat) (h:k≤n) (w:World):(Instr.slice 43 (.slice a n c) (some (.int .i64 (k:Int))) none none).run Tryz.prog w=.ok (.slice (if c=k then a else a.map (·.add (k*4))) (n-k) (c-k)) w:=by
 have ht:Tryz.prog.underlying 43=some (.slice (Tryz.prog.elem 43)):=by kernel_rfl
 rw [run_slice_l w 43 a n c ht .i64 (k:Int) (by omega) (by omega)];simp [sliced,go_sem]
theorem os_parts {w:World} {base:Nat} {v:Value} {M:List (Nat × Nat)} (h:OOwn w base v M) (k:Nat) (hk:k≤M.length) :
  ∃v1 v2:Value,(∀w':World,(Instr.slice 43 v none (some (.int .i64 (k:Int))) none).run Tryz.prog w'=.ok v1 w')∧(∀w':World,(Instr.slice 43 v (some (.int .i64 (k:Int))) none none).run Tryz.prog w'=.ok v2 w')∧OsAt w v1 ((M.take k).map nop)∧OsAt w v2 ((M.drop k).map nop):=by
 have hO:=OOwn.os h;have hlm:(M.map nop).length=M.length:=List.length_map ..;rw [List.map_take,List.map_drop];rcases h.2 with ⟨rfl,h2⟩ | ⟨g,cap,cur,rfl,_,_,hc,_⟩
 ·have hk0:k=0:=by omega
  subst hk0;refine ⟨_,_,fun w'=>slc_h none 0 0 0 (Nat.le_refl _) w',fun w'=>slc_l none 0 0 0 (Nat.le_refl _) w',?_,?_⟩
  ·exact RAt.take hO 0 _ (Nat.zero_le _)
  ·have h5:=RAt.drop hO 0 (0-0) (Nat.zero_le _) none (fun h=>by omega);rw [hlm,h2] at h5;exact h5
 ·refine ⟨_,_,fun w'=>slc_h _ _ _ _ (by omega) w',fun w'=>slc_l _ _ _ _ hk w',?_,?_⟩
  ·have h5:=RAt.take hO k cap (by omega);split
   ·exact h5
   ·rw [Option.map_some,addr_add];exact h5
  ·have h5:=RAt.drop hO k (cap-k) (by omega) (if cap=k then some ⟨g,0,none⟩ else (some ⟨g,0,none⟩:Option Addr).map (·.add (k*4))) (fun h=>by rw [if_neg (by omega)]);rw [hlm] at h5;exact h5
end
section
open Go.RowKit Go.Shelf
theorem e47:E 47=⟨#[47]⟩:=by kernel_rfl
theorem e23:E 23=⟨#[23]⟩:=by kernel_rfl
theorem e4:E 4=⟨#[4]⟩:=by kernel_rfl
theorem e9:E 9=⟨#[9]⟩:=by kernel_rfl
theorem e5:E 5=⟨#[5]⟩:=by kernel_rfl
theorem e22:E 22=⟨#[22]⟩:=by kernel_rfl
theorem e0:E 0=⟨#[]⟩:=by kernel_rfl
theorem awake24_c (w:World) (ht:TabW w):Calls Tryz.prog 9 #[] w fun e w'=>e=.returned (.bool true)∧Below w.heap.size w w':=by
 have HW:Hid (∀(lo hi:Int) (n:Nat) (w:World),widE lo hi=(n,0)→(-9223372036854775808≤lo∧lo≤9223372036854775807∧-9223372036854775808≤hi∧hi≤9223372036854775807)→Calls Tryz.prog 7 #[.int .i64 lo,.int .i64 hi] w fun e w'=>e=.returned (.tuple #[.int .i64 (n:Int),.int .i64 0])∧Below w.heap.size w w'):=fun lo hi n w h hh=>by
  have h5:=width_c lo hi w hh.1 hh.2.1 hh.2.2.1 hh.2.2.2;rw [h] at h5;exact h5
 have HW1:=Lib.hid (fun w=>HW.out 3 8 3 w (by kernel_rfl) (by decide));have HW2:=Lib.hid (fun w=>HW.out 5 5 0 w (by kernel_rfl) (by decide));have HW3:=Lib.hid (fun w=>HW.out 0 8 4 w (by kernel_rfl) (by decide));have hz:∀n k:Nat,n<256^k→(E n).size≤k:=fun n k h=>(E_size_le n k).2 h
 have HP1:Hid (∀w',Below w.heap.size w w'→Calls Tryz.prog 13 #[.agg #[.string ⟨#[47]⟩,.string ⟨#[23]⟩,.string ⟨#[4]⟩,.string ⟨#[9]⟩],.int .i64 3,.int .i64 8,.agg #[.bool false,.string ⟨#[5]⟩,.bool false,.string ⟨#[]⟩],.agg #[.slice none 0 0,.string ⟨#[120]⟩,.int .i64 0]] w' (PrPost w' exP1)):=fun w' hb=>by
  have h:=rgprep_c attN (E 47) (E 23) (E 4) (E 9) 3 8 false (E 5) false (E 0) tpX (.slice none 0 0) w' (hatt _ _ (by decide) (ht.after hb)) tpX_ok (hz 47 8 (by decide)) (hz 23 8 (by decide)) (hz 4 8 (by decide)) (hz 9 8 (by decide)) (hz 5 16 (by decide)) (hz 0 16 (by decide)) (by decide) (by decide) (by decide) (by decide) (ss_nil _);have h2:PrPost w' (rgR attN (E 47) (E 23) (E 4) (E 9) 3 8 false (E 5) false (E 0) tpX)=PrPost w' exP1:=rfl;rw [h2,e47,e23,e4,e9,e5,e0] at h;exact h
 have HP2:Hid (∀w',Below w.heap.size w w'→Calls Tryz.prog 13 #[.agg #[.string ⟨#[47]⟩,.string ⟨#[23]⟩,.string ⟨#[4]⟩,.string ⟨#[9]⟩],.int .i64 (-2),.int .i64 1,.agg #[.bool false,.string ⟨#[22]⟩,.bool false,.string ⟨#[]⟩],.agg #[.slice none 0 0,.string ⟨#[120]⟩,.int .i64 0]] w' (PrPost w' exP2)):=fun w' hb=>by
  have h:=rgprep_c attN (E 47) (E 23) (E 4) (E 9) (-2) 1 false (E 22) false (E 0) tpX (.slice none 0 0) w' (hatt _ _ (by decide) (ht.after hb)) tpX_ok (hz 47 8 (by decide)) (hz 23 8 (by decide)) (hz 4 8 (by decide)) (hz 9 8 (by decide)) (hz 22 16 (by decide)) (hz 0 16 (by decide)) (by decide) (by decide) (by decide) (by decide) (ss_nil _);have h2:PrPost w' (rgR attN (E 47) (E 23) (E 4) (E 9) (-2) 1 false (E 22) false (E 0) tpX)=PrPost w' exP2:=rfl;rw [h2,e47,e23,e4,e9,e22,e0] at h;exact h
 have HE1:=Lib.hid exP1_ok;have HE2:=Lib.hid exP2_ok;have hlo:∀(M:List (Nat × Nat)),M=exP1.ops∨M=exP2.ops→∀y∈M.map nop,y.va.size≤100∧y.ra.size≤100:=exP_size;have HLO:=Lib.hid hlo;clear HW hz hlo;obtain ⟨R1,hR1⟩:∃R,R=exP1:=⟨_,rfl⟩;obtain ⟨R2,hR2⟩:∃R,R=exP2:=⟨_,rfl⟩;rw [←hR1] at HP1 HE1 HLO;rw [←hR2] at HP2 HE2 HLO;clear hR1 hR2;obtain ⟨er1,p1,M1,t1⟩:=R1;obtain ⟨er2,p2,M2,t2⟩:=R2;simp only [] at HE1 HE2 HLO;obtain ⟨rfl,_⟩:=HE1.out;obtain ⟨rfl,_⟩:=HE2.out;have hK:=Blk.new w #[.string ⟨#[47]⟩,.string ⟨#[23]⟩,.string ⟨#[4]⟩,.string ⟨#[9]⟩] 35;have hBW:=b1 w (.cells #[.string ⟨#[47]⟩,.string ⟨#[23]⟩,.string ⟨#[4]⟩,.string ⟨#[9]⟩] 35);go_enter Tryz.func9,Tryz.ntmps9
 go_upto_region 2 with fail
 generalize w.alloc (.cells #[.string ⟨#[47]⟩,.string ⟨#[23]⟩,.string ⟨#[4]⟩,.string ⟨#[9]⟩] 35)=w1 at hK hBW ⊢;obtain ⟨gK,hgK⟩:∃g,w.heap.size=g:=⟨_,rfl⟩;rw [hgK] at hK ⊢;replace hK:Blk w1 gK 35 [.string ⟨#[47]⟩,.string ⟨#[23]⟩,.string ⟨#[4]⟩,.string ⟨#[9]⟩]:=hK;clear hgK;go_wp2_with fail
 refine (HW1.out _).mono ?_;rintro e wx1 ⟨rfl,hb⟩;replace hK:=hK.after hb;replace hBW:=bt hBW hb;clear hb;go_wp2_with fail
 refine (HW2.out _).mono ?_;rintro e wx2 ⟨rfl,hb⟩;replace hK:=hK.after hb;replace hBW:=bt hBW hb;clear hb;go_wp2_with fail
 refine (HW3.out _).mono ?_;rintro e wx3 ⟨rfl,hb⟩;replace hK:=hK.after hb;replace hBW:=bt hBW hb;clear hb;clear HW1 HW2 HW3;go_upto_region 6 with fail
 have hT:=Blk.new wx3 #[.slice none 0 0,.string ⟨#[120]⟩,.int .i64 0] 42;have hbT:=b1 wx3 (.cells #[.slice none 0 0,.string ⟨#[120]⟩,.int .i64 0] 42);replace hK:=hK.after hbT;replace hBW:=bt hBW hbT;clear hbT;generalize wx3.alloc (.cells #[.slice none 0 0,.string ⟨#[120]⟩,.int .i64 0] 42)=w5 at hK hT hBW ⊢;obtain ⟨gT,hgT⟩:∃g,wx3.heap.size=g:=⟨_,rfl⟩;rw [hgT] at hT ⊢;replace hT:Blk w5 gT 42 [.slice none 0 0,.string ⟨#[120]⟩,.int .i64 0]:=hT;clear hgT;obtain ⟨hKc0,hKf0,hKc1,hKf1,hKc2,hKf2,hKc3,hKf3⟩:=hK.x4;obtain ⟨hTc0,hTf0,hTc1,hTf1,hTc2,hTf2⟩:=hT.x3;go_wp2_with fail
 refine (HP1.out _ hBW).mono ?_;rintro e v1 ⟨p1',o1,t1',rfl,hp,hO1,⟨x,rfl,hx⟩,hb⟩;clear hKc0 hKf0 hKc1 hKf1 hKc2 hKf2 hKc3 hKf3;clear hTc0 hTf0 hTc1 hTf1 hTc2 hTf2;obtain ⟨ta1,tc1,rfl⟩:=RAt.form hx;replace hK:=hK.after hb;replace hT:=hT.after hb;replace hBW:=bt hBW hb;simp only [] at hO1 ⊢;clear hp hx HP1;replace hO1:=own_mono hO1 (Nat.zero_le _);clear hb;go_upto_region 7 with fail
 obtain ⟨tb,htb⟩:∃o:Obj,o=.cells #[.slice ta1 t1.vals.length tc1,.string t1.seed,.int .i64 t1.pos] 42:=⟨_,rfl⟩;have hbA:=b1 v1 tb;replace hK:=hK.after hbA;replace hT:=hT.after hbA;replace hO1:=own_after hO1 hbA;replace hBW:=bt hBW hbA;subst htb;generalize v1.alloc (.cells #[.slice ta1 t1.vals.length tc1,.string t1.seed,.int .i64 t1.pos] 42)=w6 at hK hT hO1 hBW ⊢;clear hbA;obtain ⟨hKc0,hKf0,hKc1,hKf1,hKc2,hKf2,hKc3,hKf3⟩:=hK.x4;obtain ⟨hTc0,hTf0,hTc1,hTf1,hTc2,hTf2⟩:=hT.x3;go_wp2_with fail
 refine (HP2.out _ hBW).mono ?_;rintro e v2 ⟨p2',o2,t2',rfl,hp,hO2,⟨x,rfl,hx⟩,hb⟩;clear hKc0 hKf0 hKc1 hKf1 hKc2 hKf2 hKc3 hKf3;clear hTc0 hTf0 hTc1 hTf1 hTc2 hTf2;obtain ⟨ta2,tc2,rfl⟩:=RAt.form hx;replace hK:=hK.after hb;replace hT:=hT.after hb;replace hBW:=bt hBW hb;simp only [] at hO2 ⊢;clear hp hx HP2;replace hO1:=own_after hO1 hb;replace hO2:=own_mono hO2 (Nat.zero_le _);clear hb;go_upto_region 8 with fail
 obtain ⟨tb,htb⟩:∃o:Obj,o=.cells #[.slice ta2 t2.vals.length tc2,.string t2.seed,.int .i64 t2.pos] 42:=⟨_,rfl⟩;have hbA:=b1 v2 tb;replace hO1:=own_after hO1 hbA;replace hO2:=own_after hO2 hbA;replace hBW:=bt hBW hbA;subst htb;generalize v2.alloc (.cells #[.slice ta2 t2.vals.length tc2,.string t2.seed,.int .i64 t2.pos] 42)=w7 at hO1 hO2 hBW ⊢;clear hbA hK hT;obtain ⟨_,hl1,hv1,hv2⟩:=HE1.out;obtain ⟨_,hl2,hv3⟩:=HE2.out;have HV1:=Lib.hid hv1;have HV2:=Lib.hid hv2;have HV3:=Lib.hid hv3;clear hv1 hv2 hv3 HE1 HE2;obtain ⟨u1,u2,hu1,hu2,ho1,ho2⟩:=os_parts hO1 3 (by omega);obtain ⟨u3,u4,hu3,hu4,ho3,ho4⟩:=os_parts hO2 2 (by omega)
 have HB1:Hid (∀w',Below w7.heap.size w7 w'→Calls Tryz.prog 14 #[u1] w' fun e w''=>e=.returned (.tuple #[.int .i64 2,.int .i64 0])∧Below w'.heap.size w' w''):=fun w' hb=>by
  have h:=bval_c ((M1.take 3).map nop) u1 w' (by rw [List.length_map,List.length_take];omega) (fun x hx=>HLO.out M1 (.inl rfl) x (by rw [List.map_take] at hx;exact List.mem_of_mem_take hx)) (OsAt.after ho1 hb);rw [HV1.out] at h;exact h
 have HB2:Hid (∀w',Below w7.heap.size w7 w'→Calls Tryz.prog 14 #[u2] w' fun e w''=>e=.returned (.tuple #[.int .i64 3,.int .i64 0])∧Below w'.heap.size w' w''):=fun w' hb=>by
  have h:=bval_c ((M1.drop 3).map nop) u2 w' (by rw [List.length_map,List.length_drop];omega) (fun x hx=>HLO.out M1 (.inl rfl) x (by rw [List.map_drop] at hx;exact List.mem_of_mem_drop hx)) (OsAt.after ho2 hb);rw [HV2.out] at h;exact h
 have HB3:Hid (∀w',Below w7.heap.size w7 w'→Calls Tryz.prog 14 #[u3] w' fun e w''=>e=.returned (.tuple #[.int .i64 1,.int .i64 0])∧Below w'.heap.size w' w''):=fun w' hb=>by
  have h:=bval_c ((M2.take 2).map nop) u3 w' (by rw [List.length_map,List.length_take];omega) (fun x hx=>HLO.out M2 (.inr rfl) x (by rw [List.map_take] at hx;exact List.mem_of_mem_take hx)) (OsAt.after ho3 hb);rw [HV3.out] at h;exact h
 obtain ⟨g1,c1,hf1⟩:=own_form hO1 (by omega);obtain ⟨g2,c2,hf2⟩:=own_form hO2 (by omega);rw [hl1] at hf1;rw [hl2] at hf2;subst hf1 hf2;clear hO1 hO2 ho1 ho2 ho3 ho4 HLO HV1 HV2 HV3 hl1 hl2 hu4;go_upto_region 10 with fail
 generalize (Value.slice (some ⟨g1,0,none⟩) 6 c1)=l1 at hu1 hu2 ⊢;generalize (Value.slice (some ⟨g2,0,none⟩) 4 c2)=l2 at hu3 ⊢;have hs1:∀w':World,(Instr.slice 43 l1 none (some (.int .i64 3)) none).run Tryz.prog w'=.ok u1 w':=hu1;have hs2:∀w':World,(Instr.slice 43 l1 (some (.int .i64 3)) none none).run Tryz.prog w'=.ok u2 w':=hu2;have hs3:∀w':World,(Instr.slice 43 l2 none (some (.int .i64 2)) none).run Tryz.prog w'=.ok u3 w':=hu3;clear hu1 hu2 hu3;go_wp2_with fail
 refine (HB1.out _ (by first | exact Below.refl _ _ | exact Below.drew (Below.refl _ _))).mono ?_;rintro e wa ⟨rfl,hba⟩;go_wp2_with fail
 refine (HB2.out _ (by first | exact hba | exact Below.drew hba | exact hba.drew)).mono ?_;rintro e wb ⟨rfl,hbb⟩;have hbc:=bt hba hbb;go_wp2_with fail
 refine (HB3.out _ (by first | exact hbc | exact Below.drew hbc | exact hbc.drew)).mono ?_;rintro e we ⟨rfl,hbe⟩;go_wp2;go_ret
 exact ⟨rfl,bt hBW (bt hbc hbe)⟩
end
end Go.Proofs.YtdoacbdkbbpamaaGreatDoor
