import Derived.Test.YtfgandecbkbleaaGreatDoorRMod1
import Derived.Test.YtfgandecbkbleaaGreatDoorHp3
import Derived.Deep.CutBlock
import Derived.Deep.QuietTactic
import Derived.Test.YtfgandecbkbleaaGreatDoorNat2
import Derived.Below
import Derived.ChangeSame
import Derived.ChangeMaps5
import Derived.JoinedOf
import Derived.JoinedAt
import Derived.RowKit3
import Derived.Deep.Strs
import Derived.Lib.SmallJoins
import Derived.OpenShut
import Derived.ProofKit
set_option linter.unusedVariables false
set_option linter.unusedSimpArgs false
set_option maxRecDepth 100000
set_option maxHeartbeats 16000000
namespace Go.Proofs.YtfgandecbkbleaaGreatDoor
section
open Go.RowKit
theorem p8:(256:Nat)^8=18446744073709551616:=by decide
theorem p8':(256:Nat)^8=2^64:=by decide
theorem p8'':(256:Nat)^8=4294967296*4294967296:=by decide
theorem bits_or64 (a b:Nat) (ha:a<2^64) (hb:b<2^64):bits .or .u64 (a:Int) (b:Int)=((a ||| b:Nat):Int):=by
 have hx:a ||| b<2^64:=Nat.or_lt_two_pow ha hb
 have h1:(BitVec.ofInt 64 (a:Int)).toNat=a:=by
  rw [BitVec.ofInt_natCast,BitVec.toNat_ofNat];exact Nat.mod_eq_of_lt ha
 have h2:(BitVec.ofInt 64 (b:Int)).toNat=b:=by
  rw [BitVec.ofInt_natCast,BitVec.toNat_ofNat];exact Nat.mod_eq_of_lt hb
 show IntKind.u64.wrap ((BitVec.ofInt 64 (a:Int) ||| BitVec.ofInt 64 (b:Int)).toNat:Int)=_;rw [BitVec.toNat_or,h1,h2];exact wrapU _ (by rw [p8'];exact hx)
theorem bits_and64 (a b:Nat) (ha:a<2^64) (hb:b<2^64):bits .and .u64 (a:Int) (b:Int)=((a &&& b:Nat):Int):=by
 have hx:a &&& b<2^64:=Nat.and_lt_two_pow _ hb
 have h1:(BitVec.ofInt 64 (a:Int)).toNat=a:=by
  rw [BitVec.ofInt_natCast,BitVec.toNat_ofNat];exact Nat.mod_eq_of_lt ha
 have h2:(BitVec.ofInt 64 (b:Int)).toNat=b:=by
  rw [BitVec.ofInt_natCast,BitVec.toNat_ofNat];exact Nat.mod_eq_of_lt hb
 show IntKind.u64.wrap ((BitVec.ofInt 64 (a:Int) &&& BitVec.ofInt 64 (b:Int)).toNat:Int)=_;rw [BitVec.toNat_and,h1,h2];exact wrapU _ (by rw [p8'];exact hx)
theorem low32 (a:Nat) (ha:a<2^64):bits .and .u64 (a:Int) 4294967295=((a%4294967296:Nat):Int):=by
 have:=bits_and64 a 4294967295 ha (by decide);rw [show (4294967295:Nat)=2^32-1 by decide,Nat.and_two_pow_sub_one_eq_mod] at this;exact this
theorem bitLenAux_spec:∀(f x:Nat),x<2^f→x<2^(Lib.bitLenAux f x)∧(x≠0→0<Lib.bitLenAux f x∧2^(Lib.bitLenAux f x)≤2*x)∧Lib.bitLenAux f x≤f
 | 0,x,h=>by
  have:x=0:=by simpa using h
  subst this;simp [Lib.bitLenAux]
 | f+1,x,h=>by
  by_cases hx:x=0
  ·subst hx;simp [Lib.bitLenAux]
  ·have ih:=bitLenAux_spec f (x / 2) (by rw [Nat.pow_succ] at h;omega);rw [Lib.bitLenAux,if_neg hx,Nat.pow_add,Nat.pow_one];refine ⟨by omega,fun _=>⟨by omega,?_⟩,by omega⟩;by_cases h2:x / 2=0
   ·have:Lib.bitLenAux f (x / 2)=0:=by rw [h2];cases f <;> simp [Lib.bitLenAux]
    rw [this];omega
   ·have:=(ih.2.1 h2).2;omega
theorem lz_spec (y:Nat) (h0:0<y) (hy:y<256^8):∃s:Nat,64-(Lib.bitLen y:Int)=(s:Int)∧s<64∧2^63≤y*2^s∧y*2^s<2^64:=by
 rw [p8'] at hy;obtain ⟨h1,h2,h3⟩:=bitLenAux_spec 64 y hy;obtain ⟨h4,h5⟩:=h2 (by omega);unfold Lib.bitLen;generalize Lib.bitLenAux 64 y=k at h1 h3 h4 h5;refine ⟨64-k,by omega,by omega,?_,?_⟩
 ·have h6:(2:Nat)^64=2^k*2^(64-k):=by rw [←Nat.pow_add];congr 1;omega
  have h7:2^k*2^(64-k)≤2*y*2^(64-k):=Nat.mul_le_mul_right _ h5;rw [Nat.mul_assoc] at h7;omega
 ·have h6:(2:Nat)^64=2^k*2^(64-k):=by rw [←Nat.pow_add];congr 1;omega
  rw [h6];exact Nat.mul_lt_mul_of_pos_right h1 (Nat.two_pow_pos _)
theorem div_facts (hi lo y s:Nat) (h1:hi<y) (hl:lo<256^8) (hs:s<64) (h63:2^63≤y*2^s) (h64:y*2^s<2^64) :
  ∃Y Y1 Y0 U L D1 D0:Nat,IntKind.u64.wrap ((y:Int)*2^s)=(Y:Int)∧(Y:Int) / 4294967296=(Y1:Int)∧bits .and .u64 (Y:Int) 4294967295=(Y0:Int) ∧
   bits .or .u64 (IntKind.u64.wrap ((hi:Int)*2^s)) ((lo:Int) / 2^(64-s))=(U:Int)∧IntKind.u64.wrap ((lo:Int)*2^s)=(L:Int)∧(L:Int) / 4294967296=(D1:Int)∧bits .and .u64 (L:Int) 4294967295=(D0:Int) ∧
   Y=y*2^s∧Y=Y1*4294967296+Y0∧Y0<4294967296∧2147483648≤Y1∧Y1<4294967296∧U<Y∧D1<4294967296∧D0<4294967296∧(U*4294967296+D1)*4294967296+D0=(hi*256^8+lo)*2^s:=by
 rw [p8'] at hl ⊢;have hp:0<2^s:=Nat.two_pow_pos _;have hh:hi*2^s<2^64:=Nat.lt_trans (Nat.mul_lt_mul_of_pos_right h1 hp) h64;have hsplit:(2:Nat)^64=2^(64-s)*2^s:=by rw [←Nat.pow_add];congr 1;omega
 have hq:lo / 2^(64-s)<2^s:=by rw [Nat.div_lt_iff_lt_mul (Nat.two_pow_pos _),Nat.mul_comm,←hsplit];exact hl
 have hqd:lo*2^s / 2^64=lo / 2^(64-s):=by rw [hsplit,Nat.mul_div_mul_right _ _ hp]
 have hlm:lo*2^s%2^64<2^64:=Nat.mod_lt _ (by decide);have hdm:=Nat.div_add_mod (lo*2^s) (2^64);have hq64:lo / 2^(64-s)<2^64:=Nat.lt_of_le_of_lt (Nat.div_le_self _ _) hl;refine ⟨y*2^s,y*2^s / 4294967296,y*2^s%4294967296,hi*2^s+lo / 2^(64-s),lo*2^s%2^64,lo*2^s%2^64 / 4294967296,lo*2^s%2^64%4294967296,?_,by simp,low32 _ h64,?_,?_,by simp,low32 _ hlm,rfl,by omega,by omega,by omega,by omega,?_,by omega,by omega,?_⟩
 ·have:=wrapU (y*2^s) (by rw [p8'];exact h64);simpa using this
 ·have e1:=wrapU (hi*2^s) (by rw [p8'];exact hh);have e2:=bits_or64 (hi*2^s) (lo / 2^(64-s)) hh hq64;have e3:=Nat.two_pow_add_eq_or_of_lt hq hi;rw [Nat.mul_comm (2^s) hi] at e3;rw [←e3] at e2;rw [show ((hi:Int)*2^s)=((hi*2^s:Nat):Int) by simp,e1,show ((lo:Int) / 2^(64-s))=((lo / 2^(64-s):Nat):Int) by simp];exact e2
 ·simp [IntKind.wrap,IntKind.signed,IntKind.bits]
 ·have h2:(hi+1)*2^s≤y*2^s:=Nat.mul_le_mul_right _ h1;rw [Nat.add_mul,Nat.one_mul] at h2;omega
 ·have h3:(hi*2^64+lo)*2^s=hi*2^s*2^64+lo*2^s:=by rw [Nat.add_mul,Nat.mul_assoc,Nat.mul_comm (2^64),Nat.mul_assoc]
  rw [h3,←hqd];generalize hi*2^s=A at *;generalize lo*2^s=C at *;omega
theorem wv (z:Int) (n:Nat) (h:z=(n:Int)) (hn:n<18446744073709551616):∃v:Nat,IntKind.u64.wrap z=(v:Int)∧v=n:=by
 subst h;exact ⟨n,wrapU n (by rw [p8];exact hn),rfl⟩
theorem mulB {q Y0:Nat} (h1:q<4294967296) (h2:Y0<4294967296):q*Y0<18446744069414584321+1:=by
 have:q*Y0≤4294967295*4294967295:=Nat.mul_le_mul (by omega) (by omega);omega
theorem wrap_rest (U D Q Y n:Nat) (h:U*4294967296+D=Q*Y+n) (hn:n<18446744073709551616) :
  IntKind.u64.wrap (IntKind.u64.wrap (IntKind.u64.wrap ((U:Int)*4294967296)+(D:Int))-IntKind.u64.wrap ((Q:Int)*(Y:Int)))=(n:Int):=by
 rw [←Int.natCast_mul];generalize Q*Y=P at h;simp [IntKind.wrap,IntKind.signed,IntKind.bits];omega
theorem div_end (N y s Y Y1 Y0 U D1 D0 Q1 Q0 R1:Nat) (hY:Y=y*2^s) (hYY:Y=Y1*4294967296+Y0) (h0:0<Y) (h64:Y<18446744073709551616) (hU:U<Y) (hD1:D1<4294967296) (hD0:D0<4294967296) (hN:(U*4294967296+D1)*4294967296+D0=N*2^s)
  (hQ1:(U*4294967296+D1) / Y=Q1) (hR1:(U*4294967296+D1)%Y=R1) (hQ0:(R1*4294967296+D0) / Y=Q0) :
  IntKind.u64.wrap (IntKind.u64.wrap ((Q1:Int)*4294967296)+(Q0:Int))=((N / y:Nat):Int) ∧
  IntKind.u64.wrap (IntKind.u64.wrap (IntKind.u64.wrap ((R1:Int)*4294967296)+(D0:Int))-IntKind.u64.wrap ((Q0:Int)*(Y:Int))) / 2^s=((N%y:Nat):Int):=by
 have hp:0<2^s:=Nat.two_pow_pos _;obtain ⟨k1,k2⟩:=kn_scale N y (2^s) hp;have hRY:R1<Y:=by rw [←hR1];exact Nat.mod_lt _ h0
 have b1:=kn_lt hYY hU hD1;have b0:=kn_lt hYY hRY hD0;rw [hQ1] at b1;rw [hQ0] at b0;constructor
 ·rw [←k1,←hN,←hY,kn_two _ _ _ _ _ h0,hQ1,hR1,hQ0];simp [IntKind.wrap,IntKind.signed,IntKind.bits];omega
 ·rw [wrap_rest R1 D0 Q0 Y ((R1*4294967296+D0)%Y) (by have:=Nat.div_add_mod (R1*4294967296+D0) Y;rw [hQ0,Nat.mul_comm] at this;exact this.symm) (by have:=Nat.mod_lt (R1*4294967296+D0) h0;omega)];rw [←k2,←hN,←hY,kn_two_mod _ _ _ _ _ h0,hR1];simp
theorem div64_c (hi lo y:Nat) (w:World) (h0:0<hi) (h1:hi<y) (hy:y<256^8) (hl:lo<256^8) :
  Calls Tryz.prog 209 #[.int .u64 hi,.int .u64 lo,.int .u64 y] w fun e w'=>e=.returned (.tuple #[.int .u64 (((hi*256^8+lo) / y:Nat):Int),.int .u64 (((hi*256^8+lo)%y:Nat):Int)])∧w=w':=by
 obtain ⟨s,hs,hsl,h63,h64⟩:=lz_spec y (by omega) hy;obtain ⟨Y,Y1,Y0,U,L,D1,D0,e1,e2,e3,e4,e5,e6,e7,hY,hYY,hY0,hY1,hY1',hU,hD1,hD0,hN⟩:=div_facts hi lo y s h1 hl hsl h63 h64;have hy0:¬ (y:Int)=0:=by omega
 have hy1:¬ (y:Int)≤(hi:Int):=by omega
 have hi0:¬ (hi:Int)=0:=by omega
 have HS:=Lib.hid ((Tryz.bits_LeadingZeros64 (y:Int) w (by omega) (by rw [p8] at hy;omega)).mono fun _ _ h=>And.intro h.1 h.2.symm);rw [show ((y:Int)).toNat=y from rfl,hs] at HS;have H:=Lib.hid (And.intro hY (And.intro hYY (And.intro hY0 (And.intro hY1 (And.intro hY1' (And.intro hU (And.intro hD1 (And.intro hD0 hN))))))));clear h0 h1 hy hl hs hY hYY hY0 hY1 hY1' hU hD1 hD0 hN h63 h64;have hy10:¬ (Y1:Int)=0:=by have:=H.out;omega
 have HE:=Lib.hid (And.intro e1 (And.intro e2 (And.intro e3 (And.intro e4 (And.intro e5 (And.intro e6 e7))))));clear e1 e2 e3 e4 e5 e6 e7;go_enter Tryz.func209,Tryz.ntmps209
 go_wp2_with fail
 refine (HS.out).mono ?_;rintro e w' ⟨rfl,rfl⟩;go_upto_region 15 with fail
 obtain ⟨e1,e2,e3,e4,e5,e6,e7⟩:=HE.out;simp only [e1,e2,e3,e4,e5,e6,e7];clear e1 e2 e3 e4 e5 e6 e7;go_upto_block 0 with fail
 obtain ⟨hY,hYY,hY0,hY1,hY1',hU,hD1,hD0,hN⟩:=H.out;have hdm:=Nat.div_add_mod U Y1;have hml:=Nat.mod_lt U (show 0<Y1 by omega);have hcm:=Nat.mul_comm Y1 (U / Y1);obtain ⟨q0,hq0,hq0'⟩:=wv ((U:Int) / (Y1:Int)) (U / Y1) (by simp) (by have:=Nat.div_le_self U Y1;omega);obtain ⟨p0,hp0,hp0'⟩:=wv ((q0:Int)*(Y1:Int)) (q0*Y1) (by simp) (by rw [hq0'];omega);obtain ⟨r0,hr0,hr0'⟩:=wv ((U:Int)-(p0:Int)) (U%Y1) (by rw [hp0',hq0',←hcm];omega) (by omega);rw [hq0,hp0,hr0];have Hst:Hid (q0*Y1+r0=U∧(U*4294967296+D1) / Y≤q0∧r0<4294967296):=⟨by rw [hq0',hr0',←hcm];exact hdm,by rw [hq0'];exact kn_first hYY (by omega) hY0 hD1,by omega⟩;clear hY hYY hY0 hY1 hY1' hU hD1 hD0 hN hdm hml hcm hq0 hq0' hp0 hp0' hr0 hr0';go_cut [15,16] from 67 to 85 (fun q _ wx=>q=.int .u64 (((U*4294967296+D1) / Y:Nat):Int)∧w=wx)
 case first =>
  go_wp2_with fail
  go_loopw [15,16] (fun a b wr=>∃q r:Nat,a=.int .u64 (q:Int)∧b=.int .u64 (r:Int)∧q*Y1+r=U∧(U*4294967296+D1) / Y≤q∧r<4294967296∧w=wr) (fun a _ _=>(intOf a).toNat)
  case atStart=>exact ⟨q0,r0,rfl,rfl,Hst.out.1,Hst.out.2.1,Hst.out.2.2,rfl⟩
  case round =>
   obtain ⟨q,r,rfl,rfl,hqr,hQq,hrB,rfl⟩:=hrel;obtain ⟨hY,hYY,hY0,hY1,hY1',hU,hD1,hD0,hN⟩:=H.out;have hQB:=kn_lt hYY hU hD1;by_cases hB:(4294967296:Int)≤(q:Int)
   ·have hgt:(U*4294967296+D1) / Y<q:=by omega
    have hql:q<18446744073709551616:=by
     have:q*1≤q*Y1:=Nat.mul_le_mul_left _ (by omega);omega
    have hqp:0<q:=Nat.lt_of_le_of_lt (Nat.zero_le _) hgt;obtain ⟨q1,hq1,hq1'⟩:=wv ((q:Int)-1) (q-1) (by omega) (by omega);obtain ⟨r1,hr1,hr1'⟩:=wv ((r:Int)+(Y1:Int)) (r+Y1) (by simp) (by omega);have Hn:Hid (q1*Y1+r1=U∧(U*4294967296+D1) / Y≤q1∧q1<q):=⟨by rw [hq1',hr1'];exact kn_down hqr hqp,by rw [hq1'];exact Nat.le_sub_one_of_lt hgt,by omega⟩;by_cases hbr:(4294967296:Int)≤(r1:Int)
    ·have Hq:Hid ((U*4294967296+D1) / Y=q1):=Nat.le_antisymm Hn.out.2.1 (kn_le hYY (by omega) Hn.out.1 (kn_break hYY hY0 hU Hn.out.1 (by omega)));clear Hst hY hYY hY0 hY1 hY1' hU hD1 hD0 hN hqr hQq hrB hQB hq1' hr1' hgt hql hqp;go_wp2;go_meet
     exact ⟨by rw [Hq.out],rfl⟩
    ·have Hr:Hid (r1<4294967296):=by show r1<4294967296;omega
     clear Hst hY hYY hY0 hY1 hY1' hU hD1 hD0 hN hqr hQq hrB hQB hq1' hr1' hgt hql hqp;go_wp2;go_roundw
     case rel=>exact ⟨q1,r1,rfl,rfl,Hn.out.1,Hn.out.2.1,Hr.out,(by first | rfl | trivial)⟩
     case measure=>simp [intOf];exact Hn.out.2.2
   ·have hm1:=mulB (show q<4294967296 by omega) hY0;obtain ⟨pp,hpp,hpp'⟩:=wv ((q:Int)*(Y0:Int)) (q*Y0) (by simp) (by omega);obtain ⟨t0,ht0,ht0'⟩:=wv (4294967296*(r:Int)) (4294967296*r) (by simp) (by omega);obtain ⟨t1,ht1,ht1'⟩:=wv ((t0:Int)+(D1:Int)) (4294967296*r+D1) (by rw [ht0'];simp) (by omega);by_cases ht:(t1:Int)<(pp:Int)
    ·have hgt:(U*4294967296+D1) / Y<q:=kn_gt hYY (by omega) hqr (by omega);have hqp:0<q:=Nat.lt_of_le_of_lt (Nat.zero_le _) hgt;obtain ⟨q1,hq1,hq1'⟩:=wv ((q:Int)-1) (q-1) (by omega) (by omega);obtain ⟨r1,hr1,hr1'⟩:=wv ((r:Int)+(Y1:Int)) (r+Y1) (by simp) (by omega);have Hn:Hid (q1*Y1+r1=U∧(U*4294967296+D1) / Y≤q1∧q1<q):=⟨by rw [hq1',hr1'];exact kn_down hqr hqp,by rw [hq1'];exact Nat.le_sub_one_of_lt hgt,by omega⟩;by_cases hbr:(4294967296:Int)≤(r1:Int)
     ·have Hq:Hid ((U*4294967296+D1) / Y=q1):=Nat.le_antisymm Hn.out.2.1 (kn_le hYY (by omega) Hn.out.1 (kn_break hYY hY0 hU Hn.out.1 (by omega)));clear Hst hY hYY hY0 hY1 hY1' hU hD1 hD0 hN hqr hQq hrB hQB hq1' hr1' hgt hm1 hpp' ht0' ht1' hqp;go_wp2;go_meet
      exact ⟨by rw [Hq.out],rfl⟩
     ·have Hr:Hid (r1<4294967296):=by show r1<4294967296;omega
      clear Hst hY hYY hY0 hY1 hY1' hU hD1 hD0 hN hqr hQq hrB hQB hq1' hr1' hgt hm1 hpp' ht0' ht1' hqp;go_wp2;go_roundw
      case rel=>exact ⟨q1,r1,rfl,rfl,Hn.out.1,Hn.out.2.1,Hr.out,(by first | rfl | trivial)⟩
      case measure=>simp [intOf];exact Hn.out.2.2
    ·have Hq:Hid ((U*4294967296+D1) / Y=q):=Nat.le_antisymm hQq (kn_le hYY (by omega) hqr (by omega));clear Hst hY hYY hY0 hY1 hY1' hU hD1 hD0 hN hqr hQq hrB hQB hm1 hpp' ht0' ht1';go_wp2;go_meet
     exact ⟨by rw [Hq.out],rfl⟩
 case rest =>
  obtain ⟨rfl,rfl⟩:=hcut;obtain ⟨Q1,hQ1⟩:∃Q1,(U*4294967296+D1) / Y=Q1:=⟨_,rfl⟩;rw [hQ1];have HQ1:=Lib.hid hQ1;clear hQ1;go_upto_region 22 with fail
  obtain ⟨R1,hR1⟩:∃R1,(U*4294967296+D1)%Y=R1:=⟨_,rfl⟩;have hwr:=wrap_rest U D1 Q1 Y R1 (by have:=Nat.div_add_mod (U*4294967296+D1) Y;rw [HQ1.out,hR1,Nat.mul_comm] at this;exact this.symm) (by have:=Nat.mod_lt (U*4294967296+D1) (show 0<Y by have:=H.out;omega);have:=H.out;omega);have HR:Hid (R1<Y):=by show R1<Y;rw [←hR1];exact Nat.mod_lt _ (by have:=H.out;omega)
  have HR1:=Lib.hid hR1;rw [hwr];clear hwr hR1;go_upto_block 2 with fail
  obtain ⟨hY,hYY,hY0,hY1,hY1',hU,hD1,hD0,hN⟩:=H.out;have hRY:=HR.out;have hdm:=Nat.div_add_mod R1 Y1;have hml:=Nat.mod_lt R1 (show 0<Y1 by omega);have hcm:=Nat.mul_comm Y1 (R1 / Y1);obtain ⟨qa,hq0,hq0'⟩:=wv ((R1:Int) / (Y1:Int)) (R1 / Y1) (by simp) (by have:=Nat.div_le_self R1 Y1;omega);obtain ⟨pa,hp0,hp0'⟩:=wv ((qa:Int)*(Y1:Int)) (qa*Y1) (by simp) (by rw [hq0'];omega);obtain ⟨ra,hr0,hr0'⟩:=wv ((R1:Int)-(pa:Int)) (R1%Y1) (by rw [hp0',hq0',←hcm];omega) (by omega);rw [hq0,hp0,hr0];have Hsu:Hid (qa*Y1+ra=R1∧(R1*4294967296+D0) / Y≤qa∧ra<4294967296):=⟨by rw [hq0',hr0',←hcm];exact hdm,by rw [hq0'];exact kn_first hYY (by omega) hY0 hD0,by omega⟩;clear hRY hY hYY hY0 hY1 hY1' hU hD1 hD0 hN hdm hml hcm hq0 hq0' hp0 hp0' hr0 hr0';go_cut [18,16] from 102 to 121 (fun q _ wx=>q=.int .u64 (((R1*4294967296+D0) / Y:Nat):Int)∧w=wx)
  case first =>
   go_wp2_with fail
   go_loopw [18,16] (fun a b wr=>∃q r:Nat,a=.int .u64 (q:Int)∧b=.int .u64 (r:Int)∧q*Y1+r=R1∧(R1*4294967296+D0) / Y≤q∧r<4294967296∧w=wr) (fun a _ _=>(intOf a).toNat)
   case atStart=>exact ⟨qa,ra,rfl,rfl,Hsu.out.1,Hsu.out.2.1,Hsu.out.2.2,rfl⟩
   case round =>
    obtain ⟨q,r,rfl,rfl,hqr,hQq,hrB,rfl⟩:=hrel;obtain ⟨hY,hYY,hY0,hY1,hY1',hU,hD1,hD0,hN⟩:=H.out;have hQB:=kn_lt hYY HR.out hD0;by_cases hB:(4294967296:Int)≤(q:Int)
    ·have hgt:(R1*4294967296+D0) / Y<q:=by omega
     have hql:q<18446744073709551616:=by
      have hRY:=HR.out;have:q*1≤q*Y1:=Nat.mul_le_mul_left _ (by omega);omega
     have hqp:0<q:=Nat.lt_of_le_of_lt (Nat.zero_le _) hgt;obtain ⟨q1,hq1,hq1'⟩:=wv ((q:Int)-1) (q-1) (by omega) (by omega);obtain ⟨r1,hr1,hr1'⟩:=wv ((r:Int)+(Y1:Int)) (r+Y1) (by simp) (by omega);have Hn:Hid (q1*Y1+r1=R1∧(R1*4294967296+D0) / Y≤q1∧q1<q):=⟨by rw [hq1',hr1'];exact kn_down hqr hqp,by rw [hq1'];exact Nat.le_sub_one_of_lt hgt,by omega⟩;by_cases hbr:(4294967296:Int)≤(r1:Int)
     ·have Hq:Hid ((R1*4294967296+D0) / Y=q1):=Nat.le_antisymm Hn.out.2.1 (kn_le hYY (by omega) Hn.out.1 (kn_break hYY hY0 HR.out Hn.out.1 (by omega)));clear Hsu hY hYY hY0 hY1 hY1' hU hD1 hD0 hN hqr hQq hrB hQB hq1' hr1' hgt hql hqp;go_wp2;go_meet
      exact ⟨by rw [Hq.out],rfl⟩
     ·have Hr:Hid (r1<4294967296):=by show r1<4294967296;omega
      clear Hsu hY hYY hY0 hY1 hY1' hU hD1 hD0 hN hqr hQq hrB hQB hq1' hr1' hgt hql hqp;go_wp2;go_roundw
      case rel=>exact ⟨q1,r1,rfl,rfl,Hn.out.1,Hn.out.2.1,Hr.out,(by first | rfl | trivial)⟩
      case measure=>simp [intOf];exact Hn.out.2.2
    ·have hm1:=mulB (show q<4294967296 by omega) hY0;obtain ⟨pp,hpp,hpp'⟩:=wv ((q:Int)*(Y0:Int)) (q*Y0) (by simp) (by omega);obtain ⟨t0,ht0,ht0'⟩:=wv (4294967296*(r:Int)) (4294967296*r) (by simp) (by omega);obtain ⟨t1,ht1,ht1'⟩:=wv ((t0:Int)+(D0:Int)) (4294967296*r+D0) (by rw [ht0'];simp) (by omega);by_cases ht:(t1:Int)<(pp:Int)
     ·have hgt:(R1*4294967296+D0) / Y<q:=kn_gt hYY (by omega) hqr (by omega);have hqp:0<q:=Nat.lt_of_le_of_lt (Nat.zero_le _) hgt;obtain ⟨q1,hq1,hq1'⟩:=wv ((q:Int)-1) (q-1) (by omega) (by omega);obtain ⟨r1,hr1,hr1'⟩:=wv ((r:Int)+(Y1:Int)) (r+Y1) (by simp) (by omega);have Hn:Hid (q1*Y1+r1=R1∧(R1*4294967296+D0) / Y≤q1∧q1<q):=⟨by rw [hq1',hr1'];exact kn_down hqr hqp,by rw [hq1'];exact Nat.le_sub_one_of_lt hgt,by omega⟩;by_cases hbr:(4294967296:Int)≤(r1:Int)
      ·have Hq:Hid ((R1*4294967296+D0) / Y=q1):=Nat.le_antisymm Hn.out.2.1 (kn_le hYY (by omega) Hn.out.1 (kn_break hYY hY0 HR.out Hn.out.1 (by omega)));clear Hsu hY hYY hY0 hY1 hY1' hU hD1 hD0 hN hqr hQq hrB hQB hq1' hr1' hgt hm1 hpp' ht0' ht1' hqp;go_wp2;go_meet
       exact ⟨by rw [Hq.out],rfl⟩
      ·have Hr:Hid (r1<4294967296):=by show r1<4294967296;omega
       clear Hsu hY hYY hY0 hY1 hY1' hU hD1 hD0 hN hqr hQq hrB hQB hq1' hr1' hgt hm1 hpp' ht0' ht1' hqp;go_wp2;go_roundw
       case rel=>exact ⟨q1,r1,rfl,rfl,Hn.out.1,Hn.out.2.1,Hr.out,(by first | rfl | trivial)⟩
       case measure=>simp [intOf];exact Hn.out.2.2
     ·have Hq:Hid ((R1*4294967296+D0) / Y=q):=Nat.le_antisymm hQq (kn_le hYY (by omega) hqr (by omega));clear Hsu hY hYY hY0 hY1 hY1' hU hD1 hD0 hN hqr hQq hrB hQB hm1 hpp' ht0' ht1';go_wp2;go_meet
      exact ⟨by rw [Hq.out],rfl⟩
  case rest =>
   obtain ⟨rfl,rfl⟩:=hcut;obtain ⟨Q0,hQ0⟩:∃Q0,(R1*4294967296+D0) / Y=Q0:=⟨_,rfl⟩;rw [hQ0];have HQ0:=Lib.hid hQ0;clear hQ0;go_upto_region 28 with fail
   go_wp2;go_ret2
   obtain ⟨hY,hYY,hY0,hY1,hY1',hU,hD1,hD0,hN⟩:=H.out;obtain ⟨z1,z2⟩:=div_end (hi*256^8+lo) y s Y Y1 Y0 U D1 D0 Q1 Q0 R1 hY hYY (by omega) (by omega) hU hD1 hD0 hN HQ1.out HR1.out HQ0.out;rw [z1,z2];exact ⟨rfl,rfl⟩
end
section
open Go.RowKit
theorem bdrewN (w:World) (n:Nat):Below w.heap.size w (w.drewN n):=⟨rfl,rfl,rfl,Nat.le_refl _,fun _ _=>rfl⟩
theorem div64_zero (lo y:Nat) (w:World) (h1:0<y) (hy:y<256^8) (hl:lo<256^8) :
  Calls Tryz.prog 209 #[.int .u64 0,.int .u64 lo,.int .u64 y] w fun e w'=>e=.returned (.tuple #[.int .u64 ((lo / y:Nat):Int),.int .u64 ((lo%y:Nat):Int)])∧Below w.heap.size w w':=by
 have hy0:¬ (y:Int)=0:=by omega
 have hy1:¬ (y:Int)≤0:=by omega
 have hw1:=wrapU_div lo y (Nat.lt_of_le_of_lt (Nat.div_le_self _ _) hl);have hw2:=wrapU_mod lo y (Nat.lt_of_le_of_lt (Nat.mod_le _ _) hl);clear h1 hy hl;go_enter Tryz.func209,Tryz.ntmps209
 go_wp2;go_quiet (fail)
 all_goals (go_wp2;go_ret2;exact ⟨r2 (by simp) (by simp),bdrewN w _⟩)
theorem div64_all (hi lo y:Nat) (w:World) (h1:hi<y) (hy:y<256^8) (hl:lo<256^8) :
  Calls Tryz.prog 209 #[.int .u64 hi,.int .u64 lo,.int .u64 y] w fun e w'=>e=.returned (.tuple #[.int .u64 (((hi*256^8+lo) / y:Nat):Int),.int .u64 (((hi*256^8+lo)%y:Nat):Int)])∧Below w.heap.size w w':=by
 rcases Nat.eq_zero_or_pos hi with rfl | h0
 ·rw [Nat.zero_mul,Nat.zero_add];exact div64_zero lo y w h1 hy hl
 ·exact (div64_c hi lo y w h0 h1 hy hl).mono fun _ _ ⟨h,hw⟩=>⟨h,hw ▸ Below.refl _ _⟩
theorem rem64_c (hi lo y:Nat) (w:World) (h1:hi<y) (hy:y<256^8) (hl:lo<256^8) :
  Calls Tryz.prog 194 #[.int .u64 hi,.int .u64 lo,.int .u64 y] w fun e w'=>e=.returned (.int .u64 (((hi*256^8+lo)%y:Nat):Int))∧Below w.heap.size w w':=by
 have hy0:¬ y=0:=by omega
 have HC:=Lib.hid (div64_all hi lo y w h1 hy hl);have hm:(hi:Int)%(y:Int)=(hi:Int):=by rw [←Int.natCast_emod,Nat.mod_eq_of_lt h1]
 generalize (hi*256^8+lo) / y=q at HC;generalize (hi*256^8+lo)%y=r at HC;clear h1 hy hl;go_enter Tryz.func194,Tryz.ntmps194
 go_wp2_with fail
 refine HC.out.mono ?_;rintro e w1 ⟨rfl,hb1⟩;go_wp2;go_ret
 exact ⟨rfl,hb1⟩
end
section
/- A row's last step. -/
open Go.RowKit Go.WideShapes Go.ChangeShapes Go.ChangeAt Go.Joins Go.Deep
open Go.ChangeMaps (open_string shut_string)
section
variable {H:Type} {enc:TypeId × Value→H} {P:Program}
theorem post_of_below {f:Func} {s:ChangeSpec} {apart fresh handsOn again:Bool} {W W':World} {args:Array Value} {v:Value} {ds gs:List (DataW H)} {before pa pv:List MemPlace}
  (hW:DataW.Whole enc P f.params.toList s.vars apart W args.toList ds gs before)
  (hres:∀(b:Nat) (sp:Nat→Bool) (hd:Bool),DataW.TrodAll enc P W' b sp hd f.resultTypes.toList (v.resultList f.resultTypes.size) (s.fn H (ds++gs)).results [])
  (hargs:∀sp:Nat→Bool,(∀p∈before,sp p.block=true)→DataW.TrodAll enc P W' 0 sp true f.params.toList args.toList (s.fn H (ds++gs)).args pa)
  (hvars:∀sp:Nat→Bool,(∀p∈before,sp p.block=true)→DataW.TrodVars enc P W' sp s.vars (s.fn H (ds++gs)).vars pv)
  (hps:before=pa++pv) (hb:Below W.heap.size W W')
  (hok:∀(j:Nat) (t:TypeId) (r:Value),f.resultTypes[j]?=some t→(v.resultList f.resultTypes.size)[j]?=some r→Value.okWide P W' .any 0 t r) :
  s.post enc P f apart fresh handsOn again W args v W':=by
 have hlt:∀p∈before,p.block<W.heap.size:=fun p hp=>hW.lt p hp
 have hold:∀p∈before,(fun b=>decide (b<W.heap.size)) p.block=true:=fun p hp=>by simpa using hlt p hp
 refine ⟨ds,gs,before,[],pa,pv,hW,hres _ _ _,hargs _ hold,hvars _ hold,World.keptBut_mono (fun p hp=>⟨hp,?_⟩) (hb.frame (·∈before)),fun _=>?_⟩
 ·rw [hps,List.mem_append] at hp;exact Or.inr hp
 ·obtain ⟨_,_,_,_,_,hz,hn⟩:=hW;refine ⟨hok,_,_,([]++pa)++pv,⟨[]++pa,pv,trodAll_append (hargs _ (fun _ _=>rfl)) (hres _ _ _),hvars _ (fun _ _=>rfl),rfl,?_,?_⟩,?_⟩
  ·intro b off hp;have hin:MemPlace.cell b off∈before:=by rw [hps];simpa using hp
   rw [hb.frozen (hlt _ hin)];exact hz b off hin
  ·intro ha;have:=hn ha;rw [hps] at this;simpa using this
  ·intro p hp _;rw [hps];simpa using hp
end
theorem own_knob:ownKnob Tryz.prog.godebug=none:=by kernel_rfl
end
section
/- Long division in base 256: the digits of a number as a list,one digit set,the steps of the loops. Plain Lean. -/
def digs (X M:Nat):List Nat:=(List.range M).map fun i=>X / 256^i%256
def setd (X p v:Nat):Nat:=X / 256^(p+1)*256^(p+1)+v*256^p+X%256^p
theorem p256 (k:Nat):0<256^k:=Nat.pow_pos (by decide)
theorem digs_len (X M:Nat):(digs X M).length=M:=by simp [digs]
theorem digs_get (X M i:Nat) (h:i<(digs X M).length):(digs X M)[i]=X / 256^i%256:=by simp [digs]
theorem digs_get? (X M i:Nat) (h:i<M):(digs X M)[i]?=some (X / 256^i%256):=by simp [digs,h]
theorem digs_zero (M:Nat):digs 0 M=List.replicate M 0:=by
 refine List.ext_getElem (by simp [digs]) fun i h1 h2=>?_
 simp [digs]
theorem dig_parts (X p:Nat):X=X / 256^(p+1)*256^(p+1)+X / 256^p%256*256^p+X%256^p:=by
 have h1:=Nat.div_add_mod X (256^(p+1));have h2:=mod_succ X p;rw [Nat.mul_comm] at h1;omega
theorem setd_eq (X p v:Nat):setd X p v+X / 256^p%256*256^p=X+v*256^p:=by
 have:=dig_parts X p;unfold setd;omega
theorem dig_low (A p L i:Nat) (h:i<p):(A*256^p+L) / 256^i%256=L / 256^i%256:=by
 obtain ⟨d,rfl⟩:∃d,p=i+1+d:=⟨p-i-1,by omega⟩;rw [show A*256^(i+1+d)+L=L+256^i*(256*(256^d*A)) by rw [Nat.pow_add,Nat.pow_add,Nat.pow_one];rw [Nat.add_comm];congr 1;rw [Nat.mul_comm A,Nat.mul_assoc,Nat.mul_assoc],Nat.add_mul_div_left _ _ (p256 i),Nat.add_mul_mod_self_left]
theorem dig_high (A p L i:Nat) (h:p≤i) (hL:L<256^p):(A*256^p+L) / 256^i=A / 256^(i-p):=by
 obtain ⟨d,rfl⟩:∃d,i=p+d:=⟨i-p,by omega⟩;rw [Nat.pow_add,←Nat.div_div_eq_div_mul,Nat.add_comm,Nat.add_mul_div_right _ _ (p256 p),Nat.div_eq_of_lt hL,Nat.zero_add,Nat.add_sub_cancel_left]
theorem low_lt (v r p:Nat) (hv:v<256) (hr:r<256^p):v*256^p+r<256^(p+1):=by
 have:(v+1)*256^p≤256*256^p:=Nat.mul_le_mul_right _ hv;rw [Nat.add_mul,Nat.one_mul] at this;rw [Nat.pow_succ,Nat.mul_comm (256^p)];omega
theorem setd_div (X p v M:Nat) (hv:v<256) (h:p<M):setd X p v / 256^M=X / 256^M:=by
 have hr:X%256^p<256^p:=Nat.mod_lt _ (p256 p)
 have e1:setd X p v / 256^M=X / 256^(p+1) / 256^(M-(p+1)):=by
  unfold setd;rw [Nat.add_assoc,dig_high _ (p+1) _ M (by omega) (low_lt v _ p hv hr)]
 rw [e1,Nat.div_div_eq_div_mul,←Nat.pow_add,show p+1+(M-(p+1))=M by omega]
theorem setd_dig (X p v i:Nat) (hv:v<256):setd X p v / 256^i%256=if i=p then v else X / 256^i%256:=by
 have hr:X%256^p<256^p:=Nat.mod_lt _ (p256 p);by_cases h:i=p
 ·subst h;rw [if_pos rfl];unfold setd
  rw [show X / 256^(i+1)*256^(i+1)+v*256^i+X%256^i=(X / 256^(i+1)*256+v)*256^i+X%256^i by rw [Nat.add_mul,Nat.pow_succ,Nat.mul_comm (256^i) 256,Nat.mul_assoc],
   dig_high _ _ _ _ (Nat.le_refl _) hr,Nat.sub_self,Nat.pow_zero,Nat.div_one,Nat.add_comm,Nat.mul_comm,Nat.add_mul_mod_self_left,Nat.mod_eq_of_lt hv]
 ·rw [if_neg h];rcases Nat.lt_or_gt_of_ne h with h1 | h1
  ·have e1:setd X p v / 256^i%256=X%256^p / 256^i%256:=by
    unfold setd;rw [show X / 256^(p+1)*256^(p+1)+v*256^p+X%256^p=(X / 256^(p+1)*256+v)*256^p+X%256^p by rw [Nat.add_mul,Nat.pow_succ,Nat.mul_comm (256^p) 256,Nat.mul_assoc],dig_low _ _ _ _ h1]
   have e2:X / 256^i%256=X%256^p / 256^i%256:=by
    conv=>lhs;rw [show X=X / 256^p*256^p+X%256^p by have:=Nat.div_add_mod X (256^p);rw [Nat.mul_comm] at this;omega]
    rw [dig_low _ _ _ _ h1]
   rw [e1,e2]
  ·rw [setd_div X p v i hv h1]
theorem digs_set (X p v M:Nat) (hv:v<256):(digs X M).set p v=digs (setd X p v) M:=by
 refine List.ext_getElem (by simp [digs]) fun i h1 h2=>?_
 rw [List.getElem_set,digs_get,digs_get,setd_dig X p v i hv];by_cases h:p=i
 ·rw [if_pos h,if_pos h.symm]
 ·rw [if_neg h,if_neg (fun e=>h e.symm)]
theorem setd_fill (X k:Nat):setd (X%256^k) k (X / 256^k%256)=X%256^(k+1):=by
 have h1:=setd_eq (X%256^k) k (X / 256^k%256);rw [Nat.div_eq_of_lt (Nat.mod_lt _ (p256 k)),Nat.zero_mod,Nat.zero_mul,Nat.add_zero] at h1;rw [h1,mod_succ];omega
theorem shl_dig0 (x s:Nat):x*2^s / 256^0%256=x%256*2^s%256:=by
 rw [Nat.pow_zero,Nat.div_one,Nat.mod_mul_mod]
theorem two8 {s:Nat} (hs:s≤7):2^(8-s)*2^s=256:=by
 rw [←Nat.pow_add,show 8-s+s=8 by omega]
theorem shl_dig (x s k:Nat) (hs:s≤7):x*2^s / 256^(k+1)%256=x / 256^(k+1)%256*2^s%256+x / 256^k%256 / 2^(8-s):=by
 have h8:=two8 hs;have hp:0<2^s:=Nat.pow_pos (by decide);have hq:0<2^(8-s):=Nat.pow_pos (by decide)
 have e1:x*2^s / 256^(k+1)=x / 256^k / 2^(8-s):=by
  rw [Nat.pow_succ,show 256^k*256=256^k*2^(8-s)*2^s by rw [Nat.mul_assoc,h8],Nat.mul_div_mul_right _ _ hp,Nat.div_div_eq_div_mul]
 have e2:x / 256^(k+1)=x / 256^k / 256:=by rw [Nat.pow_succ,Nat.div_div_eq_div_mul]
 rw [e1,e2];generalize x / 256^k=y
 have h1:y=y%256+2^(8-s)*(2^s*(y / 256)):=by
  have:=Nat.mod_add_div y 256;rw [←Nat.mul_assoc,h8];omega
 have h2:y / 2^(8-s)=y%256 / 2^(8-s)+2^s*(y / 256):=by
  conv=>lhs;rw [h1]
  rw [Nat.add_mul_div_left _ _ hq]
 have h3:y%256 / 2^(8-s)<2^s:=by
  rw [Nat.div_lt_iff_lt_mul hq,Nat.mul_comm,h8];exact Nat.mod_lt _ (by decide)
 rw [h2,Nat.mod_mul_mod,Nat.mul_comm (y / 256)];generalize y%256 / 2^(8-s)=r at h3
 have h4:2^s*(y / 256)%256=2^s*(y / 256%2^(8-s)):=by
  have:(256:Nat)=2^s*2^(8-s):=by rw [Nat.mul_comm,h8]
  conv=>lhs;arg 2;rw [this]
  rw [Nat.mul_mod_mul_left]
 have h5:2^s*(y / 256%2^(8-s))+2^s≤256:=by
  have:=Nat.mod_lt (y / 256) hq;have h6:2^s*(y / 256%2^(8-s)+1)≤2^s*2^(8-s):=Nat.mul_le_mul_left _ this;rw [Nat.mul_add,Nat.mul_one,Nat.mul_comm (2^s) (2^(8-s)),h8] at h6;exact h6
 rw [Nat.add_mod,h4,Nat.mod_eq_of_lt (a:=r) (by omega),Nat.mod_eq_of_lt (by omega)];omega
theorem shl_or (x y s:Nat) (hs:s≤7):(x%256*2^s%256) ||| (y%256 / 2^(8-s))=x%256*2^s%256+y%256 / 2^(8-s):=by
 have h8:=two8 hs;have hq:0<2^(8-s):=Nat.pow_pos (by decide)
 have h3:y%256 / 2^(8-s)<2^s:=by
  rw [Nat.div_lt_iff_lt_mul hq,Nat.mul_comm,h8];exact Nat.mod_lt _ (by decide)
 have h4:x%256*2^s%256=2^s*(x%256%2^(8-s)):=by
  have:(256:Nat)=2^s*2^(8-s):=by rw [Nat.mul_comm,h8]
  conv=>lhs;rw [Nat.mul_comm (x%256)]
  conv=>lhs;arg 2;rw [this]
  rw [Nat.mul_mod_mul_left]
 rw [h4,Nat.two_pow_add_eq_or_of_lt h3]
theorem ld_sub (X D Y j k g c t x' t':Nat) (h:Y+g*(D%256^k)*256^j=X+(c+t)*256^(j+k))
  (hx:x'+(c+g*(D / 256^k%256))%256+t=Y / 256^(j+k)%256+256*t') :
  setd Y (j+k) x'+g*(D%256^(k+1))*256^j=X+((c+g*(D / 256^k%256)) / 256+t')*256^(j+(k+1)):=by
 have h1:=setd_eq Y (j+k) x';have h2:=Nat.div_add_mod (c+g*(D / 256^k%256)) 256;have h3:=mod_succ D k;generalize (c+g*(D / 256^k%256)) / 256=c1 at *;generalize (c+g*(D / 256^k%256))%256=c0 at *;generalize Y / 256^(j+k)%256=y at *;generalize D / 256^k%256=d at *;rw [h3,show j+(k+1)=j+k+1 by omega,Nat.pow_succ]
 have e1:g*(d*256^k+D%256^k)*256^j=g*d*256^(j+k)+g*(D%256^k)*256^j:=by
  rw [Nat.mul_add,Nat.add_mul,Nat.pow_add,←Nat.mul_assoc,Nat.mul_assoc (g*d),Nat.mul_comm (256^k)]
 rw [e1];generalize g*(D%256^k)*256^j=G at *;generalize 256^(j+k)=P at *;have e2:(x'+c+g*d+t)*P=(y+256*t'+256*c1)*P:=by congr 1;omega
 rw [Nat.mul_comm P 256,show (c1+t')*(256*P)=(256*(c1+t'))*P by rw [Nat.mul_comm 256 (c1+t'),Nat.mul_assoc]];simp only [Nat.add_mul,Nat.mul_add] at *;omega
theorem ld_add (Y0 D Y j k c:Nat) (h:Y+c*256^(j+k)=Y0+D%256^k*256^j) :
  setd Y (j+k) ((c+(Y / 256^(j+k)%256+D / 256^k%256))%256)+(c+(Y / 256^(j+k)%256+D / 256^k%256)) / 256*256^(j+(k+1))=Y0+D%256^(k+1)*256^j:=by
 generalize hv:c+(Y / 256^(j+k)%256+D / 256^k%256)=v;have h1:=setd_eq Y (j+k) (v%256);have h2:=Nat.div_add_mod v 256;have h3:=mod_succ D k;generalize v / 256=c1 at *;generalize v%256=c0 at *;generalize Y / 256^(j+k)%256=y at *;generalize D / 256^k%256=d at *;rw [h3,show j+(k+1)=j+k+1 by omega,Nat.pow_succ]
 have e1:(d*256^k+D%256^k)*256^j=d*256^(j+k)+D%256^k*256^j:=by
  rw [Nat.add_mul,Nat.pow_add,Nat.mul_assoc,Nat.mul_comm (256^k)]
 rw [e1];generalize D%256^k*256^j=G at *;generalize 256^(j+k)=P at *;have e2:(c+(y+d))*P=(256*c1+c0)*P:=by congr 1;omega
 rw [Nat.mul_comm P 256,show c1*(256*P)=(256*c1)*P by rw [Nat.mul_comm 256 c1,Nat.mul_assoc]];simp only [Nat.add_mul] at *;omega
theorem ld_guess (X D j n:Nat) (hn:0<n) (hD:0<D / 256^(n-1)) (hX:X<D*256^(j+1)) :
  X<(min (X / 256^(j+n-1) / (D / 256^(n-1))) 255+1)*(D*256^j):=by
 have hD0:0<D:=by
  rcases Nat.eq_zero_or_pos D with h | h
  ·subst h;simp at hD
  ·exact h
 have hW:0<D*256^j:=Nat.mul_pos hD0 (p256 j);rw [←Nat.div_lt_iff_lt_mul hW]
 have h1:X / (D*256^j)≤255:=by
  have:X / (D*256^j)<256:=by
   rw [Nat.div_lt_iff_lt_mul hW];rw [Nat.pow_succ] at hX;rw [show 256*(D*256^j)=D*(256^j*256) by rw [Nat.mul_comm 256,Nat.mul_assoc]];exact hX
  omega
 have h2:X / (D*256^j)≤X / 256^(j+n-1) / (D / 256^(n-1)):=by
  rw [Nat.div_div_eq_div_mul];refine Nat.div_le_div_left ?_ (Nat.mul_pos (p256 _) hD);rw [show j+n-1=j+(n-1) by omega,Nat.pow_add,Nat.mul_assoc,Nat.mul_comm D,Nat.mul_comm (256^(n-1))];exact Nat.mul_le_mul_left _ (Nat.div_mul_le_self _ _)
 have:=Nat.le_min.2 ⟨h2,h1⟩;omega
theorem dig_two (X p:Nat) (h:X<256^(p+2)):X / 256^p=X / 256^(p+1)%256*256+X / 256^p%256:=by
 have e:X / 256^(p+1)=X / 256^p / 256:=by rw [Nat.pow_succ,Nat.div_div_eq_div_mul]
 have h2:X / 256^(p+1)<256:=by
  rw [Nat.div_lt_iff_lt_mul (p256 _),show 256*256^(p+1)=256^(p+2) by rw [Nat.pow_succ 256 (p+1),Nat.mul_comm]];exact h
 rw [Nat.mod_eq_of_lt h2,e];have:=Nat.div_add_mod (X / 256^p) 256;omega
theorem or8 (u v:Nat) (hv:v<256):(u*256) ||| v=u*256+v:=by
 have:=Nat.two_pow_add_eq_or_of_lt (i:=8) (show v<2^8 by omega) u;rw [Nat.mul_comm u 256];exact this.symm
theorem ld_neg (Y X G W M u:Nat) (T:Int) (hY:Y / M=u) (h:(Y:Int)+(T-u)*M=X-G*W) (hM:0<M) (hT:T<0):X<G*W:=by
 have h1:=Nat.div_add_mod Y M;have h2:=Nat.mod_lt Y hM;rw [hY] at h1;have h3:(Y:Int)=(M:Int)*(u:Int)+(Y%M:Nat):=by rw [←Int.natCast_mul];omega
 have h4:T*(M:Int)≤-1*(M:Int):=Int.mul_le_mul_of_nonneg_right (by omega) (by omega);rw [Int.sub_mul,Int.mul_comm (u:Int)] at h;have h5:(X:Int)<((G*W:Nat):Int):=by rw [Int.natCast_mul];omega
 exact Int.ofNat_lt.1 h5
theorem ld_exit (Y X G W M u:Nat) (T:Int) (hY:Y / M=u) (h:(Y:Int)+(T-u)*M=X-G*W) (hX:X<(G+1)*W) (hW:W≤M) (hM:0<M) (hT:¬ T<0):T=0∧G*W≤X∧Y%M=X-G*W:=by
 have h1:=Nat.div_add_mod Y M;rw [hY] at h1;have h3:(Y:Int)=(M:Int)*(u:Int)+(Y%M:Nat):=by rw [←Int.natCast_mul];omega
 rw [Int.sub_mul,Int.mul_comm (u:Int)] at h;rw [Nat.add_mul,Nat.one_mul] at hX;have h5:((G*W:Nat):Int)=(G:Int)*(W:Int):=Int.natCast_mul _ _
 have hT0:T=0:=by
  apply Classical.byContradiction
  intro hn;have h4:1*(M:Int)≤T*(M:Int):=Int.mul_le_mul_of_nonneg_right (by omega) (by omega);omega
 subst hT0;rw [Int.zero_mul] at h;refine ⟨rfl,?_,?_⟩ <;> omega
theorem setd_top (Y p u:Nat) (hY:Y / 256^p=u) (hu:u<256):setd Y p 0=Y%256^p:=by
 unfold setd;rw [Nat.pow_succ,←Nat.div_div_eq_div_mul,hY,Nat.div_eq_of_lt hu];omega
theorem ld_back (Y Y' X G W M u c:Nat) (T:Int) (h:(Y:Int)+(T-u)*M=X-G*W) (h0:0<G) (hb:Y'+c*M=Y+W):(Y':Int)+((T+c)-u)*M=X-((G-1:Nat):Int)*W:=by
 have e1:((G-1:Nat):Int)=(G:Int)-1:=by omega
 have e2:(Y':Int)+(c:Int)*(M:Int)=(Y:Int)+(W:Int):=by rw [←Int.natCast_mul];omega
 rw [e1];simp only [Int.sub_mul,Int.add_mul,Int.one_mul] at *;omega
theorem ld_first (Y X G W M u c t:Nat) (h:Y+G*W=X+(c+t)*M):(Y:Int)+(((u:Int)-c-t)-u)*M=X-G*W:=by
 have e:(Y:Int)+(G:Int)*(W:Int)=(X:Int)+((c:Int)+(t:Int))*(M:Int):=by rw [←Int.natCast_mul,←Int.natCast_add,←Int.natCast_add,←Int.natCast_mul,←Int.natCast_add];exact congrArg _ h
 simp only [Int.sub_mul,Int.add_mul] at *;omega
theorem ld_next (l:Nat) (A D X G j:Nat) (hv:l*(256^(j+1)*D)+X=A) (hg:G*(D*256^j)≤X):(l*256+G)*(256^j*D)+(X-G*(D*256^j))=A:=by
 rw [Nat.add_mul,Nat.mul_comm D] at *;have e:l*256*(256^j*D)=l*(256^(j+1)*D):=by rw [Nat.pow_succ,Nat.mul_comm (256^j) 256,Nat.mul_assoc,Nat.mul_assoc]
 rw [e];omega
theorem ld_end (v a b s X:Nat) (h:v*(b*2^s)+X=a*2^s) (hX:X<b*2^s):v=a / b∧X / 2^s=a%b:=by
 have hs:0<2^s:=Nat.pow_pos (by decide);obtain ⟨k1,k2⟩:=kn_scale a b (2^s) hs;have hD:0<b*2^s:=by omega
 have e1:a*2^s / (b*2^s)=v:=by
  rw [←h,Nat.add_comm,Nat.add_mul_div_right _ _ hD,Nat.div_eq_of_lt hX,Nat.zero_add]
 have e2:a*2^s%(b*2^s)=X:=by
  rw [←h,Nat.add_comm,Nat.add_mul_mod_self_right,Nat.mod_eq_of_lt hX]
 rw [e1] at k1;rw [e2] at k2;exact ⟨k1,k2⟩
theorem shr_dig (X s k:Nat) (hs:s≤7):((X / 256^k%256) ||| (X / 256^(k+1)%256*256)) / 2^s%256=X / 2^s / 256^k%256:=by
 rw [Nat.or_comm,or8 _ _ (Nat.mod_lt _ (by decide))];have e:X / 2^s / 256^k=X / 256^k / 2^s:=by rw [Nat.div_div_eq_div_mul,Nat.div_div_eq_div_mul,Nat.mul_comm]
 rw [e,Nat.pow_succ,←Nat.div_div_eq_div_mul];generalize X / 256^k=y;have h8:=two8 hs;have hp:0<2^s:=Nat.pow_pos (by decide)
 have h1:y=(y / 256%256*256+y%256)+2^s*(256*(2^(8-s)*(y / 256 / 256))):=by
  rw [show 2^s*(256*(2^(8-s)*(y / 256 / 256)))=256*256*(y / 256 / 256) by rw [Nat.mul_left_comm,←Nat.mul_assoc (2^s),Nat.mul_comm (2^s),h8,Nat.mul_assoc]];omega
 conv=>rhs;rw [h1]
 rw [Nat.add_mul_div_left _ _ hp,Nat.add_mul_mod_self_left]
end
section
open Go.RowKit
theorem lz8_spec:∀x:Fin 256,x.1≠0→∃s:Fin 8,(8-(Lib.bitLen x.1:Int))=(s.1:Int)∧128≤x.1*2^s.1∧(x.1+1)*2^s.1≤256:=by decide +kernel
theorem lz8_c (x:Nat) (w:World) (h:x<256):Calls Tryz.prog 201 #[.int .u8 (x:Int)] w fun e w'=>e=.returned (.int .i64 (8-(Lib.bitLen x:Int)))∧w=w':=
 (Tryz.bits_LeadingZeros8 (x:Int) w (by omega) (by omega)).mono fun _ _ h=>⟨by rw [h.1,Int.toNat_natCast],h.2.symm⟩
theorem scale_spec (b s n:Nat) (hn:n=(E b).size) (h0:0<b) (h1:128≤b / 256^(n-1)*2^s) (h2:(b / 256^(n-1)+1)*2^s≤256):0<n∧b*2^s<256^n∧128≤b*2^s / 256^(n-1):=by
 have hn0:0<n:=by rw [hn];exact (E_size_pos b).2 h0
 refine ⟨hn0,?_,?_⟩
 ·have h3:b<(b / 256^(n-1)+1)*256^(n-1):=by
   have:=Nat.div_add_mod b (256^(n-1));have h4:=Nat.mod_lt b (p256 (n-1));rw [Nat.add_mul,Nat.one_mul,Nat.mul_comm (b / _)];omega
  have h5:b*2^s<(b / 256^(n-1)+1)*256^(n-1)*2^s:=Nat.mul_lt_mul_of_pos_right h3 (Nat.pow_pos (by decide));have h6:(b / 256^(n-1)+1)*2^s*256^(n-1)≤256*256^(n-1):=Nat.mul_le_mul_right _ h2
  have h7:256*256^(n-1)=256^n:=by
   conv=>rhs;rw [show n=n-1+1 by omega,Nat.pow_succ,Nat.mul_comm]
  rw [Nat.mul_assoc,Nat.mul_comm (256^(n-1)),←Nat.mul_assoc] at h5;omega
 ·refine Nat.le_trans h1 ?_;rw [Nat.le_div_iff_mul_le (p256 _),Nat.mul_right_comm];exact Nat.mul_le_mul_right _ (Nat.div_mul_le_self _ _)
theorem i64_and255 (n:Int):bits .and .i64 n 255=n%256:=by
 have h1:(BitVec.ofInt 64 255).toNat=2^8-1:=by decide
 have key:(BitVec.ofInt 64 n &&& BitVec.ofInt 64 255).toNat=(n%((2^64:Nat):Int)).toNat%2^8:=by
  rw [BitVec.toNat_and,BitVec.toNat_ofInt,h1,Nat.and_two_pow_sub_one_eq_mod]
 show IntKind.i64.wrap ((BitVec.ofInt 64 n &&& BitVec.ofInt 64 255).toNat:Nat)=n%256;rw [key,IntKind.wrap_i64];omega
theorem i64_or (a b:Nat) (ha:a<65536) (hb:b<65536):bits .or .i64 (a:Int) (b:Int)=((a ||| b:Nat):Int):=by
 have h:(a ||| b)<2^16:=Nat.or_lt_two_pow ha hb
 have key:(BitVec.ofInt 64 (a:Int) ||| BitVec.ofInt 64 (b:Int)).toNat=a ||| b:=by
  rw [BitVec.toNat_or,BitVec.toNat_ofInt,BitVec.toNat_ofInt];rw [show ((a:Int)%((2^64:Nat):Int)).toNat=a by omega,show ((b:Int)%((2^64:Nat):Int)).toNat=b by omega]
 show IntKind.i64.wrap ((BitVec.ofInt 64 (a:Int) ||| BitVec.ofInt 64 (b:Int)).toNat:Nat)=_;rw [key,IntKind.wrap_i64];omega
theorem setd_setd (X p v u:Nat) (hv:v<256):setd (setd X p v) p u=setd X p u:=by
 have h1:=setd_div X p v (p+1) hv (by omega)
 have h2:setd X p v%256^p=X%256^p:=by
  have e1:∀A P:Nat,A*(P*256)=P*(256*A):=fun A P=>by rw [Nat.mul_comm A,Nat.mul_assoc]
  unfold setd;rw [Nat.pow_succ,e1,Nat.mul_comm v,←Nat.mul_add,Nat.add_comm,Nat.add_mul_mod_self_left,Nat.mod_mod]
 show setd X p v / 256^(p+1)*256^(p+1)+u*256^p+setd X p v%256^p=_;rw [h1,h2];rfl
theorem or_val (x s k v0:Nat) (hs:s<8) (hk:0<k) (hv:v0=dgt (E x) k*2^s%256):bits BinOp.or IntKind.i64 (v0:Int) ((dgt (E x) (k-1):Int) / 2^(8-s))=((x*2^s / 256^k%256:Nat):Int):=by
 obtain ⟨j,rfl⟩:∃j,k=j+1:=⟨k-1,by omega⟩;have h1:=dgt_lt (E x) (j+1-1);rw [dgt_E] at h1;have e:(dgt (E x) (j+1-1):Int) / 2^(8-s)=((dgt (E x) (j+1-1) / 2^(8-s):Nat):Int):=by rw [Int.natCast_ediv];simp
 rw [e,dgt_E,hv,dgt_E,Nat.add_sub_cancel,shl_dig x s j (by omega),←shl_or _ _ s (by omega)];have h2:x / 256^j%256 / 2^(8-s)≤x / 256^j%256:=Nat.div_le_self _ _;rw [Nat.add_sub_cancel] at h1;exact i64_or _ _ (by omega) (by omega)
theorem digz_c (s:ByteArray) (z:Int) (w:World) (hs:s.size≤1000000) (h0:0≤z) (h1:z≤1000000) :
  Calls Tryz.prog 150 #[.string s,.int .i64 z] w fun e w'=>e=.returned (.int .i64 (dgt s z.toNat))∧w'=w:=
 (digit_c s z w (by omega) h0 (by omega)).mono fun _ _ h=>⟨h.1,h.2.symm⟩
theorem shl_val (d s:Nat) (hd:d<256) (hs:s<8):bits BinOp.and IntKind.i64 (wrap64 ((d:Int)*2^s)) 255=((d*2^s%256:Nat):Int):=by
 have h1:d*2^s≤255*128:=Nat.mul_le_mul (by omega) (Nat.pow_le_pow_right (by decide) (show s≤7 by omega));have e:(d:Int)*2^s=((d*2^s:Nat):Int):=by simp
 rw [e,i64_and255,IntWalk.wrap64_in _ (by omega)];omega
theorem guess_val (u v t:Nat) (hu:u<256) (hv:v<256) (ht:128≤t) (ht8:t<256):min (IntKind.i64.wrap ((bits BinOp.or IntKind.i64 (IntKind.i64.wrap ((u:Int)*256)) (v:Int)).tdiv (t:Int))) 255=((min ((u*256+v) / t) 255:Nat):Int):=by
 have e1:IntKind.i64.wrap ((u:Int)*256)=((u*256:Nat):Int):=by rw [IntWalk.i64_in _ (by omega)];omega
 rw [e1,i64_or _ _ (by omega) (by omega),or8 u v hv,←Int.ofNat_tdiv];have h2:(u*256+v) / t≤u*256+v:=Nat.div_le_self _ _;generalize (u*256+v) / t=q at h2 ⊢;rw [IntWalk.i64_in _ (by omega)];omega
theorem blk_digs (w:World) (m:Nat):Blk (w.alloc (.cells (Array.replicate m (Value.int .i64 0)) 3)) w.heap.size 3 (i64s (digs 0 m)):=by
 have:=Blk.new w (Array.replicate m (Value.int .i64 0)) 3;rw [digs_zero,i64s,List.map_replicate];simpa using this
theorem digs_cell {w:World} {g X M:Nat} {T:TypeId} (h:Blk w g T (i64s (digs X M))) (i:Nat) (hi:i<M):w.cell? ⟨g,i,none⟩=some (.int .i64 ((X / 256^i%256:Nat):Int)):=by
 have hl:i<(digs X M).length:=by rw [digs_len];exact hi
 rw [i64_cell h i hl,digs_get]
theorem digs_put {w:World} {g X M:Nat} {T:TypeId} (h:Blk w g T (i64s (digs X M))) (i v:Nat) (hv:v<256):Blk (w.setCell ⟨g,i,none⟩ (.int .i64 (v:Int))) g T (i64s (digs (setd X i v) M)):=by
 have:=i64_set h i v;rw [digs_set X i v M hv] at this;exact this
end
end Go.Proofs.YtfgandecbkbleaaGreatDoor
