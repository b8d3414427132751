import Derived.Test.YtihjpddbjhcbmaaGreatDoorRMod2
import Derived.Deep.CutBlock
set_option linter.unusedVariables false
set_option linter.unusedSimpArgs false
set_option maxRecDepth 100000
set_option maxHeartbeats 16000000
namespace Go.Proofs.YtihjpddbjhcbmaaGreatDoor
section
/- one step of Knuth's division with two digits,in natural numbers -/
section
variable {B Y Y1 Y0 U D q r:Nat}
theorem kn_lt (hY:Y=Y1*B+Y0) (hU:U<Y) (hD:D<B):(U*B+D) / Y<B:=by
 rw[Nat.div_lt_iff_lt_mul (by omega)];have:(U+1)*B≤Y*B:=Nat.mul_le_mul_right B hU;have h2:(U+1)*B=U*B+B:=by rw[Nat.add_mul,Nat.one_mul]
 have h3:B*Y=Y*B:=Nat.mul_comm _ _;omega
theorem kn_le (hY:Y=Y1*B+Y0) (hb:0<Y) (hq:q*Y1+r=U) (h:q*Y0≤B*r+D):q≤(U*B+D) / Y:=by
 rw[Nat.le_div_iff_mul_le hb,hY,Nat.mul_add,←Nat.mul_assoc,←hq,Nat.add_mul,Nat.mul_comm r B];omega
theorem kn_gt (hY:Y=Y1*B+Y0) (hb:0<Y) (hq:q*Y1+r=U) (h:B*r+D<q*Y0):(U*B+D) / Y<q:=by
 rw[Nat.div_lt_iff_lt_mul hb,hY,Nat.mul_add,←Nat.mul_assoc,←hq,Nat.add_mul,Nat.mul_comm r B];omega
theorem kn_start (hY:Y=Y1*B+Y0) (h1:0<Y1) (h0:Y0<B):(U*B+D) / Y≤(U*B+D) / (Y1*B):=
 Nat.div_le_div_left (by omega) (Nat.mul_pos h1 (by omega))
theorem kn_first (hY:Y=Y1*B+Y0) (h1:0<Y1) (h0:Y0<B) (hD:D<B):(U*B+D) / Y≤U / Y1:=by
 refine Nat.le_trans (kn_start hY h1 h0) ?_;rw[Nat.mul_comm Y1 B,←Nat.div_div_eq_div_mul,Nat.mul_comm U B,Nat.mul_add_div (by omega),Nat.div_eq_of_lt hD,Nat.add_zero];exact Nat.le_refl _
theorem kn_break (hY:Y=Y1*B+Y0) (h0:Y0<B) (hU:U<Y) (hq:q*Y1+r=U) (hr:B≤r):q*Y0≤B*r+D:=by
 have h1:q*Y1<B*Y1:=by rw[Nat.mul_comm B Y1];omega
 have h2:q<B:=Nat.lt_of_mul_lt_mul_right h1;have h3:q*Y0≤B*Y0:=Nat.mul_le_mul_right _ (by omega);have h4:B*Y0≤B*r:=Nat.mul_le_mul_left _ (by omega);omega
theorem kn_down (hq:q*Y1+r=U) (h:0<q):(q-1)*Y1+(r+Y1)=U:=by
 have:q=q-1+1:=by omega
 rw[this,Nat.add_mul,Nat.one_mul]at hq;omega
end
theorem kn_two (n0 n1 n2 Y B:Nat) (hY:0<Y) :
  ((n0*B+n1)*B+n2) / Y=(n0*B+n1) / Y*B+((n0*B+n1)%Y*B+n2) / Y:=by
 have h:=Nat.div_add_mod (n0*B+n1) Y
 have:(n0*B+n1)*B+n2=Y*((n0*B+n1) / Y*B)+((n0*B+n1)%Y*B+n2):=by
  conv=>lhs;rw[←h]
  rw[Nat.add_mul,Nat.mul_assoc,Nat.add_assoc]
 rw[this,Nat.mul_add_div hY]
theorem kn_two_mod (n0 n1 n2 Y B:Nat) (hY:0<Y) :
  ((n0*B+n1)*B+n2)%Y=((n0*B+n1)%Y*B+n2)%Y:=by
 have h:=Nat.div_add_mod (n0*B+n1) Y
 have:(n0*B+n1)*B+n2=Y*((n0*B+n1) / Y*B)+((n0*B+n1)%Y*B+n2):=by
  conv=>lhs;rw[←h]
  rw[Nat.add_mul,Nat.mul_assoc,Nat.add_assoc]
 rw[this,Nat.mul_add_mod]
theorem kn_scale (N y t:Nat) (ht:0<t):(N*t) / (y*t)=N / y∧(N*t)%(y*t) / t=N%y:=by
 refine⟨Nat.mul_div_mul_right _ _ ht,?_⟩;rw[Nat.mul_mod_mul_right,Nat.mul_div_cancel _ ht]
end
section
open Go.RowKit
theorem p8:(256:Nat)^8=18446744073709551616:=by decide
theorem p8':(256:Nat)^8=2^64:=by decide
theorem bits_or64 (a b:Nat) (ha:a<2^64) (hb:b<2^64):bits .or .u64 (a:Int) (b:Int)=((a ||| b:Nat):Int):=by
 have hx:a ||| b<2^64:=Nat.or_lt_two_pow ha hb
 have h1:(BitVec.ofInt 64 (a:Int)).toNat=a:=by
  rw[BitVec.ofInt_natCast,BitVec.toNat_ofNat];exact Nat.mod_eq_of_lt ha
 have h2:(BitVec.ofInt 64 (b:Int)).toNat=b:=by
  rw[BitVec.ofInt_natCast,BitVec.toNat_ofNat];exact Nat.mod_eq_of_lt hb
 show IntKind.u64.wrap ((BitVec.ofInt 64 (a:Int) ||| BitVec.ofInt 64 (b:Int)).toNat:Int)=_;rw[BitVec.toNat_or,h1,h2];exact wrapU _ (by rw[p8'];exact hx)
theorem bits_and64 (a b:Nat) (ha:a<2^64) (hb:b<2^64):bits .and .u64 (a:Int) (b:Int)=((a &&& b:Nat):Int):=by
 have hx:a &&& b<2^64:=Nat.and_lt_two_pow _ hb
 have h1:(BitVec.ofInt 64 (a:Int)).toNat=a:=by
  rw[BitVec.ofInt_natCast,BitVec.toNat_ofNat];exact Nat.mod_eq_of_lt ha
 have h2:(BitVec.ofInt 64 (b:Int)).toNat=b:=by
  rw[BitVec.ofInt_natCast,BitVec.toNat_ofNat];exact Nat.mod_eq_of_lt hb
 show IntKind.u64.wrap ((BitVec.ofInt 64 (a:Int) &&& BitVec.ofInt 64 (b:Int)).toNat:Int)=_;rw[BitVec.toNat_and,h1,h2];exact wrapU _ (by rw[p8'];exact hx)
theorem low32 (a:Nat) (ha:a<2^64):bits .and .u64 (a:Int) 4294967295=((a%4294967296:Nat):Int):=by
 have:=bits_and64 a 4294967295 ha (by decide);rw[show (4294967295:Nat)=2^32-1 by decide,Nat.and_two_pow_sub_one_eq_mod]at this;exact this
theorem bitLenAux_spec:∀(f x:Nat),x<2^f→x<2^(Lib.bitLenAux f x)∧(x≠0→0<Lib.bitLenAux f x∧2^(Lib.bitLenAux f x)≤2*x)∧Lib.bitLenAux f x≤f
 | 0,x,h=>by
  have:x=0:=by simpa using h
  subst this;simp[Lib.bitLenAux]
 | f+1,x,h=>by
  by_cases hx:x=0
  ·subst hx;simp[Lib.bitLenAux]
  ·have ih:=bitLenAux_spec f (x / 2) (by rw[Nat.pow_succ]at h;omega);rw[Lib.bitLenAux,if_neg hx,Nat.pow_add,Nat.pow_one];refine⟨by omega,fun _=>⟨by omega,?_⟩,by omega⟩;by_cases h2:x / 2=0
   ·have:Lib.bitLenAux f (x / 2)=0:=by rw[h2];cases f <;> simp[Lib.bitLenAux]
    rw[this];omega
   ·have:=(ih.2.1 h2).2;omega
theorem lz_spec (y:Nat) (h0:0<y) (hy:y<256^8):∃s:Nat,64-(Lib.bitLen y:Int)=(s:Int)∧s<64∧2^63≤y*2^s∧y*2^s<2^64:=by
 rw[p8']at hy;obtain⟨h1,h2,h3⟩:=bitLenAux_spec 64 y hy;obtain⟨h4,h5⟩:=h2 (by omega);unfold Lib.bitLen;generalize Lib.bitLenAux 64 y=k at h1 h3 h4 h5;refine⟨64-k,by omega,by omega,?_,?_⟩
 ·have h6:(2:Nat)^64=2^k*2^(64-k):=by rw[←Nat.pow_add];congr 1;omega
  have h7:2^k*2^(64-k)≤2*y*2^(64-k):=Nat.mul_le_mul_right _ h5;rw[Nat.mul_assoc]at h7;omega
 ·have h6:(2:Nat)^64=2^k*2^(64-k):=by rw[←Nat.pow_add];congr 1;omega
  rw[h6];exact Nat.mul_lt_mul_of_pos_right h1 (Nat.two_pow_pos _)
theorem div_facts (hi lo y s:Nat) (h1:hi<y) (hl:lo<256^8) (hs:s<64) (hg:2^63≤y*2^s) (hc:y*2^s<2^64) :
  ∃Y Y1 Y0 U L D1 D0:Nat,IntKind.u64.wrap ((y:Int)*2^s)=(Y:Int)∧(Y:Int) / 4294967296=(Y1:Int)∧bits .and .u64 (Y:Int) 4294967295=(Y0:Int) ∧
   bits .or .u64 (IntKind.u64.wrap ((hi:Int)*2^s)) ((lo:Int) / 2^(64-s))=(U:Int)∧IntKind.u64.wrap ((lo:Int)*2^s)=(L:Int)∧(L:Int) / 4294967296=(D1:Int)∧bits .and .u64 (L:Int) 4294967295=(D0:Int) ∧
   Y=y*2^s∧Y=Y1*4294967296+Y0∧Y0<4294967296∧2147483648≤Y1∧Y1<4294967296∧U<Y∧D1<4294967296∧D0<4294967296∧(U*4294967296+D1)*4294967296+D0=(hi*256^8+lo)*2^s:=by
 rw[p8']at hl ⊢;have hp:0<2^s:=Nat.two_pow_pos _;have hh:hi*2^s<2^64:=Nat.lt_trans (Nat.mul_lt_mul_of_pos_right h1 hp) hc;have hb:(2:Nat)^64=2^(64-s)*2^s:=by rw[←Nat.pow_add];congr 1;omega
 have hq:lo / 2^(64-s)<2^s:=by rw[Nat.div_lt_iff_lt_mul (Nat.two_pow_pos _),Nat.mul_comm,←hb];exact hl
 have he:lo*2^s / 2^64=lo / 2^(64-s):=by rw[hb,Nat.mul_div_mul_right _ _ hp]
 have hf:lo*2^s%2^64<2^64:=Nat.mod_lt _ (by decide);have hj:=Nat.div_add_mod (lo*2^s) (2^64);have hd:lo / 2^(64-s)<2^64:=Nat.lt_of_le_of_lt (Nat.div_le_self _ _) hl;refine⟨y*2^s,y*2^s / 4294967296,y*2^s%4294967296,hi*2^s+lo / 2^(64-s),lo*2^s%2^64,lo*2^s%2^64 / 4294967296,lo*2^s%2^64%4294967296,?_,by simp,low32 _ hc,?_,?_,by simp,low32 _ hf,rfl,by omega,by omega,by omega,by omega,?_,by omega,by omega,?_⟩
 ·have:=wrapU (y*2^s) (by rw[p8'];exact hc);simpa using this
 ·have e1:=wrapU (hi*2^s) (by rw[p8'];exact hh);have e2:=bits_or64 (hi*2^s) (lo / 2^(64-s)) hh hd;have e3:=Nat.two_pow_add_eq_or_of_lt hq hi;rw[Nat.mul_comm (2^s) hi]at e3;rw[←e3]at e2;rw[show ((hi:Int)*2^s)=((hi*2^s:Nat):Int) by simp,e1,show ((lo:Int) / 2^(64-s))=((lo / 2^(64-s):Nat):Int) by simp];exact e2
 ·simp[IntKind.wrap,IntKind.signed,IntKind.bits]
 ·have h2:(hi+1)*2^s≤y*2^s:=Nat.mul_le_mul_right _ h1;rw[Nat.add_mul,Nat.one_mul]at h2;omega
 ·have h3:(hi*2^64+lo)*2^s=hi*2^s*2^64+lo*2^s:=by rw[Nat.add_mul,Nat.mul_assoc,Nat.mul_comm (2^64),Nat.mul_assoc]
  rw[h3,←he];generalize hi*2^s=A at *;generalize lo*2^s=C at *;omega
theorem wv (z:Int) (n:Nat) (h:z=(n:Int)) (hn:n<18446744073709551616):∃v:Nat,IntKind.u64.wrap z=(v:Int)∧v=n:=by
 subst h;exact⟨n,wrapU n (by rw[p8];exact hn),rfl⟩
theorem mulB {q Y0:Nat} (h1:q<4294967296) (h2:Y0<4294967296):q*Y0<18446744069414584321+1:=by
 have:q*Y0≤4294967295*4294967295:=Nat.mul_le_mul (by omega) (by omega);omega
theorem wrap_rest (U D Q Y n:Nat) (h:U*4294967296+D=Q*Y+n) (hn:n<18446744073709551616) :
  IntKind.u64.wrap (IntKind.u64.wrap (IntKind.u64.wrap ((U:Int)*4294967296)+(D:Int))-IntKind.u64.wrap ((Q:Int)*(Y:Int)))=(n:Int):=by
 rw[←Int.natCast_mul];generalize Q*Y=P at h;simp[IntKind.wrap,IntKind.signed,IntKind.bits];omega
theorem div_end (N y s Y Y1 Y0 U D1 D0 Q1 Q0 R1:Nat) (hY:Y=y*2^s) (hd:Y=Y1*4294967296+Y0) (h0:0<Y) (hi:Y<18446744073709551616) (hU:U<Y) (hf:D1<4294967296) (hg:D0<4294967296) (hN:(U*4294967296+D1)*4294967296+D0=N*2^s)
  (he:(U*4294967296+D1) / Y=Q1) (hb:(U*4294967296+D1)%Y=R1) (hc:(R1*4294967296+D0) / Y=Q0) :
  IntKind.u64.wrap (IntKind.u64.wrap ((Q1:Int)*4294967296)+(Q0:Int))=((N / y:Nat):Int) ∧
  IntKind.u64.wrap (IntKind.u64.wrap (IntKind.u64.wrap ((R1:Int)*4294967296)+(D0:Int))-IntKind.u64.wrap ((Q0:Int)*(Y:Int))) / 2^s=((N%y:Nat):Int):=by
 have hp:0<2^s:=Nat.two_pow_pos _;obtain⟨k1,k2⟩:=kn_scale N y (2^s) hp;have hh:R1<Y:=by rw[←hb];exact Nat.mod_lt _ h0
 have b1:=kn_lt hd hU hf;have b0:=kn_lt hd hh hg;rw[he]at b1;rw[hc]at b0;constructor
 ·rw[←k1,←hN,←hY,kn_two _ _ _ _ _ h0,he,hb,hc];simp[IntKind.wrap,IntKind.signed,IntKind.bits];omega
 ·rw[wrap_rest R1 D0 Q0 Y ((R1*4294967296+D0)%Y) (by have:=Nat.div_add_mod (R1*4294967296+D0) Y;rw[hc,Nat.mul_comm]at this;exact this.symm) (by have:=Nat.mod_lt (R1*4294967296+D0) h0;omega)];rw[←k2,←hN,←hY,kn_two_mod _ _ _ _ _ h0,hb];simp
theorem div64_c (hi lo y:Nat) (w:World) (h0:0<hi) (h1:hi<y) (hy:y<256^8) (hl:lo<256^8) :
  Calls Tryz.prog 318 #[.int .u64 hi,.int .u64 lo,.int .u64 y] w fun e w'=>e=.returned (.tuple #[.int .u64 (((hi*256^8+lo) / y:Nat):Int),.int .u64 (((hi*256^8+lo)%y:Nat):Int)])∧w=w':=by
 obtain⟨s,hs,hW,hQ,hR⟩:=lz_spec y (by omega) hy;obtain⟨Y,Y1,Y0,U,L,D1,D0,e1,e2,e3,e4,e5,e6,e7,hY,hd,hf,hk,hb,hU,hh,hj,hN⟩:=div_facts hi lo y s h1 hl hW hQ hR;have hy0:¬ (y:Int)=0:=by omega
 have hy1:¬ (y:Int)≤(hi:Int):=by omega
 have h6:¬ (hi:Int)=0:=by omega
 have HS:=Kh ((Tryz.bits_LeadingZeros64 (y:Int) w (by omega) (by rw[p8]at hy;omega)).mono fun _ _ h=>And.intro h.1 h.2.symm);rw[show ((y:Int)).toNat=y from rfl,hs]at HS;have H:=Kh (And.intro hY (And.intro hd (And.intro hf (And.intro hk (And.intro hb (And.intro hU (And.intro hh (And.intro hj hN))))))));clear h0 h1 hy hl hs hY hd hf hk hb hU hh hj hN hQ hR;have hX:¬ (Y1:Int)=0:=by have:=H.out;omega
 have HE:=Kh (And.intro e1 (And.intro e2 (And.intro e3 (And.intro e4 (And.intro e5 (And.intro e6 e7))))));clear e1 e2 e3 e4 e5 e6 e7;go_enter Tryz.func318,Tryz.ntmps318
 go_wp2_with fail
 refine (HS.out).mono ?_;rintro e w' ⟨rfl,rfl⟩;go_upto_region 15 with fail
 obtain⟨e1,e2,e3,e4,e5,e6,e7⟩:=HE.out;simp only[e1,e2,e3,e4,e5,e6,e7];clear e1 e2 e3 e4 e5 e6 e7;go_upto_block 0 with fail
 obtain⟨hY,hd,hf,hk,hb,hU,hh,hj,hN⟩:=H.out;have hD:=Nat.div_add_mod U Y1;have hJ:=Nat.mod_lt U (show 0<Y1 by omega);have hA:=Nat.mul_comm Y1 (U / Y1);obtain⟨q0,hE,hg⟩:=wv ((U:Int) / (Y1:Int)) (U / Y1) (by simp) (by have:=Nat.div_le_self U Y1;omega);obtain⟨p0,hF,hv⟩:=wv ((q0:Int)*(Y1:Int)) (q0*Y1) (by simp) (by rw[hg];omega);obtain⟨r0,hG,hw⟩:=wv ((U:Int)-(p0:Int)) (U%Y1) (by rw[hv,hg,←hA];omega) (by omega);rw[hE,hF,hG];have Hst:Hid (q0*Y1+r0=U∧(U*4294967296+D1) / Y≤q0∧r0<4294967296):=⟨by rw[hg,hw,←hA];exact hD,by rw[hg];exact kn_first hd (by omega) hf hh,by omega⟩;clear hY hd hf hk hb hU hh hj hN hD hJ hA hE hg hF hv hG hw;go_cut [15,16] from 67 to 85 (fun q _ wx=>q=.int .u64 (((U*4294967296+D1) / Y:Nat):Int)∧w=wx)
 case first =>
  go_wp2_with fail
  go_loopw [15,16] (fun a b wr=>∃q r:Nat,a=.int .u64 (q:Int)∧b=.int .u64 (r:Int)∧q*Y1+r=U∧(U*4294967296+D1) / Y≤q∧r<4294967296∧w=wr) (fun a _ _=>(intOf a).toNat)
  case atStart=>exact⟨q0,r0,rfl,rfl,Hst.out.1,Hst.out.2.1,Hst.out.2.2,rfl⟩
  case round =>
   obtain⟨q,r,rfl,rfl,hm,hu,hx,rfl⟩:=hrel;obtain⟨hY,hd,hf,hk,hb,hU,hh,hj,hN⟩:=H.out;have hz:=kn_lt hd hU hh;by_cases hB:(4294967296:Int)≤(q:Int)
   ·have hn:(U*4294967296+D1) / Y<q:=by omega
    have hH:q<18446744073709551616:=by
     have:q*1≤q*Y1:=Nat.mul_le_mul_left _ (by omega);omega
    have hp:0<q:=Nat.lt_of_le_of_lt (Nat.zero_le _) hn;obtain⟨q1,hK,hc⟩:=wv ((q:Int)-1) (q-1) (by omega) (by omega);obtain⟨r1,hL,he⟩:=wv ((r:Int)+(Y1:Int)) (r+Y1) (by simp) (by omega);have Hn:Hid (q1*Y1+r1=U∧(U*4294967296+D1) / Y≤q1∧q1<q):=⟨by rw[hc,he];exact kn_down hm hp,by rw[hc];exact Nat.le_sub_one_of_lt hn,by omega⟩;by_cases hM:(4294967296:Int)≤(r1:Int)
    ·have Hq:Hid ((U*4294967296+D1) / Y=q1):=Nat.le_antisymm Hn.out.2.1 (kn_le hd (by omega) Hn.out.1 (kn_break hd hf hU Hn.out.1 (by omega)));clear Hst hY hd hf hk hb hU hh hj hN hm hu hx hz hc he hn hH hp;go_wp2;go_meet
     exact⟨by rw[Hq.out],rfl⟩
    ·have Hr:Hid (r1<4294967296):=by show r1<4294967296;omega
     clear Hst hY hd hf hk hb hU hh hj hN hm hu hx hz hc he hn hH hp;go_wp2;go_roundw
     case rel=>exact⟨q1,r1,rfl,rfl,Hn.out.1,Hn.out.2.1,Hr.out,(by first | rfl | trivial)⟩
     case measure=>simp[intOf];exact Hn.out.2.2
   ·have hC:=mulB (show q<4294967296 by omega) hf;obtain⟨pp,hZ,hq⟩:=wv ((q:Int)*(Y0:Int)) (q*Y0) (by simp) (by omega);obtain⟨t0,h2,ho⟩:=wv (4294967296*(r:Int)) (4294967296*r) (by simp) (by omega);obtain⟨t1,h3,hr⟩:=wv ((t0:Int)+(D1:Int)) (4294967296*r+D1) (by rw[ho];simp) (by omega);by_cases ht:(t1:Int)<(pp:Int)
    ·have hn:(U*4294967296+D1) / Y<q:=kn_gt hd (by omega) hm (by omega);have hp:0<q:=Nat.lt_of_le_of_lt (Nat.zero_le _) hn;obtain⟨q1,hK,hc⟩:=wv ((q:Int)-1) (q-1) (by omega) (by omega);obtain⟨r1,hL,he⟩:=wv ((r:Int)+(Y1:Int)) (r+Y1) (by simp) (by omega);have Hn:Hid (q1*Y1+r1=U∧(U*4294967296+D1) / Y≤q1∧q1<q):=⟨by rw[hc,he];exact kn_down hm hp,by rw[hc];exact Nat.le_sub_one_of_lt hn,by omega⟩;by_cases hM:(4294967296:Int)≤(r1:Int)
     ·have Hq:Hid ((U*4294967296+D1) / Y=q1):=Nat.le_antisymm Hn.out.2.1 (kn_le hd (by omega) Hn.out.1 (kn_break hd hf hU Hn.out.1 (by omega)));clear Hst hY hd hf hk hb hU hh hj hN hm hu hx hz hc he hn hC hq ho hr hp;go_wp2;go_meet
      exact⟨by rw[Hq.out],rfl⟩
     ·have Hr:Hid (r1<4294967296):=by show r1<4294967296;omega
      clear Hst hY hd hf hk hb hU hh hj hN hm hu hx hz hc he hn hC hq ho hr hp;go_wp2;go_roundw
      case rel=>exact⟨q1,r1,rfl,rfl,Hn.out.1,Hn.out.2.1,Hr.out,(by first | rfl | trivial)⟩
      case measure=>simp[intOf];exact Hn.out.2.2
    ·have Hq:Hid ((U*4294967296+D1) / Y=q):=Nat.le_antisymm hu (kn_le hd (by omega) hm (by omega));clear Hst hY hd hf hk hb hU hh hj hN hm hu hx hz hC hq ho hr;go_wp2;go_meet
     exact⟨by rw[Hq.out],rfl⟩
 case rest =>
  obtain⟨rfl,rfl⟩:=hcut;obtain⟨Q1,hO⟩:∃Q1,(U*4294967296+D1) / Y=Q1:=⟨_,rfl⟩;rw[hO];have hS:=Kh hO;clear hO;go_upto_region 22 with fail
  obtain⟨R1,hI⟩:∃R1,(U*4294967296+D1)%Y=R1:=⟨_,rfl⟩;have hT:=wrap_rest U D1 Q1 Y R1 (by have:=Nat.div_add_mod (U*4294967296+D1) Y;rw[hS.out,hI,Nat.mul_comm]at this;exact this.symm) (by have:=Nat.mod_lt (U*4294967296+D1) (show 0<Y by have:=H.out;omega);have:=H.out;omega);have HR:Hid (R1<Y):=by show R1<Y;rw[←hI];exact Nat.mod_lt _ (by have:=H.out;omega)
  have h4:=Kh hI;rw[hT];clear hT hI;go_upto_block 2 with fail
  obtain⟨hY,hd,hf,hk,hb,hU,hh,hj,hN⟩:=H.out;have hV:=HR.out;have hD:=Nat.div_add_mod R1 Y1;have hJ:=Nat.mod_lt R1 (show 0<Y1 by omega);have hA:=Nat.mul_comm Y1 (R1 / Y1);obtain⟨qa,hE,hg⟩:=wv ((R1:Int) / (Y1:Int)) (R1 / Y1) (by simp) (by have:=Nat.div_le_self R1 Y1;omega);obtain⟨pa,hF,hv⟩:=wv ((qa:Int)*(Y1:Int)) (qa*Y1) (by simp) (by rw[hg];omega);obtain⟨ra,hG,hw⟩:=wv ((R1:Int)-(pa:Int)) (R1%Y1) (by rw[hv,hg,←hA];omega) (by omega);rw[hE,hF,hG];have Hsu:Hid (qa*Y1+ra=R1∧(R1*4294967296+D0) / Y≤qa∧ra<4294967296):=⟨by rw[hg,hw,←hA];exact hD,by rw[hg];exact kn_first hd (by omega) hf hj,by omega⟩;clear hV hY hd hf hk hb hU hh hj hN hD hJ hA hE hg hF hv hG hw;go_cut [18,16] from 102 to 121 (fun q _ wx=>q=.int .u64 (((R1*4294967296+D0) / Y:Nat):Int)∧w=wx)
  case first =>
   go_wp2_with fail
   go_loopw [18,16] (fun a b wr=>∃q r:Nat,a=.int .u64 (q:Int)∧b=.int .u64 (r:Int)∧q*Y1+r=R1∧(R1*4294967296+D0) / Y≤q∧r<4294967296∧w=wr) (fun a _ _=>(intOf a).toNat)
   case atStart=>exact⟨qa,ra,rfl,rfl,Hsu.out.1,Hsu.out.2.1,Hsu.out.2.2,rfl⟩
   case round =>
    obtain⟨q,r,rfl,rfl,hm,hu,hx,rfl⟩:=hrel;obtain⟨hY,hd,hf,hk,hb,hU,hh,hj,hN⟩:=H.out;have hz:=kn_lt hd HR.out hj;by_cases hB:(4294967296:Int)≤(q:Int)
    ·have hn:(R1*4294967296+D0) / Y<q:=by omega
     have hH:q<18446744073709551616:=by
      have hV:=HR.out;have:q*1≤q*Y1:=Nat.mul_le_mul_left _ (by omega);omega
     have hp:0<q:=Nat.lt_of_le_of_lt (Nat.zero_le _) hn;obtain⟨q1,hK,hc⟩:=wv ((q:Int)-1) (q-1) (by omega) (by omega);obtain⟨r1,hL,he⟩:=wv ((r:Int)+(Y1:Int)) (r+Y1) (by simp) (by omega);have Hn:Hid (q1*Y1+r1=R1∧(R1*4294967296+D0) / Y≤q1∧q1<q):=⟨by rw[hc,he];exact kn_down hm hp,by rw[hc];exact Nat.le_sub_one_of_lt hn,by omega⟩;by_cases hM:(4294967296:Int)≤(r1:Int)
     ·have Hq:Hid ((R1*4294967296+D0) / Y=q1):=Nat.le_antisymm Hn.out.2.1 (kn_le hd (by omega) Hn.out.1 (kn_break hd hf HR.out Hn.out.1 (by omega)));clear Hsu hY hd hf hk hb hU hh hj hN hm hu hx hz hc he hn hH hp;go_wp2;go_meet
      exact⟨by rw[Hq.out],rfl⟩
     ·have Hr:Hid (r1<4294967296):=by show r1<4294967296;omega
      clear Hsu hY hd hf hk hb hU hh hj hN hm hu hx hz hc he hn hH hp;go_wp2;go_roundw
      case rel=>exact⟨q1,r1,rfl,rfl,Hn.out.1,Hn.out.2.1,Hr.out,(by first | rfl | trivial)⟩
      case measure=>simp[intOf];exact Hn.out.2.2
    ·have hC:=mulB (show q<4294967296 by omega) hf;obtain⟨pp,hZ,hq⟩:=wv ((q:Int)*(Y0:Int)) (q*Y0) (by simp) (by omega);obtain⟨t0,h2,ho⟩:=wv (4294967296*(r:Int)) (4294967296*r) (by simp) (by omega);obtain⟨t1,h3,hr⟩:=wv ((t0:Int)+(D0:Int)) (4294967296*r+D0) (by rw[ho];simp) (by omega);by_cases ht:(t1:Int)<(pp:Int)
     ·have hn:(R1*4294967296+D0) / Y<q:=kn_gt hd (by omega) hm (by omega);have hp:0<q:=Nat.lt_of_le_of_lt (Nat.zero_le _) hn;obtain⟨q1,hK,hc⟩:=wv ((q:Int)-1) (q-1) (by omega) (by omega);obtain⟨r1,hL,he⟩:=wv ((r:Int)+(Y1:Int)) (r+Y1) (by simp) (by omega);have Hn:Hid (q1*Y1+r1=R1∧(R1*4294967296+D0) / Y≤q1∧q1<q):=⟨by rw[hc,he];exact kn_down hm hp,by rw[hc];exact Nat.le_sub_one_of_lt hn,by omega⟩;by_cases hM:(4294967296:Int)≤(r1:Int)
      ·have Hq:Hid ((R1*4294967296+D0) / Y=q1):=Nat.le_antisymm Hn.out.2.1 (kn_le hd (by omega) Hn.out.1 (kn_break hd hf HR.out Hn.out.1 (by omega)));clear Hsu hY hd hf hk hb hU hh hj hN hm hu hx hz hc he hn hC hq ho hr hp;go_wp2;go_meet
       exact⟨by rw[Hq.out],rfl⟩
      ·have Hr:Hid (r1<4294967296):=by show r1<4294967296;omega
       clear Hsu hY hd hf hk hb hU hh hj hN hm hu hx hz hc he hn hC hq ho hr hp;go_wp2;go_roundw
       case rel=>exact⟨q1,r1,rfl,rfl,Hn.out.1,Hn.out.2.1,Hr.out,(by first | rfl | trivial)⟩
       case measure=>simp[intOf];exact Hn.out.2.2
     ·have Hq:Hid ((R1*4294967296+D0) / Y=q):=Nat.le_antisymm hu (kn_le hd (by omega) hm (by omega));clear Hsu hY hd hf hk hb hU hh hj hN hm hu hx hz hC hq ho hr;go_wp2;go_meet
      exact⟨by rw[Hq.out],rfl⟩
  case rest =>
   obtain⟨rfl,rfl⟩:=hcut;obtain⟨Q0,hP⟩:∃Q0,(R1*4294967296+D0) / Y=Q0:=⟨_,rfl⟩;rw[hP];have h5:=Kh hP;clear hP;go_upto_region 28 with fail
   go_wp2;go_ret2
   obtain⟨hY,hd,hf,hk,hb,hU,hh,hj,hN⟩:=H.out;obtain⟨z1,z2⟩:=div_end (hi*256^8+lo) y s Y Y1 Y0 U D1 D0 Q1 Q0 R1 hY hd (by omega) (by omega) hU hh hj hN hS.out h4.out h5.out;rw[z1,z2];exact⟨rfl,rfl⟩
end
end Go.Proofs.YtihjpddbjhcbmaaGreatDoor
