import Derived.Test.YtdgddpnjkinciaaGreatDoorHv1
import Derived.Test.YtdgddpnjkinciaaGreatDoorLg4
import Derived.Deep.CutBlock
set_option linter.all false
set_option maxRecDepth 100000
set_option maxHeartbeats 16000000
namespace Go.Proofs.YtdgddpnjkinciaaGreatDoor
section
open Go.RowKit
theorem p8:(256:Nat)^8=18446744073709551616:=by decide
theorem p8':(256:Nat)^8=2^64:=by decide
theorem bits_or64 (a b:Nat) (ha:a<2^64) (hb:b<2^64):bits .or .u64 (a:Int) (b:Int)=((a ||| b:Nat):Int):=by
 have hx:a ||| b<2^64:=Nat.or_lt_two_pow ha hb
 have h1:(BitVec.ofInt 64 (a:Int)).toNat=a:=by
  rw[BitVec.ofInt_natCast,BitVec.toNat_ofNat];exact Nat.mod_eq_of_lt ha
 have h2:(BitVec.ofInt 64 (b:Int)).toNat=b:=by
  rw[BitVec.ofInt_natCast,BitVec.toNat_ofNat];exact Nat.mod_eq_of_lt hb
 show IntKind.u64.wrap ((BitVec.ofInt 64 (a:Int) ||| BitVec.ofInt 64 (b:Int)).toNat:Int)=_;rw[BitVec.toNat_or,h1,h2];exact wrapU _ (by rw[p8'];exact hx)
theorem bits_and64 (a b:Nat) (ha:a<2^64) (hb:b<2^64):bits .and .u64 (a:Int) (b:Int)=((a &&& b:Nat):Int):=by
 have hx:a &&& b<2^64:=Nat.and_lt_two_pow _ hb
 have h1:(BitVec.ofInt 64 (a:Int)).toNat=a:=by
  rw[BitVec.ofInt_natCast,BitVec.toNat_ofNat];exact Nat.mod_eq_of_lt ha
 have h2:(BitVec.ofInt 64 (b:Int)).toNat=b:=by
  rw[BitVec.ofInt_natCast,BitVec.toNat_ofNat];exact Nat.mod_eq_of_lt hb
 show IntKind.u64.wrap ((BitVec.ofInt 64 (a:Int) &&& BitVec.ofInt 64 (b:Int)).toNat:Int)=_;rw[BitVec.toNat_and,h1,h2];exact wrapU _ (by rw[p8'];exact hx)
theorem low32 (a:Nat) (ha:a<2^64):bits .and .u64 (a:Int) 4294967295=((a%4294967296:Nat):Int):=by
 have:=bits_and64 a 4294967295 ha (by decide);rw[show (4294967295:Nat)=2^32-1 by decide,Nat.and_two_pow_sub_one_eq_mod]at this;exact this
theorem bitLenAux_spec:∀(f x:Nat),x<2^f→x<2^(Lib.bitLenAux f x)∧(x≠0→0<Lib.bitLenAux f x∧2^(Lib.bitLenAux f x)≤2*x)∧Lib.bitLenAux f x≤f
 | 0,x,h=>by
  have:x=0:=by simpa using h
  subst this;simp[Lib.bitLenAux]
 | f+1,x,h=>by
  by_cases hx:x=0
  ·subst hx;simp[Lib.bitLenAux]
  ·have ih:=bitLenAux_spec f (x / 2) (by rw[Nat.pow_succ]at h;omega);rw[Lib.bitLenAux,if_neg hx,Nat.pow_add,Nat.pow_one];refine⟨by omega,fun _=>⟨by omega,?_⟩,by omega⟩;by_cases h2:x / 2=0
   ·have:Lib.bitLenAux f (x / 2)=0:=by rw[h2];cases f <;> simp[Lib.bitLenAux]
    rw[this];omega
   ·have:=(ih.2.1 h2).2;omega
theorem lz_spec (y:Nat) (h0:0<y) (hy:y<256^8):∃s:Nat,64-(Lib.bitLen y:Int)=(s:Int)∧s<64∧2^63≤y*2^s∧y*2^s<2^64:=by
 rw[p8']at hy;obtain⟨h1,h2,h3⟩:=bitLenAux_spec 64 y hy;obtain⟨h4,h5⟩:=h2 (by omega);unfold Lib.bitLen;generalize Lib.bitLenAux 64 y=k at h1 h3 h4 h5;refine⟨64-k,by omega,by omega,?_,?_⟩
 ·have h6:(2:Nat)^64=2^k*2^(64-k):=by rw[←Nat.pow_add];congr 1;omega
  have h7:2^k*2^(64-k)≤2*y*2^(64-k):=Nat.mul_le_mul_right _ h5;rw[Nat.mul_assoc]at h7;omega
 ·have h6:(2:Nat)^64=2^k*2^(64-k):=by rw[←Nat.pow_add];congr 1;omega
  rw[h6];exact Nat.mul_lt_mul_of_pos_right h1 (Nat.two_pow_pos _)
theorem div_facts (hi lo y s:Nat) (h1:hi<y) (hl:lo<256^8) (hs:s<64) (hg:2^63≤y*2^s) (hc:y*2^s<2^64) :
  ∃Y Y1 Y0 U L D1 D0:Nat,IntKind.u64.wrap ((y:Int)*2^s)=(Y:Int)∧(Y:Int) / 4294967296=(Y1:Int)∧bits .and .u64 (Y:Int) 4294967295=(Y0:Int) ∧
   bits .or .u64 (IntKind.u64.wrap ((hi:Int)*2^s)) ((lo:Int) / 2^(64-s))=(U:Int)∧IntKind.u64.wrap ((lo:Int)*2^s)=(L:Int)∧(L:Int) / 4294967296=(D1:Int)∧bits .and .u64 (L:Int) 4294967295=(D0:Int) ∧
   Y=y*2^s∧Y=Y1*4294967296+Y0∧Y0<4294967296∧2147483648≤Y1∧Y1<4294967296∧U<Y∧D1<4294967296∧D0<4294967296∧(U*4294967296+D1)*4294967296+D0=(hi*256^8+lo)*2^s:=by
 rw[p8']at hl ⊢;have hp:0<2^s:=Nat.two_pow_pos _;have hh:hi*2^s<2^64:=Nat.lt_trans (Nat.mul_lt_mul_of_pos_right h1 hp) hc;have hb:(2:Nat)^64=2^(64-s)*2^s:=by rw[←Nat.pow_add];congr 1;omega
 have hq:lo / 2^(64-s)<2^s:=by rw[Nat.div_lt_iff_lt_mul (Nat.two_pow_pos _),Nat.mul_comm,←hb];exact hl
 have he:lo*2^s / 2^64=lo / 2^(64-s):=by rw[hb,Nat.mul_div_mul_right _ _ hp]
 have hf:lo*2^s%2^64<2^64:=Nat.mod_lt _ (by decide);have hj:=Nat.div_add_mod (lo*2^s) (2^64);have hd:lo / 2^(64-s)<2^64:=Nat.lt_of_le_of_lt (Nat.div_le_self _ _) hl;refine⟨y*2^s,y*2^s / 4294967296,y*2^s%4294967296,hi*2^s+lo / 2^(64-s),lo*2^s%2^64,lo*2^s%2^64 / 4294967296,lo*2^s%2^64%4294967296,?_,by simp,low32 _ hc,?_,?_,by simp,low32 _ hf,rfl,by omega,by omega,by omega,by omega,?_,by omega,by omega,?_⟩
 ·have:=wrapU (y*2^s) (by rw[p8'];exact hc);simpa using this
 ·have e1:=wrapU (hi*2^s) (by rw[p8'];exact hh);have e2:=bits_or64 (hi*2^s) (lo / 2^(64-s)) hh hd;have e3:=Nat.two_pow_add_eq_or_of_lt hq hi;rw[Nat.mul_comm (2^s) hi]at e3;rw[←e3]at e2;rw[show ((hi:Int)*2^s)=((hi*2^s:Nat):Int) by simp,e1,show ((lo:Int) / 2^(64-s))=((lo / 2^(64-s):Nat):Int) by simp];exact e2
 ·simp[IntKind.wrap,IntKind.signed,IntKind.bits]
 ·have h2:(hi+1)*2^s≤y*2^s:=Nat.mul_le_mul_right _ h1;rw[Nat.add_mul,Nat.one_mul]at h2;omega
 ·have h3:(hi*2^64+lo)*2^s=hi*2^s*2^64+lo*2^s:=by rw[Nat.add_mul,Nat.mul_assoc,Nat.mul_comm (2^64),Nat.mul_assoc]
  rw[h3,←he];generalize hi*2^s=A at *;generalize lo*2^s=C at *;omega
theorem wv (z:Int) (n:Nat) (h:z=(n:Int)) (hn:n<18446744073709551616):∃v:Nat,IntKind.u64.wrap z=(v:Int)∧v=n:=by
 subst h;exact⟨n,wrapU n (by rw[p8];exact hn),rfl⟩
theorem mulB {q Y0:Nat} (h1:q<4294967296) (h2:Y0<4294967296):q*Y0<18446744069414584321+1:=by
 have:q*Y0≤4294967295*4294967295:=Nat.mul_le_mul (by omega) (by omega);omega
theorem wrap_rest (U D Q Y n:Nat) (h:U*4294967296+D=Q*Y+n) (hn:n<18446744073709551616) :
  IntKind.u64.wrap (IntKind.u64.wrap (IntKind.u64.wrap ((U:Int)*4294967296)+(D:Int))-IntKind.u64.wrap ((Q:Int)*(Y:Int)))=(n:Int):=by
 rw[←Int.natCast_mul];generalize Q*Y=P at h;simp[IntKind.wrap,IntKind.signed,IntKind.bits];omega
theorem div_end (N y s Y Y1 Y0 U D1 D0 Q1 Q0 R1:Nat) (hY:Y=y*2^s) (hd:Y=Y1*4294967296+Y0) (h0:0<Y) (hi:Y<18446744073709551616) (hU:U<Y) (hf:D1<4294967296) (hg:D0<4294967296) (hN:(U*4294967296+D1)*4294967296+D0=N*2^s)
  (he:(U*4294967296+D1) / Y=Q1) (hb:(U*4294967296+D1)%Y=R1) (hc:(R1*4294967296+D0) / Y=Q0) :
  IntKind.u64.wrap (IntKind.u64.wrap ((Q1:Int)*4294967296)+(Q0:Int))=((N / y:Nat):Int) ∧
  IntKind.u64.wrap (IntKind.u64.wrap (IntKind.u64.wrap ((R1:Int)*4294967296)+(D0:Int))-IntKind.u64.wrap ((Q0:Int)*(Y:Int))) / 2^s=((N%y:Nat):Int):=by
 have hp:0<2^s:=Nat.two_pow_pos _;obtain⟨k1,k2⟩:=kn_scale N y (2^s) hp;have hh:R1<Y:=by rw[←hb];exact Nat.mod_lt _ h0
 have b1:=kn_lt hd hU hf;have b0:=kn_lt hd hh hg;rw[he]at b1;rw[hc]at b0;constructor
 ·rw[←k1,←hN,←hY,kn_two _ _ _ _ _ h0,he,hb,hc];simp[IntKind.wrap,IntKind.signed,IntKind.bits];omega
 ·rw[wrap_rest R1 D0 Q0 Y ((R1*4294967296+D0)%Y) (by have:=Nat.div_add_mod (R1*4294967296+D0) Y;rw[hc,Nat.mul_comm]at this;exact this.symm) (by have:=Nat.mod_lt (R1*4294967296+D0) h0;omega)];rw[←k2,←hN,←hY,kn_two_mod _ _ _ _ _ h0,hb];simp
theorem div64_c (hi lo y:Nat) (w:World) (h0:0<hi) (h1:hi<y) (hy:y<256^8) (hl:lo<256^8) :
  Calls Tryz.prog 200 #[.int .u64 hi,.int .u64 lo,.int .u64 y] w fun e w'=>e=.returned (.tuple #[.int .u64 (((hi*256^8+lo) / y:Nat):Int),.int .u64 (((hi*256^8+lo)%y:Nat):Int)])∧w=w':=by
 obtain⟨s,hs,hW,hQ,hR⟩:=lz_spec y (by omega) hy;obtain⟨Y,Y1,Y0,U,L,D1,D0,e1,e2,e3,e4,e5,e6,e7,hY,hd,hf,hk,hb,hU,hh,hj,hN⟩:=div_facts hi lo y s h1 hl hW hQ hR;have hy0:¬ (y:Int)=0:=by omega
 have hy1:¬ (y:Int)≤(hi:Int):=by omega
 have h6:¬ (hi:Int)=0:=by omega
 have HS:=Kh ((Tryz.bits_LeadingZeros64 (y:Int) w (by omega) (by rw[p8]at hy;omega)).mono fun _ _ h=>And.intro h.1 h.2.symm);rw[show ((y:Int)).toNat=y from rfl,hs]at HS;have H:=Kh (And.intro hY (And.intro hd (And.intro hf (And.intro hk (And.intro hb (And.intro hU (And.intro hh (And.intro hj hN))))))));clear h0 h1 hy hl hs hY hd hf hk hb hU hh hj hN hQ hR;have hX:¬ (Y1:Int)=0:=by have:=H.out;omega
 have HE:=Kh (And.intro e1 (And.intro e2 (And.intro e3 (And.intro e4 (And.intro e5 (And.intro e6 e7))))));clear e1 e2 e3 e4 e5 e6 e7;go_enter Tryz.func200,Tryz.ntmps200
 go_wp2_with fail
 refine (HS.out).mono ?_;rintro e w' ⟨rfl,rfl⟩;go_upto_region 15 with fail
 obtain⟨e1,e2,e3,e4,e5,e6,e7⟩:=HE.out;simp only[e1,e2,e3,e4,e5,e6,e7];clear e1 e2 e3 e4 e5 e6 e7;go_upto_block 0 with fail
 obtain⟨hY,hd,hf,hk,hb,hU,hh,hj,hN⟩:=H.out;have hD:=Nat.div_add_mod U Y1;have hJ:=Nat.mod_lt U (show 0<Y1 by omega);have hA:=Nat.mul_comm Y1 (U / Y1);obtain⟨q0,hE,hg⟩:=wv ((U:Int) / (Y1:Int)) (U / Y1) (by simp) (by have:=Nat.div_le_self U Y1;omega);obtain⟨p0,hF,hv⟩:=wv ((q0:Int)*(Y1:Int)) (q0*Y1) (by simp) (by rw[hg];omega);obtain⟨r0,hG,hw⟩:=wv ((U:Int)-(p0:Int)) (U%Y1) (by rw[hv,hg,←hA];omega) (by omega);rw[hE,hF,hG];have Hst:Hid (q0*Y1+r0=U∧(U*4294967296+D1) / Y≤q0∧r0<4294967296):=⟨by rw[hg,hw,←hA];exact hD,by rw[hg];exact kn_first hd (by omega) hf hh,by omega⟩;clear hY hd hf hk hb hU hh hj hN hD hJ hA hE hg hF hv hG hw;go_cut [15,16] from 67 to 85 (fun q _ wx=>q=.int .u64 (((U*4294967296+D1) / Y:Nat):Int)∧w=wx)
 case first =>
  go_wp2_with fail
  go_loopw [15,16] (fun a b wr=>∃q r:Nat,a=.int .u64 (q:Int)∧b=.int .u64 (r:Int)∧q*Y1+r=U∧(U*4294967296+D1) / Y≤q∧r<4294967296∧w=wr) (fun a _ _=>(intOf a).toNat)
  case atStart=>exact⟨q0,r0,rfl,rfl,Hst.out.1,Hst.out.2.1,Hst.out.2.2,rfl⟩
  case round =>
   obtain⟨q,r,rfl,rfl,hm,hu,hx,rfl⟩:=hrel;obtain⟨hY,hd,hf,hk,hb,hU,hh,hj,hN⟩:=H.out;have hz:=kn_lt hd hU hh;by_cases hB:(4294967296:Int)≤(q:Int)
   ·have hn:(U*4294967296+D1) / Y<q:=by omega
    have hH:q<18446744073709551616:=by
     have:q*1≤q*Y1:=Nat.mul_le_mul_left _ (by omega);omega
    have hp:0<q:=Nat.lt_of_le_of_lt (Nat.zero_le _) hn;obtain⟨q1,hK,hc⟩:=wv ((q:Int)-1) (q-1) (by omega) (by omega);obtain⟨r1,hL,he⟩:=wv ((r:Int)+(Y1:Int)) (r+Y1) (by simp) (by omega);have Hn:Hid (q1*Y1+r1=U∧(U*4294967296+D1) / Y≤q1∧q1<q):=⟨by rw[hc,he];exact kn_down hm hp,by rw[hc];exact Nat.le_sub_one_of_lt hn,by omega⟩;by_cases hM:(4294967296:Int)≤(r1:Int)
    ·have Hq:Hid ((U*4294967296+D1) / Y=q1):=Nat.le_antisymm Hn.out.2.1 (kn_le hd (by omega) Hn.out.1 (kn_break hd hf hU Hn.out.1 (by omega)));clear Hst hY hd hf hk hb hU hh hj hN hm hu hx hz hc he hn hH hp;go_wp2;go_meet
     exact⟨by rw[Hq.out],rfl⟩
    ·have Hr:Hid (r1<4294967296):=by show r1<4294967296;omega
     clear Hst hY hd hf hk hb hU hh hj hN hm hu hx hz hc he hn hH hp;go_wp2;go_roundw
     case rel=>exact⟨q1,r1,rfl,rfl,Hn.out.1,Hn.out.2.1,Hr.out,(by first | rfl | trivial)⟩
     case measure=>simp[intOf];exact Hn.out.2.2
   ·have hC:=mulB (show q<4294967296 by omega) hf;obtain⟨pp,hZ,hq⟩:=wv ((q:Int)*(Y0:Int)) (q*Y0) (by simp) (by omega);obtain⟨t0,h2,ho⟩:=wv (4294967296*(r:Int)) (4294967296*r) (by simp) (by omega);obtain⟨t1,h3,hr⟩:=wv ((t0:Int)+(D1:Int)) (4294967296*r+D1) (by rw[ho];simp) (by omega);by_cases ht:(t1:Int)<(pp:Int)
    ·have hn:(U*4294967296+D1) / Y<q:=kn_gt hd (by omega) hm (by omega);have hp:0<q:=Nat.lt_of_le_of_lt (Nat.zero_le _) hn;obtain⟨q1,hK,hc⟩:=wv ((q:Int)-1) (q-1) (by omega) (by omega);obtain⟨r1,hL,he⟩:=wv ((r:Int)+(Y1:Int)) (r+Y1) (by simp) (by omega);have Hn:Hid (q1*Y1+r1=U∧(U*4294967296+D1) / Y≤q1∧q1<q):=⟨by rw[hc,he];exact kn_down hm hp,by rw[hc];exact Nat.le_sub_one_of_lt hn,by omega⟩;by_cases hM:(4294967296:Int)≤(r1:Int)
     ·have Hq:Hid ((U*4294967296+D1) / Y=q1):=Nat.le_antisymm Hn.out.2.1 (kn_le hd (by omega) Hn.out.1 (kn_break hd hf hU Hn.out.1 (by omega)));clear Hst hY hd hf hk hb hU hh hj hN hm hu hx hz hc he hn hC hq ho hr hp;go_wp2;go_meet
      exact⟨by rw[Hq.out],rfl⟩
     ·have Hr:Hid (r1<4294967296):=by show r1<4294967296;omega
      clear Hst hY hd hf hk hb hU hh hj hN hm hu hx hz hc he hn hC hq ho hr hp;go_wp2;go_roundw
      case rel=>exact⟨q1,r1,rfl,rfl,Hn.out.1,Hn.out.2.1,Hr.out,(by first | rfl | trivial)⟩
      case measure=>simp[intOf];exact Hn.out.2.2
    ·have Hq:Hid ((U*4294967296+D1) / Y=q):=Nat.le_antisymm hu (kn_le hd (by omega) hm (by omega));clear Hst hY hd hf hk hb hU hh hj hN hm hu hx hz hC hq ho hr;go_wp2;go_meet
     exact⟨by rw[Hq.out],rfl⟩
 case rest =>
  obtain⟨rfl,rfl⟩:=hcut;obtain⟨Q1,hO⟩:∃Q1,(U*4294967296+D1) / Y=Q1:=⟨_,rfl⟩;rw[hO];have hS:=Kh hO;clear hO;go_upto_region 22 with fail
  obtain⟨R1,hI⟩:∃R1,(U*4294967296+D1)%Y=R1:=⟨_,rfl⟩;have hT:=wrap_rest U D1 Q1 Y R1 (by have:=Nat.div_add_mod (U*4294967296+D1) Y;rw[hS.out,hI,Nat.mul_comm]at this;exact this.symm) (by have:=Nat.mod_lt (U*4294967296+D1) (show 0<Y by have:=H.out;omega);have:=H.out;omega);have HR:Hid (R1<Y):=by show R1<Y;rw[←hI];exact Nat.mod_lt _ (by have:=H.out;omega)
  have h4:=Kh hI;rw[hT];clear hT hI;go_upto_block 2 with fail
  obtain⟨hY,hd,hf,hk,hb,hU,hh,hj,hN⟩:=H.out;have hV:=HR.out;have hD:=Nat.div_add_mod R1 Y1;have hJ:=Nat.mod_lt R1 (show 0<Y1 by omega);have hA:=Nat.mul_comm Y1 (R1 / Y1);obtain⟨qa,hE,hg⟩:=wv ((R1:Int) / (Y1:Int)) (R1 / Y1) (by simp) (by have:=Nat.div_le_self R1 Y1;omega);obtain⟨pa,hF,hv⟩:=wv ((qa:Int)*(Y1:Int)) (qa*Y1) (by simp) (by rw[hg];omega);obtain⟨ra,hG,hw⟩:=wv ((R1:Int)-(pa:Int)) (R1%Y1) (by rw[hv,hg,←hA];omega) (by omega);rw[hE,hF,hG];have Hsu:Hid (qa*Y1+ra=R1∧(R1*4294967296+D0) / Y≤qa∧ra<4294967296):=⟨by rw[hg,hw,←hA];exact hD,by rw[hg];exact kn_first hd (by omega) hf hj,by omega⟩;clear hV hY hd hf hk hb hU hh hj hN hD hJ hA hE hg hF hv hG hw;go_cut [18,16] from 102 to 121 (fun q _ wx=>q=.int .u64 (((R1*4294967296+D0) / Y:Nat):Int)∧w=wx)
  case first =>
   go_wp2_with fail
   go_loopw [18,16] (fun a b wr=>∃q r:Nat,a=.int .u64 (q:Int)∧b=.int .u64 (r:Int)∧q*Y1+r=R1∧(R1*4294967296+D0) / Y≤q∧r<4294967296∧w=wr) (fun a _ _=>(intOf a).toNat)
   case atStart=>exact⟨qa,ra,rfl,rfl,Hsu.out.1,Hsu.out.2.1,Hsu.out.2.2,rfl⟩
   case round =>
    obtain⟨q,r,rfl,rfl,hm,hu,hx,rfl⟩:=hrel;obtain⟨hY,hd,hf,hk,hb,hU,hh,hj,hN⟩:=H.out;have hz:=kn_lt hd HR.out hj;by_cases hB:(4294967296:Int)≤(q:Int)
    ·have hn:(R1*4294967296+D0) / Y<q:=by omega
     have hH:q<18446744073709551616:=by
      have hV:=HR.out;have:q*1≤q*Y1:=Nat.mul_le_mul_left _ (by omega);omega
     have hp:0<q:=Nat.lt_of_le_of_lt (Nat.zero_le _) hn;obtain⟨q1,hK,hc⟩:=wv ((q:Int)-1) (q-1) (by omega) (by omega);obtain⟨r1,hL,he⟩:=wv ((r:Int)+(Y1:Int)) (r+Y1) (by simp) (by omega);have Hn:Hid (q1*Y1+r1=R1∧(R1*4294967296+D0) / Y≤q1∧q1<q):=⟨by rw[hc,he];exact kn_down hm hp,by rw[hc];exact Nat.le_sub_one_of_lt hn,by omega⟩;by_cases hM:(4294967296:Int)≤(r1:Int)
     ·have Hq:Hid ((R1*4294967296+D0) / Y=q1):=Nat.le_antisymm Hn.out.2.1 (kn_le hd (by omega) Hn.out.1 (kn_break hd hf HR.out Hn.out.1 (by omega)));clear Hsu hY hd hf hk hb hU hh hj hN hm hu hx hz hc he hn hH hp;go_wp2;go_meet
      exact⟨by rw[Hq.out],rfl⟩
     ·have Hr:Hid (r1<4294967296):=by show r1<4294967296;omega
      clear Hsu hY hd hf hk hb hU hh hj hN hm hu hx hz hc he hn hH hp;go_wp2;go_roundw
      case rel=>exact⟨q1,r1,rfl,rfl,Hn.out.1,Hn.out.2.1,Hr.out,(by first | rfl | trivial)⟩
      case measure=>simp[intOf];exact Hn.out.2.2
    ·have hC:=mulB (show q<4294967296 by omega) hf;obtain⟨pp,hZ,hq⟩:=wv ((q:Int)*(Y0:Int)) (q*Y0) (by simp) (by omega);obtain⟨t0,h2,ho⟩:=wv (4294967296*(r:Int)) (4294967296*r) (by simp) (by omega);obtain⟨t1,h3,hr⟩:=wv ((t0:Int)+(D0:Int)) (4294967296*r+D0) (by rw[ho];simp) (by omega);by_cases ht:(t1:Int)<(pp:Int)
     ·have hn:(R1*4294967296+D0) / Y<q:=kn_gt hd (by omega) hm (by omega);have hp:0<q:=Nat.lt_of_le_of_lt (Nat.zero_le _) hn;obtain⟨q1,hK,hc⟩:=wv ((q:Int)-1) (q-1) (by omega) (by omega);obtain⟨r1,hL,he⟩:=wv ((r:Int)+(Y1:Int)) (r+Y1) (by simp) (by omega);have Hn:Hid (q1*Y1+r1=R1∧(R1*4294967296+D0) / Y≤q1∧q1<q):=⟨by rw[hc,he];exact kn_down hm hp,by rw[hc];exact Nat.le_sub_one_of_lt hn,by omega⟩;by_cases hM:(4294967296:Int)≤(r1:Int)
      ·have Hq:Hid ((R1*4294967296+D0) / Y=q1):=Nat.le_antisymm Hn.out.2.1 (kn_le hd (by omega) Hn.out.1 (kn_break hd hf HR.out Hn.out.1 (by omega)));clear Hsu hY hd hf hk hb hU hh hj hN hm hu hx hz hc he hn hC hq ho hr hp;go_wp2;go_meet
       exact⟨by rw[Hq.out],rfl⟩
      ·have Hr:Hid (r1<4294967296):=by show r1<4294967296;omega
       clear Hsu hY hd hf hk hb hU hh hj hN hm hu hx hz hc he hn hC hq ho hr hp;go_wp2;go_roundw
       case rel=>exact⟨q1,r1,rfl,rfl,Hn.out.1,Hn.out.2.1,Hr.out,(by first | rfl | trivial)⟩
       case measure=>simp[intOf];exact Hn.out.2.2
     ·have Hq:Hid ((R1*4294967296+D0) / Y=q):=Nat.le_antisymm hu (kn_le hd (by omega) hm (by omega));clear Hsu hY hd hf hk hb hU hh hj hN hm hu hx hz hC hq ho hr;go_wp2;go_meet
      exact⟨by rw[Hq.out],rfl⟩
  case rest =>
   obtain⟨rfl,rfl⟩:=hcut;obtain⟨Q0,hP⟩:∃Q0,(R1*4294967296+D0) / Y=Q0:=⟨_,rfl⟩;rw[hP];have h5:=Kh hP;clear hP;go_upto_region 28 with fail
   go_wp2;go_ret2
   obtain⟨hY,hd,hf,hk,hb,hU,hh,hj,hN⟩:=H.out;obtain⟨z1,z2⟩:=div_end (hi*256^8+lo) y s Y Y1 Y0 U D1 D0 Q1 Q0 R1 hY hd (by omega) (by omega) hU hh hj hN hS.out h4.out h5.out;rw[z1,z2];exact⟨rfl,rfl⟩
end
section
/- Long division in base 256: the digits of a number as a list,one digit set,the steps of the loops. Plain Lean. -/
def digs (X M:Nat):List Nat:=(List.range M).map fun i=>X / 256^i%256
def setd (X p v:Nat):Nat:=X / 256^(p+1)*256^(p+1)+v*256^p+X%256^p
theorem p256 (k:Nat):0<256^k:=Nat.pow_pos (by decide)
theorem digs_len (X M:Nat):(digs X M).length=M:=by simp[digs]
theorem digs_get (X M i:Nat) (h:i<(digs X M).length):(digs X M)[i]=X / 256^i%256:=by simp[digs]
theorem digs_zero (M:Nat):digs 0 M=List.replicate M 0:=by
 refine List.ext_getElem (by simp[digs]) fun i h1 h2=>?_
 simp[digs]
theorem dig_parts (X p:Nat):X=X / 256^(p+1)*256^(p+1)+X / 256^p%256*256^p+X%256^p:=by
 have h1:=Nat.div_add_mod X (256^(p+1));have h2:=mod_succ X p;rw[Nat.mul_comm]at h1;omega
theorem setd_eq (X p v:Nat):setd X p v+X / 256^p%256*256^p=X+v*256^p:=by
 have:=dig_parts X p;unfold setd;omega
theorem dig_low (A p L i:Nat) (h:i<p):(A*256^p+L) / 256^i%256=L / 256^i%256:=by
 obtain⟨d,rfl⟩:∃d,p=i+1+d:=⟨p-i-1,by omega⟩;rw[show A*256^(i+1+d)+L=L+256^i*(256*(256^d*A)) by rw[Nat.pow_add,Nat.pow_add,Nat.pow_one];rw[Nat.add_comm];congr 1;rw[Nat.mul_comm A,Nat.mul_assoc,Nat.mul_assoc],Nat.add_mul_div_left _ _ (p256 i),Nat.add_mul_mod_self_left]
theorem dig_high (A p L i:Nat) (h:p≤i) (hL:L<256^p):(A*256^p+L) / 256^i=A / 256^(i-p):=by
 obtain⟨d,rfl⟩:∃d,i=p+d:=⟨i-p,by omega⟩;rw[Nat.pow_add,←Nat.div_div_eq_div_mul,Nat.add_comm,Nat.add_mul_div_right _ _ (p256 p),Nat.div_eq_of_lt hL,Nat.zero_add,Nat.add_sub_cancel_left]
theorem low_lt (v r p:Nat) (hv:v<256) (hr:r<256^p):v*256^p+r<256^(p+1):=by
 have:(v+1)*256^p≤256*256^p:=Nat.mul_le_mul_right _ hv;rw[Nat.add_mul,Nat.one_mul]at this;rw[Nat.pow_succ,Nat.mul_comm (256^p)];omega
theorem setd_div (X p v M:Nat) (hv:v<256) (h:p<M):setd X p v / 256^M=X / 256^M:=by
 have hr:X%256^p<256^p:=Nat.mod_lt _ (p256 p)
 have e1:setd X p v / 256^M=X / 256^(p+1) / 256^(M-(p+1)):=by
  unfold setd;rw[Nat.add_assoc,dig_high _ (p+1) _ M (by omega) (low_lt v _ p hv hr)]
 rw[e1,Nat.div_div_eq_div_mul,←Nat.pow_add,show p+1+(M-(p+1))=M by omega]
theorem setd_dig (X p v i:Nat) (hv:v<256):setd X p v / 256^i%256=if i=p then v else X / 256^i%256:=by
 have hr:X%256^p<256^p:=Nat.mod_lt _ (p256 p);by_cases h:i=p
 ·subst h;rw[if_pos rfl];unfold setd
  rw[show X / 256^(i+1)*256^(i+1)+v*256^i+X%256^i=(X / 256^(i+1)*256+v)*256^i+X%256^i by rw[Nat.add_mul,Nat.pow_succ,Nat.mul_comm (256^i) 256,Nat.mul_assoc],
   dig_high _ _ _ _ (Nat.le_refl _) hr,Nat.sub_self,Nat.pow_zero,Nat.div_one,Nat.add_comm,Nat.mul_comm,Nat.add_mul_mod_self_left,Nat.mod_eq_of_lt hv]
 ·rw[if_neg h];rcases Nat.lt_or_gt_of_ne h with h1 | h1
  ·have e1:setd X p v / 256^i%256=X%256^p / 256^i%256:=by
    unfold setd;rw[show X / 256^(p+1)*256^(p+1)+v*256^p+X%256^p=(X / 256^(p+1)*256+v)*256^p+X%256^p by rw[Nat.add_mul,Nat.pow_succ,Nat.mul_comm (256^p) 256,Nat.mul_assoc],dig_low _ _ _ _ h1]
   have e2:X / 256^i%256=X%256^p / 256^i%256:=by
    conv=>lhs;rw[show X=X / 256^p*256^p+X%256^p by have:=Nat.div_add_mod X (256^p);rw[Nat.mul_comm]at this;omega]
    rw[dig_low _ _ _ _ h1]
   rw[e1,e2]
  ·rw[setd_div X p v i hv h1]
theorem digs_set (X p v M:Nat) (hv:v<256):(digs X M).set p v=digs (setd X p v) M:=by
 refine List.ext_getElem (by simp[digs]) fun i h1 h2=>?_
 rw[List.getElem_set,digs_get,digs_get,setd_dig X p v i hv];by_cases h:p=i
 ·rw[if_pos h,if_pos h.symm]
 ·rw[if_neg h,if_neg (fun e=>h e.symm)]
theorem setd_fill (X k:Nat):setd (X%256^k) k (X / 256^k%256)=X%256^(k+1):=by
 have h1:=setd_eq (X%256^k) k (X / 256^k%256);rw[Nat.div_eq_of_lt (Nat.mod_lt _ (p256 k)),Nat.zero_mod,Nat.zero_mul,Nat.add_zero]at h1;rw[h1,mod_succ];omega
theorem shl_dig0 (x s:Nat):x*2^s / 256^0%256=x%256*2^s%256:=by
 rw[Nat.pow_zero,Nat.div_one,Nat.mod_mul_mod]
theorem two8 {s:Nat} (hs:s≤7):2^(8-s)*2^s=256:=by
 rw[←Nat.pow_add,show 8-s+s=8 by omega]
theorem shl_dig (x s k:Nat) (hs:s≤7):x*2^s / 256^(k+1)%256=x / 256^(k+1)%256*2^s%256+x / 256^k%256 / 2^(8-s):=by
 have h8:=two8 hs;have hp:0<2^s:=Nat.pow_pos (by decide);have hq:0<2^(8-s):=Nat.pow_pos (by decide)
 have e1:x*2^s / 256^(k+1)=x / 256^k / 2^(8-s):=by
  rw[Nat.pow_succ,show 256^k*256=256^k*2^(8-s)*2^s by rw[Nat.mul_assoc,h8],Nat.mul_div_mul_right _ _ hp,Nat.div_div_eq_div_mul]
 have e2:x / 256^(k+1)=x / 256^k / 256:=by rw[Nat.pow_succ,Nat.div_div_eq_div_mul]
 rw[e1,e2];generalize x / 256^k=y
 have h1:y=y%256+2^(8-s)*(2^s*(y / 256)):=by
  have:=Nat.mod_add_div y 256;rw[←Nat.mul_assoc,h8];omega
 have h2:y / 2^(8-s)=y%256 / 2^(8-s)+2^s*(y / 256):=by
  conv=>lhs;rw[h1]
  rw[Nat.add_mul_div_left _ _ hq]
 have h3:y%256 / 2^(8-s)<2^s:=by
  rw[Nat.div_lt_iff_lt_mul hq,Nat.mul_comm,h8];exact Nat.mod_lt _ (by decide)
 rw[h2,Nat.mod_mul_mod,Nat.mul_comm (y / 256)];generalize y%256 / 2^(8-s)=r at h3
 have h4:2^s*(y / 256)%256=2^s*(y / 256%2^(8-s)):=by
  have:(256:Nat)=2^s*2^(8-s):=by rw[Nat.mul_comm,h8]
  conv=>lhs;arg 2;rw[this]
  rw[Nat.mul_mod_mul_left]
 have h5:2^s*(y / 256%2^(8-s))+2^s≤256:=by
  have:=Nat.mod_lt (y / 256) hq;have h6:2^s*(y / 256%2^(8-s)+1)≤2^s*2^(8-s):=Nat.mul_le_mul_left _ this;rw[Nat.mul_add,Nat.mul_one,Nat.mul_comm (2^s) (2^(8-s)),h8]at h6;exact h6
 rw[Nat.add_mod,h4,Nat.mod_eq_of_lt (a:=r) (by omega),Nat.mod_eq_of_lt (by omega)];omega
theorem shl_or (x y s:Nat) (hs:s≤7):(x%256*2^s%256) ||| (y%256 / 2^(8-s))=x%256*2^s%256+y%256 / 2^(8-s):=by
 have h8:=two8 hs;have hq:0<2^(8-s):=Nat.pow_pos (by decide)
 have h3:y%256 / 2^(8-s)<2^s:=by
  rw[Nat.div_lt_iff_lt_mul hq,Nat.mul_comm,h8];exact Nat.mod_lt _ (by decide)
 have h4:x%256*2^s%256=2^s*(x%256%2^(8-s)):=by
  have:(256:Nat)=2^s*2^(8-s):=by rw[Nat.mul_comm,h8]
  conv=>lhs;rw[Nat.mul_comm (x%256)]
  conv=>lhs;arg 2;rw[this]
  rw[Nat.mul_mod_mul_left]
 rw[h4,Nat.two_pow_add_eq_or_of_lt h3]
theorem ld_sub (X D Y j k g c t x' t':Nat) (h:Y+g*(D%256^k)*256^j=X+(c+t)*256^(j+k))
  (hx:x'+(c+g*(D / 256^k%256))%256+t=Y / 256^(j+k)%256+256*t') :
  setd Y (j+k) x'+g*(D%256^(k+1))*256^j=X+((c+g*(D / 256^k%256)) / 256+t')*256^(j+(k+1)):=by
 have h1:=setd_eq Y (j+k) x';have h2:=Nat.div_add_mod (c+g*(D / 256^k%256)) 256;have h3:=mod_succ D k;generalize (c+g*(D / 256^k%256)) / 256=c1 at *;generalize (c+g*(D / 256^k%256))%256=c0 at *;generalize Y / 256^(j+k)%256=y at *;generalize D / 256^k%256=d at *;rw[h3,show j+(k+1)=j+k+1 by omega,Nat.pow_succ]
 have e1:g*(d*256^k+D%256^k)*256^j=g*d*256^(j+k)+g*(D%256^k)*256^j:=by
  rw[Nat.mul_add,Nat.add_mul,Nat.pow_add,←Nat.mul_assoc,Nat.mul_assoc (g*d),Nat.mul_comm (256^k)]
 rw[e1];generalize g*(D%256^k)*256^j=G at *;generalize 256^(j+k)=P at *;have e2:(x'+c+g*d+t)*P=(y+256*t'+256*c1)*P:=by congr 1;omega
 rw[Nat.mul_comm P 256,show (c1+t')*(256*P)=(256*(c1+t'))*P by rw[Nat.mul_comm 256 (c1+t'),Nat.mul_assoc]];simp only[Nat.add_mul,Nat.mul_add]at *;omega
theorem ld_add (Y0 D Y j k c:Nat) (h:Y+c*256^(j+k)=Y0+D%256^k*256^j) :
  setd Y (j+k) ((c+(Y / 256^(j+k)%256+D / 256^k%256))%256)+(c+(Y / 256^(j+k)%256+D / 256^k%256)) / 256*256^(j+(k+1))=Y0+D%256^(k+1)*256^j:=by
 generalize hv:c+(Y / 256^(j+k)%256+D / 256^k%256)=v;have h1:=setd_eq Y (j+k) (v%256);have h2:=Nat.div_add_mod v 256;have h3:=mod_succ D k;generalize v / 256=c1 at *;generalize v%256=c0 at *;generalize Y / 256^(j+k)%256=y at *;generalize D / 256^k%256=d at *;rw[h3,show j+(k+1)=j+k+1 by omega,Nat.pow_succ]
 have e1:(d*256^k+D%256^k)*256^j=d*256^(j+k)+D%256^k*256^j:=by
  rw[Nat.add_mul,Nat.pow_add,Nat.mul_assoc,Nat.mul_comm (256^k)]
 rw[e1];generalize D%256^k*256^j=G at *;generalize 256^(j+k)=P at *;have e2:(c+(y+d))*P=(256*c1+c0)*P:=by congr 1;omega
 rw[Nat.mul_comm P 256,show c1*(256*P)=(256*c1)*P by rw[Nat.mul_comm 256 c1,Nat.mul_assoc]];simp only[Nat.add_mul]at *;omega
theorem ld_guess (X D j n:Nat) (hn:0<n) (hD:0<D / 256^(n-1)) (hX:X<D*256^(j+1)) :
  X<(min (X / 256^(j+n-1) / (D / 256^(n-1))) 255+1)*(D*256^j):=by
 have hb:0<D:=by
  rcases Nat.eq_zero_or_pos D with h | h
  ·subst h;simp at hD
  ·exact h
 have hW:0<D*256^j:=Nat.mul_pos hb (p256 j);rw[←Nat.div_lt_iff_lt_mul hW]
 have h1:X / (D*256^j)≤255:=by
  have:X / (D*256^j)<256:=by
   rw[Nat.div_lt_iff_lt_mul hW];rw[Nat.pow_succ]at hX;rw[show 256*(D*256^j)=D*(256^j*256) by rw[Nat.mul_comm 256,Nat.mul_assoc]];exact hX
  omega
 have h2:X / (D*256^j)≤X / 256^(j+n-1) / (D / 256^(n-1)):=by
  rw[Nat.div_div_eq_div_mul];refine Nat.div_le_div_left ?_ (Nat.mul_pos (p256 _) hD);rw[show j+n-1=j+(n-1) by omega,Nat.pow_add,Nat.mul_assoc,Nat.mul_comm D,Nat.mul_comm (256^(n-1))];exact Nat.mul_le_mul_left _ (Nat.div_mul_le_self _ _)
 have:=Nat.le_min.2 ⟨h2,h1⟩;omega
theorem dig_two (X p:Nat) (h:X<256^(p+2)):X / 256^p=X / 256^(p+1)%256*256+X / 256^p%256:=by
 have e:X / 256^(p+1)=X / 256^p / 256:=by rw[Nat.pow_succ,Nat.div_div_eq_div_mul]
 have h2:X / 256^(p+1)<256:=by
  rw[Nat.div_lt_iff_lt_mul (p256 _),show 256*256^(p+1)=256^(p+2) by rw[Nat.pow_succ 256 (p+1),Nat.mul_comm]];exact h
 rw[Nat.mod_eq_of_lt h2,e];have:=Nat.div_add_mod (X / 256^p) 256;omega
theorem or8 (u v:Nat) (hv:v<256):(u*256) ||| v=u*256+v:=by
 have:=Nat.two_pow_add_eq_or_of_lt (i:=8) (show v<2^8 by omega) u;rw[Nat.mul_comm u 256];exact this.symm
theorem ld_neg (Y X G W M u:Nat) (T:Int) (hY:Y / M=u) (h:(Y:Int)+(T-u)*M=X-G*W) (hM:0<M) (hT:T<0):X<G*W:=by
 have h1:=Nat.div_add_mod Y M;have h2:=Nat.mod_lt Y hM;rw[hY]at h1;have h3:(Y:Int)=(M:Int)*(u:Int)+(Y%M:Nat):=by rw[←Int.natCast_mul];omega
 have h4:T*(M:Int)≤-1*(M:Int):=Int.mul_le_mul_of_nonneg_right (by omega) (by omega);rw[Int.sub_mul,Int.mul_comm (u:Int)]at h;have h5:(X:Int)<((G*W:Nat):Int):=by rw[Int.natCast_mul];omega
 exact Int.ofNat_lt.1 h5
theorem ld_exit (Y X G W M u:Nat) (T:Int) (hY:Y / M=u) (h:(Y:Int)+(T-u)*M=X-G*W) (hX:X<(G+1)*W) (hW:W≤M) (hM:0<M) (hT:¬ T<0):T=0∧G*W≤X∧Y%M=X-G*W:=by
 have h1:=Nat.div_add_mod Y M;rw[hY]at h1;have h3:(Y:Int)=(M:Int)*(u:Int)+(Y%M:Nat):=by rw[←Int.natCast_mul];omega
 rw[Int.sub_mul,Int.mul_comm (u:Int)]at h;rw[Nat.add_mul,Nat.one_mul]at hX;have h5:((G*W:Nat):Int)=(G:Int)*(W:Int):=Int.natCast_mul _ _
 have hb:T=0:=by
  apply Classical.byContradiction
  intro hn;have h4:1*(M:Int)≤T*(M:Int):=Int.mul_le_mul_of_nonneg_right (by omega) (by omega);omega
 subst hb;rw[Int.zero_mul]at h;refine⟨rfl,?_,?_⟩ <;> omega
theorem setd_top (Y p u:Nat) (hY:Y / 256^p=u) (hu:u<256):setd Y p 0=Y%256^p:=by
 unfold setd;rw[Nat.pow_succ,←Nat.div_div_eq_div_mul,hY,Nat.div_eq_of_lt hu];omega
theorem ld_back (Y Y' X G W M u c:Nat) (T:Int) (h:(Y:Int)+(T-u)*M=X-G*W) (h0:0<G) (hb:Y'+c*M=Y+W):(Y':Int)+((T+c)-u)*M=X-((G-1:Nat):Int)*W:=by
 have e1:((G-1:Nat):Int)=(G:Int)-1:=by omega
 have e2:(Y':Int)+(c:Int)*(M:Int)=(Y:Int)+(W:Int):=by rw[←Int.natCast_mul];omega
 rw[e1];simp only[Int.sub_mul,Int.add_mul,Int.one_mul]at *;omega
theorem ld_first (Y X G W M u c t:Nat) (h:Y+G*W=X+(c+t)*M):(Y:Int)+(((u:Int)-c-t)-u)*M=X-G*W:=by
 have e:(Y:Int)+(G:Int)*(W:Int)=(X:Int)+((c:Int)+(t:Int))*(M:Int):=by rw[←Int.natCast_mul,←Int.natCast_add,←Int.natCast_add,←Int.natCast_mul,←Int.natCast_add];exact congrArg _ h
 simp only[Int.sub_mul,Int.add_mul]at *;omega
theorem ld_next (l:Nat) (A D X G j:Nat) (hv:l*(256^(j+1)*D)+X=A) (hg:G*(D*256^j)≤X):(l*256+G)*(256^j*D)+(X-G*(D*256^j))=A:=by
 rw[Nat.add_mul,Nat.mul_comm D]at *;have e:l*256*(256^j*D)=l*(256^(j+1)*D):=by rw[Nat.pow_succ,Nat.mul_comm (256^j) 256,Nat.mul_assoc,Nat.mul_assoc]
 rw[e];omega
theorem ld_end (v a b s X:Nat) (h:v*(b*2^s)+X=a*2^s) (hX:X<b*2^s):v=a / b∧X / 2^s=a%b:=by
 have hs:0<2^s:=Nat.pow_pos (by decide);obtain⟨k1,k2⟩:=kn_scale a b (2^s) hs;have hD:0<b*2^s:=by omega
 have e1:a*2^s / (b*2^s)=v:=by
  rw[←h,Nat.add_comm,Nat.add_mul_div_right _ _ hD,Nat.div_eq_of_lt hX,Nat.zero_add]
 have e2:a*2^s%(b*2^s)=X:=by
  rw[←h,Nat.add_comm,Nat.add_mul_mod_self_right,Nat.mod_eq_of_lt hX]
 rw[e1]at k1;rw[e2]at k2;exact⟨k1,k2⟩
theorem shr_dig (X s k:Nat) (hs:s≤7):((X / 256^k%256) ||| (X / 256^(k+1)%256*256)) / 2^s%256=X / 2^s / 256^k%256:=by
 rw[Nat.or_comm,or8 _ _ (Nat.mod_lt _ (by decide))];have e:X / 2^s / 256^k=X / 256^k / 2^s:=by rw[Nat.div_div_eq_div_mul,Nat.div_div_eq_div_mul,Nat.mul_comm]
 rw[e,Nat.pow_succ,←Nat.div_div_eq_div_mul];generalize X / 256^k=y;have h8:=two8 hs;have hp:0<2^s:=Nat.pow_pos (by decide)
 have h1:y=(y / 256%256*256+y%256)+2^s*(256*(2^(8-s)*(y / 256 / 256))):=by
  rw[show 2^s*(256*(2^(8-s)*(y / 256 / 256)))=256*256*(y / 256 / 256) by rw[Nat.mul_left_comm,←Nat.mul_assoc (2^s),Nat.mul_comm (2^s),h8,Nat.mul_assoc]];omega
 conv=>rhs;rw[h1]
 rw[Nat.add_mul_div_left _ _ hp,Nat.add_mul_mod_self_left]
end
end Go.Proofs.YtdgddpnjkinciaaGreatDoor
