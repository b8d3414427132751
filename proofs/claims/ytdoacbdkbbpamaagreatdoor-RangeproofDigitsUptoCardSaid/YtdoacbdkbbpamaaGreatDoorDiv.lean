import Derived.Test.YtdoacbdkbbpamaaGreatDoorRef7
import Derived.Test.YtdoacbdkbbpamaaGreatDoorInt2
import Derived.Test.YtdoacbdkbbpamaaGreatDoorDivN
import Derived.Deep.CutBlock
set_option linter.unusedVariables false
set_option linter.unusedSimpArgs false
set_option maxRecDepth 100000
set_option maxHeartbeats 16000000
namespace Go.Proofs.YtdoacbdkbbpamaaGreatDoor
section
open Go.RowKit
def strs (l:List Nat):List Value:=l.map fun n=>Value.string (E n)
theorem strs_cell {w:World} {g:Nat} {T:TypeId} {l:List Nat} (h:Blk w g T (strs l)) (j:Nat) (hj:j<l.length):w.cell? ⟨g,j,none⟩=some (.string (E l[j])):=by
 rw [h.cell];simp [strs,hj]
theorem rcheck_c (b:Nat) (l:List Nat) (x:Nat) (T:TypeId) (w:World) (hl:l.length≤1000) (hv:∀n∈l,n<256^128) (hx:x<256^128) (hB:Blk w b T (strs (l++[x]))) (h0:0<x) :
  Calls Tryz.prog 73 #[.slice (some ⟨b,0,none⟩) (l.length+1) (l.length+1)] w fun e w'=>e=.returned (.int .i64 0)∧w=w':=by
 have HV:Hid (∀n∈l++[x],n<256^128):=by
  intro n hn;rcases List.mem_append.1 hn with h | h
  ·exact hv n h
  ·rw [List.mem_singleton] at h;rw [h];exact hx
 have hlast:=strs_cell hB l.length (by simp);rw [List.getElem_concat_length (by rfl)] at hlast;have hz:=nzE h0;clear hv hx h0;go_enter Tryz.func73,Tryz.ntmps73
 go_wp2;go_loop [3] (fun i=>∃k:Nat,k≤l.length+1∧i=.int .i64 k) (fun i=>l.length+1-(intOf i).toNat)
 case atStart=>exact ⟨0,by omega,rfl⟩
 case round =>
  obtain ⟨k,hk,rfl⟩:=hrel;by_cases hlt:k<l.length+1
  ·have hkl:k<(l++[x]).length:=by simp;omega
   have hc:=strs_cell hB k hkl;have HN:=Lib.hid (HV.out _ (List.getElem_mem hkl));generalize (l++[x])[k]=n at hc HN;go_wp2_with fail
   refine (rvalidE_c n _ HN.out).mono ?_;rintro e w' ⟨rfl,rfl⟩;go_wp2;go_round
   case rel=>exact ⟨k+1,by omega,by go_num⟩
   case measure=>simp [intOf];omega
  ·obtain rfl:k=l.length+1:=by omega
   go_wp2;go_ret
   exact ⟨rfl,rfl⟩
theorem rmod3_c (a m:Nat) (w:World) (ha:a<256^128) (hm:m<256^128) (h0:0<m) :
  Calls Tryz.prog 75 #[.string (E a),.string (E m)] w fun e w'=>e=.returned (.string (E (a%m)))∧Below w.heap.size w w':=by
 have HA:=Lib.hid ha;have HM:=Lib.hid hm;have H0:=Lib.hid h0;clear ha hm h0;go_enter Tryz.func75,Tryz.ntmps75
 go_wp2_with fail
 refine (rdivmod_c a m _ HA.out HM.out H0.out).mono ?_;rintro e w1 ⟨rfl,hb1⟩;go_wp2;go_ret
 exact ⟨rfl,hb1⟩
theorem lt64 {n:Nat} (h:n<256^64):n<256^128:=Nat.lt_of_lt_of_le h (Nat.pow_le_pow_right (by decide) (by decide))
theorem mul_fit {a b m:Nat} (hm:m<256^64) (ha:a<m) (hb:b<m):a*b<256^128:=by
 have:(256:Nat)^128=256^64*256^64:=by rw [←Nat.pow_add]
 rw [this];exact Nat.mul_lt_mul'' (by omega) (by omega)
theorem rmod3v_c (a m y:Nat) (w:World) (ha:a<256^128) (hm:m<256^128) (h0:0<m) (hy:a%m=y) :
  Calls Tryz.prog 75 #[.string (E a),.string (E m)] w fun e w'=>e=.returned (.string (E y))∧Below w.heap.size w w':=by
 rw [←hy];exact rmod3_c a m w ha hm h0
theorem rofMM_c (y z m:Nat) (w:World) (h:y*z<256^8) (hm:y*z%m<256^8) :
  Calls Tryz.prog 46 #[.int .u64 ((IntKind.u64.wrap ((y:Int)*(z:Int))).tmod (m:Int))] w fun e w'=>e=.returned (.string (E (y*z%m)))∧Below w.heap.size w w':=by
 rw [←Int.natCast_mul,wrapU _ h,←Int.ofNat_tmod];exact rof_c _ w hm
theorem rtimes3_small (a b m y z:Nat) (w:World) (ha:a<256^128) (hb:b<256^128) (h0:0<m) (hs:m<2147483648) (hy:a%m=y) (hz:b%m=z) :
  Calls Tryz.prog 188 #[.string (E a),.string (E b),.string (E m)] w fun e w'=>e=.returned (.string (E (y*z%m)))∧Below w.heap.size w w':=by
 have hla:y<m:=by rw [←hy];exact Nat.mod_lt a h0
 have hlb:z<m:=by rw [←hz];exact Nat.mod_lt b h0
 have HA:=Lib.hid ha;have HB:=Lib.hid hb;have hm8:m<256^8:=Nat.lt_trans hs (by decide);have HM:=Lib.hid (lt128 hm8);have H0:=Lib.hid h0;have HM8:=Lib.hid hm8;have HA8:=Lib.hid (Nat.lt_trans hla hm8);have HB8:=Lib.hid (Nat.lt_trans hlb hm8);have hprod:y*z<256^8:=Nat.lt_of_lt_of_le (Nat.mul_lt_mul'' (Nat.lt_trans hla hs) (Nat.lt_trans hlb hs)) (by decide);have HPR:=Lib.hid hprod;have HPM:=Lib.hid (Nat.lt_of_le_of_lt (Nat.mod_le _ m) hprod);have HYY:=Lib.hid hy;have HZZ:=Lib.hid hz;have hdec:decide ((m:Int)<2147483648)=true:=by rw [decide_eq_true_iff];omega
 have hzb:((m:Int)==0)=false:=by rw [beq_eq_false_iff_ne];omega
 clear ha hb hla hlb hm8 hprod hs hy hz;go_enter Tryz.func188,Tryz.ntmps188
 go_wp2_with fail
 refine (rsmall_c m _ HM8.out).mono ?_;rintro e w' ⟨rfl,rfl⟩;go_wp2_with fail
 refine (rmod3v_c a m y _ HA.out HM.out H0.out HYY.out).mono ?_;rintro e w1 ⟨rfl,hb1⟩;clear hdec;go_wp2_with fail
 refine (rsmall_c y _ HA8.out).mono ?_;rintro e w' ⟨rfl,rfl⟩;go_wp2_with fail
 refine (rmod3v_c b m z _ HB.out HM.out H0.out HZZ.out).mono ?_;rintro e w2 ⟨rfl,hb2⟩;go_wp2_with fail
 refine (rsmall_c z _ HB8.out).mono ?_;rintro e w' ⟨rfl,rfl⟩;go_wp2_with fail
 refine (rofMM_c y z m _ HPR.out HPM.out).mono ?_;rintro e w3 ⟨rfl,hb3⟩;go_wp2;go_ret
 exact ⟨rfl,bt (bt hb1 hb2) hb3⟩
theorem rtimes3_mid (a b m y z:Nat) (w:World) (ha:a<256^128) (hb:b<256^128) (h0:0<m) (hs:¬ m<2147483648) (hm8:m<256^8) (hy:a%m=y) (hz:b%m=z) :
  Calls Tryz.prog 188 #[.string (E a),.string (E b),.string (E m)] w fun e w'=>e=.returned (.string (E (y*z%m)))∧Below w.heap.size w w':=by
 have hla:y<m:=by rw [←hy];exact Nat.mod_lt a h0
 have hlb:z<m:=by rw [←hz];exact Nat.mod_lt b h0
 have HA:=Lib.hid ha;have HB:=Lib.hid hb;have HM:=Lib.hid (lt128 hm8);have H0:=Lib.hid h0;have HM8:=Lib.hid hm8;have hm64:m<256^64:=Nat.lt_of_lt_of_le hm8 (Nat.pow_le_pow_right (by decide) (by decide));have HYB:=Lib.hid (Nat.lt_trans hla HM.out);have HZB:=Lib.hid (Nat.lt_trans hlb HM.out);have HPR:=Lib.hid (mul_fit hm64 hla hlb);have HYY:=Lib.hid hy;have HZZ:=Lib.hid hz;have hdec:decide ((m:Int)<2147483648)=false:=by rw [decide_eq_false_iff_not];omega
 clear ha hb h0 hla hlb hm8 hm64 hs hy hz;go_enter Tryz.func188,Tryz.ntmps188
 go_wp2_with fail
 refine (rsmall_c m _ HM8.out).mono ?_;rintro e w' ⟨rfl,rfl⟩;go_wp2_with fail
 refine (rmod3v_c a m y _ HA.out HM.out H0.out HYY.out).mono ?_;rintro e w1 ⟨rfl,hb1⟩;clear hdec;go_wp2_with fail
 refine (rmod3v_c b m z _ HB.out HM.out H0.out HZZ.out).mono ?_;rintro e w2 ⟨rfl,hb2⟩;go_wp2_with fail
 refine (rmul_c y z _ HYB.out HZB.out HPR.out).mono ?_;rintro e w3 ⟨rfl,hb3⟩;go_wp2_with fail
 refine (rmod3_c (y*z) m _ HPR.out HM.out H0.out).mono ?_;rintro e w4 ⟨rfl,hb4⟩;go_wp2;go_ret
 exact ⟨rfl,bt (bt (bt hb1 hb2) hb3) hb4⟩
theorem rtimes3_big (a b m y z:Nat) (w:World) (ha:a<256^128) (hb:b<256^128) (h0:0<m) (hm8:256^8≤m) (hm64:m<256^64) (hy:a%m=y) (hz:b%m=z) :
  Calls Tryz.prog 188 #[.string (E a),.string (E b),.string (E m)] w fun e w'=>e=.returned (.string (E (y*z%m)))∧Below w.heap.size w w':=by
 have hla:y<m:=by rw [←hy];exact Nat.mod_lt a h0
 have hlb:z<m:=by rw [←hz];exact Nat.mod_lt b h0
 have HA:=Lib.hid ha;have HB:=Lib.hid hb;have HM:=Lib.hid (lt64 hm64);have hsz:=sz m HM.out;have H0:=Lib.hid h0;have HM8:=Lib.hid hm8;have HYB:=Lib.hid (Nat.lt_trans hla HM.out);have HZB:=Lib.hid (Nat.lt_trans hlb HM.out);have HPR:=Lib.hid (mul_fit hm64 hla hlb);have HYY:=Lib.hid hy;have HZZ:=Lib.hid hz;clear ha hb h0 hla hlb hm8 hm64 hy hz;go_enter Tryz.func188,Tryz.ntmps188
 go_wp2_with fail
 refine (rsmall_no m _ HM8.out (by omega)).mono ?_;rintro e w' ⟨rfl,rfl⟩;go_wp2_with fail
 refine (rmod3v_c a m y _ HA.out HM.out H0.out HYY.out).mono ?_;rintro e w1 ⟨rfl,hb1⟩;go_wp2_with fail
 refine (rmod3v_c b m z _ HB.out HM.out H0.out HZZ.out).mono ?_;rintro e w2 ⟨rfl,hb2⟩;go_wp2_with fail
 refine (rmul_c y z _ HYB.out HZB.out HPR.out).mono ?_;rintro e w3 ⟨rfl,hb3⟩;go_wp2_with fail
 refine (rmod3_c (y*z) m _ HPR.out HM.out H0.out).mono ?_;rintro e w4 ⟨rfl,hb4⟩;go_wp2;go_ret
 exact ⟨rfl,bt (bt (bt hb1 hb2) hb3) hb4⟩
theorem rtimes3_c (a b m:Nat) (w:World) (ha:a<256^128) (hb:b<256^128) (hm:m<256^64) (h0:0<m) :
  Calls Tryz.prog 188 #[.string (E a),.string (E b),.string (E m)] w fun e w'=>e=.returned (.string (E (a*b%m)))∧Below w.heap.size w w':=by
 rw [Nat.mul_mod];by_cases hs:m<2147483648
 ·exact rtimes3_small a b m _ _ w ha hb h0 hs rfl rfl
 ·rcases Nat.lt_or_ge m (256^8) with h8 | h8
  ·exact rtimes3_mid a b m _ _ w ha hb h0 hs h8 rfl rfl
  ·exact rtimes3_big a b m _ _ w ha hb h0 h8 hm rfl rfl
theorem rmul3_c (a b m:Nat) (w:World) (ha:a<256^128) (hb:b<256^128) (hm:m<256^64) (h0:0<m) :
  Calls Tryz.prog 167 #[.string (E a),.string (E b),.string (E m)] w fun e w'=>e=.returned (.tuple #[.string (E (a*b%m)),.int .i64 0])∧Below w.heap.size w w':=by
 have HC:=Lib.hid (rcheck_c w.heap.size [a,b] m 31 (w.alloc (.cells #[.string (E a),.string (E b),.string (E m)] 31)) (by simp) (by simp [ha,hb]) (lt64 hm) (Blk.new _ _ _) h0);have HA:=Lib.hid ha;have HB:=Lib.hid hb;have HM:=Lib.hid hm;have H0:=Lib.hid h0;clear ha hb hm h0;go_enter Tryz.func167,Tryz.ntmps167
 go_wp2_with fail
 refine (HC.out).mono ?_;rintro e w' ⟨rfl,rfl⟩;go_wp2_with fail
 refine (rtimes3_c a b m _ HA.out HB.out HM.out H0.out).mono ?_;rintro e w1 ⟨rfl,hb1⟩;go_wp2;go_ret2
 exact ⟨rfl,bt (b1 _ _) hb1⟩
end
section
open Go.RowKit
theorem p8:(256:Nat)^8=18446744073709551616:=by decide
theorem p8':(256:Nat)^8=2^64:=by decide
theorem bits_or64 (a b:Nat) (ha:a<2^64) (hb:b<2^64):bits .or .u64 (a:Int) (b:Int)=((a ||| b:Nat):Int):=by
 have hx:a ||| b<2^64:=Nat.or_lt_two_pow ha hb
 have h1:(BitVec.ofInt 64 (a:Int)).toNat=a:=by
  rw [BitVec.ofInt_natCast,BitVec.toNat_ofNat];exact Nat.mod_eq_of_lt ha
 have h2:(BitVec.ofInt 64 (b:Int)).toNat=b:=by
  rw [BitVec.ofInt_natCast,BitVec.toNat_ofNat];exact Nat.mod_eq_of_lt hb
 show IntKind.u64.wrap ((BitVec.ofInt 64 (a:Int) ||| BitVec.ofInt 64 (b:Int)).toNat:Int)=_;rw [BitVec.toNat_or,h1,h2];exact wrapU _ (by rw [p8'];exact hx)
theorem bits_and64 (a b:Nat) (ha:a<2^64) (hb:b<2^64):bits .and .u64 (a:Int) (b:Int)=((a &&& b:Nat):Int):=by
 have hx:a &&& b<2^64:=Nat.and_lt_two_pow _ hb
 have h1:(BitVec.ofInt 64 (a:Int)).toNat=a:=by
  rw [BitVec.ofInt_natCast,BitVec.toNat_ofNat];exact Nat.mod_eq_of_lt ha
 have h2:(BitVec.ofInt 64 (b:Int)).toNat=b:=by
  rw [BitVec.ofInt_natCast,BitVec.toNat_ofNat];exact Nat.mod_eq_of_lt hb
 show IntKind.u64.wrap ((BitVec.ofInt 64 (a:Int) &&& BitVec.ofInt 64 (b:Int)).toNat:Int)=_;rw [BitVec.toNat_and,h1,h2];exact wrapU _ (by rw [p8'];exact hx)
theorem low32 (a:Nat) (ha:a<2^64):bits .and .u64 (a:Int) 4294967295=((a%4294967296:Nat):Int):=by
 have:=bits_and64 a 4294967295 ha (by decide);rw [show (4294967295:Nat)=2^32-1 by decide,Nat.and_two_pow_sub_one_eq_mod] at this;exact this
theorem bitLenAux_spec:∀(f x:Nat),x<2^f→x<2^(Lib.bitLenAux f x)∧(x≠0→0<Lib.bitLenAux f x∧2^(Lib.bitLenAux f x)≤2*x)∧Lib.bitLenAux f x≤f
 | 0,x,h=>by
  have:x=0:=by simpa using h
  subst this;simp [Lib.bitLenAux]
 | f+1,x,h=>by
  by_cases hx:x=0
  ·subst hx;simp [Lib.bitLenAux]
  ·have ih:=bitLenAux_spec f (x / 2) (by rw [Nat.pow_succ] at h;omega);rw [Lib.bitLenAux,if_neg hx,Nat.pow_add,Nat.pow_one];refine ⟨by omega,fun _=>⟨by omega,?_⟩,by omega⟩;by_cases h2:x / 2=0
   ·have:Lib.bitLenAux f (x / 2)=0:=by rw [h2];cases f <;> simp [Lib.bitLenAux]
    rw [this];omega
   ·have:=(ih.2.1 h2).2;omega
theorem lz_spec (y:Nat) (h0:0<y) (hy:y<256^8):∃s:Nat,64-(Lib.bitLen y:Int)=(s:Int)∧s<64∧2^63≤y*2^s∧y*2^s<2^64:=by
 rw [p8'] at hy;obtain ⟨h1,h2,h3⟩:=bitLenAux_spec 64 y hy;obtain ⟨h4,h5⟩:=h2 (by omega);unfold Lib.bitLen;generalize Lib.bitLenAux 64 y=k at h1 h3 h4 h5;refine ⟨64-k,by omega,by omega,?_,?_⟩
 ·have h6:(2:Nat)^64=2^k*2^(64-k):=by rw [←Nat.pow_add];congr 1;omega
  have h7:2^k*2^(64-k)≤2*y*2^(64-k):=Nat.mul_le_mul_right _ h5;rw [Nat.mul_assoc] at h7;omega
 ·have h6:(2:Nat)^64=2^k*2^(64-k):=by rw [←Nat.pow_add];congr 1;omega
  rw [h6];exact Nat.mul_lt_mul_of_pos_right h1 (Nat.two_pow_pos _)
theorem div_facts (hi lo y s:Nat) (h1:hi<y) (hl:lo<256^8) (hs:s<64) (h63:2^63≤y*2^s) (h64:y*2^s<2^64) :
  ∃Y Y1 Y0 U L D1 D0:Nat,IntKind.u64.wrap ((y:Int)*2^s)=(Y:Int)∧(Y:Int) / 4294967296=(Y1:Int)∧bits .and .u64 (Y:Int) 4294967295=(Y0:Int) ∧
   bits .or .u64 (IntKind.u64.wrap ((hi:Int)*2^s)) ((lo:Int) / 2^(64-s))=(U:Int)∧IntKind.u64.wrap ((lo:Int)*2^s)=(L:Int)∧(L:Int) / 4294967296=(D1:Int)∧bits .and .u64 (L:Int) 4294967295=(D0:Int) ∧
   Y=y*2^s∧Y=Y1*4294967296+Y0∧Y0<4294967296∧2147483648≤Y1∧Y1<4294967296∧U<Y∧D1<4294967296∧D0<4294967296∧(U*4294967296+D1)*4294967296+D0=(hi*256^8+lo)*2^s:=by
 rw [p8'] at hl ⊢;have hp:0<2^s:=Nat.two_pow_pos _;have hh:hi*2^s<2^64:=Nat.lt_trans (Nat.mul_lt_mul_of_pos_right h1 hp) h64;have hsplit:(2:Nat)^64=2^(64-s)*2^s:=by rw [←Nat.pow_add];congr 1;omega
 have hq:lo / 2^(64-s)<2^s:=by rw [Nat.div_lt_iff_lt_mul (Nat.two_pow_pos _),Nat.mul_comm,←hsplit];exact hl
 have hqd:lo*2^s / 2^64=lo / 2^(64-s):=by rw [hsplit,Nat.mul_div_mul_right _ _ hp]
 have hlm:lo*2^s%2^64<2^64:=Nat.mod_lt _ (by decide);have hdm:=Nat.div_add_mod (lo*2^s) (2^64);have hq64:lo / 2^(64-s)<2^64:=Nat.lt_of_le_of_lt (Nat.div_le_self _ _) hl;refine ⟨y*2^s,y*2^s / 4294967296,y*2^s%4294967296,hi*2^s+lo / 2^(64-s),lo*2^s%2^64,lo*2^s%2^64 / 4294967296,lo*2^s%2^64%4294967296,?_,by simp,low32 _ h64,?_,?_,by simp,low32 _ hlm,rfl,by omega,by omega,by omega,by omega,?_,by omega,by omega,?_⟩
 ·have:=wrapU (y*2^s) (by rw [p8'];exact h64);simpa using this
 ·have e1:=wrapU (hi*2^s) (by rw [p8'];exact hh);have e2:=bits_or64 (hi*2^s) (lo / 2^(64-s)) hh hq64;have e3:=Nat.two_pow_add_eq_or_of_lt hq hi;rw [Nat.mul_comm (2^s) hi] at e3;rw [←e3] at e2;rw [show ((hi:Int)*2^s)=((hi*2^s:Nat):Int) by simp,e1,show ((lo:Int) / 2^(64-s))=((lo / 2^(64-s):Nat):Int) by simp];exact e2
 ·simp [IntKind.wrap,IntKind.signed,IntKind.bits]
 ·have h2:(hi+1)*2^s≤y*2^s:=Nat.mul_le_mul_right _ h1;rw [Nat.add_mul,Nat.one_mul] at h2;omega
 ·have h3:(hi*2^64+lo)*2^s=hi*2^s*2^64+lo*2^s:=by rw [Nat.add_mul,Nat.mul_assoc,Nat.mul_comm (2^64),Nat.mul_assoc]
  rw [h3,←hqd];generalize hi*2^s=A at *;generalize lo*2^s=C at *;omega
theorem wv (z:Int) (n:Nat) (h:z=(n:Int)) (hn:n<18446744073709551616):∃v:Nat,IntKind.u64.wrap z=(v:Int)∧v=n:=by
 subst h;exact ⟨n,wrapU n (by rw [p8];exact hn),rfl⟩
theorem mulB {q Y0:Nat} (h1:q<4294967296) (h2:Y0<4294967296):q*Y0<18446744069414584321+1:=by
 have:q*Y0≤4294967295*4294967295:=Nat.mul_le_mul (by omega) (by omega);omega
theorem wrap_rest (U D Q Y n:Nat) (h:U*4294967296+D=Q*Y+n) (hn:n<18446744073709551616) :
  IntKind.u64.wrap (IntKind.u64.wrap (IntKind.u64.wrap ((U:Int)*4294967296)+(D:Int))-IntKind.u64.wrap ((Q:Int)*(Y:Int)))=(n:Int):=by
 rw [←Int.natCast_mul];generalize Q*Y=P at h;simp [IntKind.wrap,IntKind.signed,IntKind.bits];omega
theorem div_end (N y s Y Y1 Y0 U D1 D0 Q1 Q0 R1:Nat) (hY:Y=y*2^s) (hYY:Y=Y1*4294967296+Y0) (h0:0<Y) (h64:Y<18446744073709551616) (hU:U<Y) (hD1:D1<4294967296) (hD0:D0<4294967296) (hN:(U*4294967296+D1)*4294967296+D0=N*2^s)
  (hQ1:(U*4294967296+D1) / Y=Q1) (hR1:(U*4294967296+D1)%Y=R1) (hQ0:(R1*4294967296+D0) / Y=Q0) :
  IntKind.u64.wrap (IntKind.u64.wrap ((Q1:Int)*4294967296)+(Q0:Int))=((N / y:Nat):Int) ∧
  IntKind.u64.wrap (IntKind.u64.wrap (IntKind.u64.wrap ((R1:Int)*4294967296)+(D0:Int))-IntKind.u64.wrap ((Q0:Int)*(Y:Int))) / 2^s=((N%y:Nat):Int):=by
 have hp:0<2^s:=Nat.two_pow_pos _;obtain ⟨k1,k2⟩:=kn_scale N y (2^s) hp;have hRY:R1<Y:=by rw [←hR1];exact Nat.mod_lt _ h0
 have b1:=kn_lt hYY hU hD1;have b0:=kn_lt hYY hRY hD0;rw [hQ1] at b1;rw [hQ0] at b0;constructor
 ·rw [←k1,←hN,←hY,kn_two _ _ _ _ _ h0,hQ1,hR1,hQ0];simp [IntKind.wrap,IntKind.signed,IntKind.bits];omega
 ·rw [wrap_rest R1 D0 Q0 Y ((R1*4294967296+D0)%Y) (by have:=Nat.div_add_mod (R1*4294967296+D0) Y;rw [hQ0,Nat.mul_comm] at this;exact this.symm) (by have:=Nat.mod_lt (R1*4294967296+D0) h0;omega)];rw [←k2,←hN,←hY,kn_two_mod _ _ _ _ _ h0,hR1];simp
theorem div64_c (hi lo y:Nat) (w:World) (h0:0<hi) (h1:hi<y) (hy:y<256^8) (hl:lo<256^8) :
  Calls Tryz.prog 169 #[.int .u64 hi,.int .u64 lo,.int .u64 y] w fun e w'=>e=.returned (.tuple #[.int .u64 (((hi*256^8+lo) / y:Nat):Int),.int .u64 (((hi*256^8+lo)%y:Nat):Int)])∧w=w':=by
 obtain ⟨s,hs,hsl,h63,h64⟩:=lz_spec y (by omega) hy;obtain ⟨Y,Y1,Y0,U,L,D1,D0,e1,e2,e3,e4,e5,e6,e7,hY,hYY,hY0,hY1,hY1',hU,hD1,hD0,hN⟩:=div_facts hi lo y s h1 hl hsl h63 h64;have hy0:¬ (y:Int)=0:=by omega
 have hy1:¬ (y:Int)≤(hi:Int):=by omega
 have hi0:¬ (hi:Int)=0:=by omega
 have HS:=Lib.hid ((Tryz.bits_LeadingZeros64 (y:Int) w (by omega) (by rw [p8] at hy;omega)).mono fun _ _ h=>And.intro h.1 h.2.symm);rw [show ((y:Int)).toNat=y from rfl,hs] at HS;have H:=Lib.hid (And.intro hY (And.intro hYY (And.intro hY0 (And.intro hY1 (And.intro hY1' (And.intro hU (And.intro hD1 (And.intro hD0 hN))))))));clear h0 h1 hy hl hs hY hYY hY0 hY1 hY1' hU hD1 hD0 hN h63 h64;have hy10:¬ (Y1:Int)=0:=by have:=H.out;omega
 have HE:=Lib.hid (And.intro e1 (And.intro e2 (And.intro e3 (And.intro e4 (And.intro e5 (And.intro e6 e7))))));clear e1 e2 e3 e4 e5 e6 e7;go_enter Tryz.func169,Tryz.ntmps169
 go_wp2_with fail
 refine (HS.out).mono ?_;rintro e w' ⟨rfl,rfl⟩;go_upto_region 15 with fail
 obtain ⟨e1,e2,e3,e4,e5,e6,e7⟩:=HE.out;simp only [e1,e2,e3,e4,e5,e6,e7];clear e1 e2 e3 e4 e5 e6 e7;go_upto_block 0 with fail
 obtain ⟨hY,hYY,hY0,hY1,hY1',hU,hD1,hD0,hN⟩:=H.out;have hdm:=Nat.div_add_mod U Y1;have hml:=Nat.mod_lt U (show 0<Y1 by omega);have hcm:=Nat.mul_comm Y1 (U / Y1);obtain ⟨q0,hq0,hq0'⟩:=wv ((U:Int) / (Y1:Int)) (U / Y1) (by simp) (by have:=Nat.div_le_self U Y1;omega);obtain ⟨p0,hp0,hp0'⟩:=wv ((q0:Int)*(Y1:Int)) (q0*Y1) (by simp) (by rw [hq0'];omega);obtain ⟨r0,hr0,hr0'⟩:=wv ((U:Int)-(p0:Int)) (U%Y1) (by rw [hp0',hq0',←hcm];omega) (by omega);rw [hq0,hp0,hr0];have Hst:Hid (q0*Y1+r0=U∧(U*4294967296+D1) / Y≤q0∧r0<4294967296):=⟨by rw [hq0',hr0',←hcm];exact hdm,by rw [hq0'];exact kn_first hYY (by omega) hY0 hD1,by omega⟩;clear hY hYY hY0 hY1 hY1' hU hD1 hD0 hN hdm hml hcm hq0 hq0' hp0 hp0' hr0 hr0';go_cut [15,16] from 67 to 85 (fun q _ wx=>q=.int .u64 (((U*4294967296+D1) / Y:Nat):Int)∧w=wx)
 case first =>
  go_wp2_with fail
  go_loopw [15,16] (fun a b wr=>∃q r:Nat,a=.int .u64 (q:Int)∧b=.int .u64 (r:Int)∧q*Y1+r=U∧(U*4294967296+D1) / Y≤q∧r<4294967296∧w=wr) (fun a _ _=>(intOf a).toNat)
  case atStart=>exact ⟨q0,r0,rfl,rfl,Hst.out.1,Hst.out.2.1,Hst.out.2.2,rfl⟩
  case round =>
   obtain ⟨q,r,rfl,rfl,hqr,hQq,hrB,rfl⟩:=hrel;obtain ⟨hY,hYY,hY0,hY1,hY1',hU,hD1,hD0,hN⟩:=H.out;have hQB:=kn_lt hYY hU hD1;by_cases hB:(4294967296:Int)≤(q:Int)
   ·have hgt:(U*4294967296+D1) / Y<q:=by omega
    have hql:q<18446744073709551616:=by
     have:q*1≤q*Y1:=Nat.mul_le_mul_left _ (by omega);omega
    have hqp:0<q:=Nat.lt_of_le_of_lt (Nat.zero_le _) hgt;obtain ⟨q1,hq1,hq1'⟩:=wv ((q:Int)-1) (q-1) (by omega) (by omega);obtain ⟨r1,hr1,hr1'⟩:=wv ((r:Int)+(Y1:Int)) (r+Y1) (by simp) (by omega);have Hn:Hid (q1*Y1+r1=U∧(U*4294967296+D1) / Y≤q1∧q1<q):=⟨by rw [hq1',hr1'];exact kn_down hqr hqp,by rw [hq1'];exact Nat.le_sub_one_of_lt hgt,by omega⟩;by_cases hbr:(4294967296:Int)≤(r1:Int)
    ·have Hq:Hid ((U*4294967296+D1) / Y=q1):=Nat.le_antisymm Hn.out.2.1 (kn_le hYY (by omega) Hn.out.1 (kn_break hYY hY0 hU Hn.out.1 (by omega)));clear Hst hY hYY hY0 hY1 hY1' hU hD1 hD0 hN hqr hQq hrB hQB hq1' hr1' hgt hql hqp;go_wp2;go_meet
     exact ⟨by rw [Hq.out],rfl⟩
    ·have Hr:Hid (r1<4294967296):=by show r1<4294967296;omega
     clear Hst hY hYY hY0 hY1 hY1' hU hD1 hD0 hN hqr hQq hrB hQB hq1' hr1' hgt hql hqp;go_wp2;go_roundw
     case rel=>exact ⟨q1,r1,rfl,rfl,Hn.out.1,Hn.out.2.1,Hr.out,(by first | rfl | trivial)⟩
     case measure=>simp [intOf];exact Hn.out.2.2
   ·have hm1:=mulB (show q<4294967296 by omega) hY0;obtain ⟨pp,hpp,hpp'⟩:=wv ((q:Int)*(Y0:Int)) (q*Y0) (by simp) (by omega);obtain ⟨t0,ht0,ht0'⟩:=wv (4294967296*(r:Int)) (4294967296*r) (by simp) (by omega);obtain ⟨t1,ht1,ht1'⟩:=wv ((t0:Int)+(D1:Int)) (4294967296*r+D1) (by rw [ht0'];simp) (by omega);by_cases ht:(t1:Int)<(pp:Int)
    ·have hgt:(U*4294967296+D1) / Y<q:=kn_gt hYY (by omega) hqr (by omega);have hqp:0<q:=Nat.lt_of_le_of_lt (Nat.zero_le _) hgt;obtain ⟨q1,hq1,hq1'⟩:=wv ((q:Int)-1) (q-1) (by omega) (by omega);obtain ⟨r1,hr1,hr1'⟩:=wv ((r:Int)+(Y1:Int)) (r+Y1) (by simp) (by omega);have Hn:Hid (q1*Y1+r1=U∧(U*4294967296+D1) / Y≤q1∧q1<q):=⟨by rw [hq1',hr1'];exact kn_down hqr hqp,by rw [hq1'];exact Nat.le_sub_one_of_lt hgt,by omega⟩;by_cases hbr:(4294967296:Int)≤(r1:Int)
     ·have Hq:Hid ((U*4294967296+D1) / Y=q1):=Nat.le_antisymm Hn.out.2.1 (kn_le hYY (by omega) Hn.out.1 (kn_break hYY hY0 hU Hn.out.1 (by omega)));clear Hst hY hYY hY0 hY1 hY1' hU hD1 hD0 hN hqr hQq hrB hQB hq1' hr1' hgt hm1 hpp' ht0' ht1' hqp;go_wp2;go_meet
      exact ⟨by rw [Hq.out],rfl⟩
     ·have Hr:Hid (r1<4294967296):=by show r1<4294967296;omega
      clear Hst hY hYY hY0 hY1 hY1' hU hD1 hD0 hN hqr hQq hrB hQB hq1' hr1' hgt hm1 hpp' ht0' ht1' hqp;go_wp2;go_roundw
      case rel=>exact ⟨q1,r1,rfl,rfl,Hn.out.1,Hn.out.2.1,Hr.out,(by first | rfl | trivial)⟩
      case measure=>simp [intOf];exact Hn.out.2.2
    ·have Hq:Hid ((U*4294967296+D1) / Y=q):=Nat.le_antisymm hQq (kn_le hYY (by omega) hqr (by omega));clear Hst hY hYY hY0 hY1 hY1' hU hD1 hD0 hN hqr hQq hrB hQB hm1 hpp' ht0' ht1';go_wp2;go_meet
     exact ⟨by rw [Hq.out],rfl⟩
 case rest =>
  obtain ⟨rfl,rfl⟩:=hcut;obtain ⟨Q1,hQ1⟩:∃Q1,(U*4294967296+D1) / Y=Q1:=⟨_,rfl⟩;rw [hQ1];have HQ1:=Lib.hid hQ1;clear hQ1;go_upto_region 22 with fail
  obtain ⟨R1,hR1⟩:∃R1,(U*4294967296+D1)%Y=R1:=⟨_,rfl⟩;have hwr:=wrap_rest U D1 Q1 Y R1 (by have:=Nat.div_add_mod (U*4294967296+D1) Y;rw [HQ1.out,hR1,Nat.mul_comm] at this;exact this.symm) (by have:=Nat.mod_lt (U*4294967296+D1) (show 0<Y by have:=H.out;omega);have:=H.out;omega);have HR:Hid (R1<Y):=by show R1<Y;rw [←hR1];exact Nat.mod_lt _ (by have:=H.out;omega)
  have HR1:=Lib.hid hR1;rw [hwr];clear hwr hR1;go_upto_block 2 with fail
  obtain ⟨hY,hYY,hY0,hY1,hY1',hU,hD1,hD0,hN⟩:=H.out;have hRY:=HR.out;have hdm:=Nat.div_add_mod R1 Y1;have hml:=Nat.mod_lt R1 (show 0<Y1 by omega);have hcm:=Nat.mul_comm Y1 (R1 / Y1);obtain ⟨qa,hq0,hq0'⟩:=wv ((R1:Int) / (Y1:Int)) (R1 / Y1) (by simp) (by have:=Nat.div_le_self R1 Y1;omega);obtain ⟨pa,hp0,hp0'⟩:=wv ((qa:Int)*(Y1:Int)) (qa*Y1) (by simp) (by rw [hq0'];omega);obtain ⟨ra,hr0,hr0'⟩:=wv ((R1:Int)-(pa:Int)) (R1%Y1) (by rw [hp0',hq0',←hcm];omega) (by omega);rw [hq0,hp0,hr0];have Hsu:Hid (qa*Y1+ra=R1∧(R1*4294967296+D0) / Y≤qa∧ra<4294967296):=⟨by rw [hq0',hr0',←hcm];exact hdm,by rw [hq0'];exact kn_first hYY (by omega) hY0 hD0,by omega⟩;clear hRY hY hYY hY0 hY1 hY1' hU hD1 hD0 hN hdm hml hcm hq0 hq0' hp0 hp0' hr0 hr0';go_cut [18,16] from 102 to 121 (fun q _ wx=>q=.int .u64 (((R1*4294967296+D0) / Y:Nat):Int)∧w=wx)
  case first =>
   go_wp2_with fail
   go_loopw [18,16] (fun a b wr=>∃q r:Nat,a=.int .u64 (q:Int)∧b=.int .u64 (r:Int)∧q*Y1+r=R1∧(R1*4294967296+D0) / Y≤q∧r<4294967296∧w=wr) (fun a _ _=>(intOf a).toNat)
   case atStart=>exact ⟨qa,ra,rfl,rfl,Hsu.out.1,Hsu.out.2.1,Hsu.out.2.2,rfl⟩
   case round =>
    obtain ⟨q,r,rfl,rfl,hqr,hQq,hrB,rfl⟩:=hrel;obtain ⟨hY,hYY,hY0,hY1,hY1',hU,hD1,hD0,hN⟩:=H.out;have hQB:=kn_lt hYY HR.out hD0;by_cases hB:(4294967296:Int)≤(q:Int)
    ·have hgt:(R1*4294967296+D0) / Y<q:=by omega
     have hql:q<18446744073709551616:=by
      have hRY:=HR.out;have:q*1≤q*Y1:=Nat.mul_le_mul_left _ (by omega);omega
     have hqp:0<q:=Nat.lt_of_le_of_lt (Nat.zero_le _) hgt;obtain ⟨q1,hq1,hq1'⟩:=wv ((q:Int)-1) (q-1) (by omega) (by omega);obtain ⟨r1,hr1,hr1'⟩:=wv ((r:Int)+(Y1:Int)) (r+Y1) (by simp) (by omega);have Hn:Hid (q1*Y1+r1=R1∧(R1*4294967296+D0) / Y≤q1∧q1<q):=⟨by rw [hq1',hr1'];exact kn_down hqr hqp,by rw [hq1'];exact Nat.le_sub_one_of_lt hgt,by omega⟩;by_cases hbr:(4294967296:Int)≤(r1:Int)
     ·have Hq:Hid ((R1*4294967296+D0) / Y=q1):=Nat.le_antisymm Hn.out.2.1 (kn_le hYY (by omega) Hn.out.1 (kn_break hYY hY0 HR.out Hn.out.1 (by omega)));clear Hsu hY hYY hY0 hY1 hY1' hU hD1 hD0 hN hqr hQq hrB hQB hq1' hr1' hgt hql hqp;go_wp2;go_meet
      exact ⟨by rw [Hq.out],rfl⟩
     ·have Hr:Hid (r1<4294967296):=by show r1<4294967296;omega
      clear Hsu hY hYY hY0 hY1 hY1' hU hD1 hD0 hN hqr hQq hrB hQB hq1' hr1' hgt hql hqp;go_wp2;go_roundw
      case rel=>exact ⟨q1,r1,rfl,rfl,Hn.out.1,Hn.out.2.1,Hr.out,(by first | rfl | trivial)⟩
      case measure=>simp [intOf];exact Hn.out.2.2
    ·have hm1:=mulB (show q<4294967296 by omega) hY0;obtain ⟨pp,hpp,hpp'⟩:=wv ((q:Int)*(Y0:Int)) (q*Y0) (by simp) (by omega);obtain ⟨t0,ht0,ht0'⟩:=wv (4294967296*(r:Int)) (4294967296*r) (by simp) (by omega);obtain ⟨t1,ht1,ht1'⟩:=wv ((t0:Int)+(D0:Int)) (4294967296*r+D0) (by rw [ht0'];simp) (by omega);by_cases ht:(t1:Int)<(pp:Int)
     ·have hgt:(R1*4294967296+D0) / Y<q:=kn_gt hYY (by omega) hqr (by omega);have hqp:0<q:=Nat.lt_of_le_of_lt (Nat.zero_le _) hgt;obtain ⟨q1,hq1,hq1'⟩:=wv ((q:Int)-1) (q-1) (by omega) (by omega);obtain ⟨r1,hr1,hr1'⟩:=wv ((r:Int)+(Y1:Int)) (r+Y1) (by simp) (by omega);have Hn:Hid (q1*Y1+r1=R1∧(R1*4294967296+D0) / Y≤q1∧q1<q):=⟨by rw [hq1',hr1'];exact kn_down hqr hqp,by rw [hq1'];exact Nat.le_sub_one_of_lt hgt,by omega⟩;by_cases hbr:(4294967296:Int)≤(r1:Int)
      ·have Hq:Hid ((R1*4294967296+D0) / Y=q1):=Nat.le_antisymm Hn.out.2.1 (kn_le hYY (by omega) Hn.out.1 (kn_break hYY hY0 HR.out Hn.out.1 (by omega)));clear Hsu hY hYY hY0 hY1 hY1' hU hD1 hD0 hN hqr hQq hrB hQB hq1' hr1' hgt hm1 hpp' ht0' ht1' hqp;go_wp2;go_meet
       exact ⟨by rw [Hq.out],rfl⟩
      ·have Hr:Hid (r1<4294967296):=by show r1<4294967296;omega
       clear Hsu hY hYY hY0 hY1 hY1' hU hD1 hD0 hN hqr hQq hrB hQB hq1' hr1' hgt hm1 hpp' ht0' ht1' hqp;go_wp2;go_roundw
       case rel=>exact ⟨q1,r1,rfl,rfl,Hn.out.1,Hn.out.2.1,Hr.out,(by first | rfl | trivial)⟩
       case measure=>simp [intOf];exact Hn.out.2.2
     ·have Hq:Hid ((R1*4294967296+D0) / Y=q):=Nat.le_antisymm hQq (kn_le hYY (by omega) hqr (by omega));clear Hsu hY hYY hY0 hY1 hY1' hU hD1 hD0 hN hqr hQq hrB hQB hm1 hpp' ht0' ht1';go_wp2;go_meet
      exact ⟨by rw [Hq.out],rfl⟩
  case rest =>
   obtain ⟨rfl,rfl⟩:=hcut;obtain ⟨Q0,hQ0⟩:∃Q0,(R1*4294967296+D0) / Y=Q0:=⟨_,rfl⟩;rw [hQ0];have HQ0:=Lib.hid hQ0;clear hQ0;go_upto_region 28 with fail
   go_wp2;go_ret2
   obtain ⟨hY,hYY,hY0,hY1,hY1',hU,hD1,hD0,hN⟩:=H.out;obtain ⟨z1,z2⟩:=div_end (hi*256^8+lo) y s Y Y1 Y0 U D1 D0 Q1 Q0 R1 hY hYY (by omega) (by omega) hU hD1 hD0 hN HQ1.out HR1.out HQ0.out;rw [z1,z2];exact ⟨rfl,rfl⟩
end
end Go.Proofs.YtdoacbdkbbpamaaGreatDoor
