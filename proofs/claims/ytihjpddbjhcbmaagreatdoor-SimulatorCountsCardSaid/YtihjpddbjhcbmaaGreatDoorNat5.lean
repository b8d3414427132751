import Derived.Test.YtihjpddbjhcbmaaGreatDoorNat3
set_option linter.unusedVariables false
set_option linter.unusedSimpArgs false
set_option maxRecDepth 100000
set_option maxHeartbeats 16000000
namespace Go.Proofs.YtihjpddbjhcbmaaGreatDoor
section
open Go.RowKit
theorem bt {a b c:World} (h:Bw a b) (k:Bw b c):Bw a c:=h.trans (k.mono h.size)
theorem lt128 {n:Nat} (h:n<256^8):n<256^128:=Nl h P8
theorem wrapU (n:Nat) (h:n<256^8):IntKind.u64.wrap (n:Int)=(n:Int):=by
 rw[←u64_as_pow]at h;simp[IntKind.wrap,IntKind.signed,IntKind.bits];omega
theorem wrapU_div (a b:Nat) (h:a / b<256^8):IntKind.u64.wrap ((a:Int) / (b:Int))=(a:Int) / (b:Int):=by
 have:=wrapU _ h;rwa [Int.natCast_ediv]at this
theorem wrapU_mod (a b:Nat) (h:a%b<256^8):IntKind.u64.wrap ((a:Int)%(b:Int))=(a:Int)%(b:Int):=by
 have:=wrapU _ h;rwa [Int.natCast_emod]at this
theorem ofDiv_c (a b:Nat) (w:World) (h:a / b<256^8) :
  Calls Tryz.prog 35 #[.int .u64 ((a:Int) / (b:Int))] w fun e w'=>e=.returned (.string (E (a / b)))∧Bw w w':=by
 rw[←Int.natCast_ediv];exact of_c _ w h
theorem ofMod_c (a b:Nat) (w:World) (h:a%b<256^8) :
  Calls Tryz.prog 35 #[.int .u64 ((a:Int)%(b:Int))] w fun e w'=>e=.returned (.string (E (a%b)))∧Bw w w':=by
 rw[←Int.natCast_emod];exact of_c _ w h
theorem cmp_neg (a b:Nat) (h:a<b):cmpN a b<0:=by unfold cmpN;rw[if_pos h];decide
theorem cmp_nneg (a b:Nat) (h:b≤a):¬ cmpN a b<0:=by unfold cmpN;rw[if_neg (by omega)];split <;> decide
theorem sub_c (a b:Nat) (w:World) (ha:a<256^128) (hb:b≤a) :
  Calls Tryz.prog 195 #[.string (E a),.string (E b)] w fun e w'=>e=.returned (.tuple #[.string (E (a-b)),.int .i64 0])∧Bw w w':=by
 have HA:=Kh ha;have HB:=Kh (show b<256^128 by omega);have h1:=sz a ha;have h2:=sz b HB.out;have HL:=Kh hb;have hc:=cmp_nneg a b hb;clear ha hb;go_enter Tryz.func195,Tryz.ntmps195
 go_wp2_with fail
 refine (validE_c a _ HA.out).mono ?_;rintro e w' ⟨rfl,rfl⟩;go_wp2_with fail
 refine (validE_c b _ HB.out).mono ?_;rintro e w' ⟨rfl,rfl⟩;go_wp2_with fail
 refine (compare_c a b _ (by omega) (by omega)).mono ?_;rintro e w' ⟨rfl,rfl⟩;go_wp2_with fail
 refine (less_c a b _ (by omega) HL.out).mono ?_;rintro e w1 ⟨rfl,hd⟩;go_wp2;go_ret2
 exact⟨rfl,hd⟩
theorem sub_neg (a b:Nat) (w:World) (hd:b<256^128) (hb:a<b) :
  Calls Tryz.prog 195 #[.string (E a),.string (E b)] w fun e w'=>e=.returned (.tuple #[.string (E 0),.int .i64 2])∧w=w':=by
 have HB:=Kh hd;have HA:=Kh (show a<256^128 by omega);have h1:=sz a HA.out;have h2:=sz b hd;have hc:=cmp_neg a b hb;clear hd hb;go_enter Tryz.func195,Tryz.ntmps195
 go_wp2_with fail
 refine (validE_c a _ HA.out).mono ?_;rintro e w' ⟨rfl,rfl⟩;go_wp2_with fail
 refine (validE_c b _ HB.out).mono ?_;rintro e w' ⟨rfl,rfl⟩;go_wp2_with fail
 refine (compare_c a b _ (by omega) (by omega)).mono ?_;rintro e w' ⟨rfl,rfl⟩;go_wp2;go_ret2
 exact⟨rfl,rfl⟩
theorem divided_c (a b:Nat) (w:World) (ha:a<256^8) (hb:b<256^128) (h0:0<b) :
  Calls Tryz.prog 306 #[.string (E a),.string (E b)] w fun e w'=>e=.returned (.tuple #[.string (E (a / b)),.string (E (a%b))])∧Bw w w':=by
 have h1:(E a).size≤8:=(E_size_le a 8).2 ha;have h2:=sz b hb;by_cases hlt:a<b
 ·have hc:=cmp_neg a b hlt;have H1:=Kh (Nat.div_eq_of_lt hlt);have H2:=Kh (Nat.mod_eq_of_lt hlt);clear ha hb h0 hlt;go_enter Tryz.func306,Tryz.ntmps306
  go_wp2_with fail
  refine (compare_c a b _ (by omega) (by omega)).mono ?_;rintro e w' ⟨rfl,rfl⟩;go_wp2;go_ret2
  exact⟨r2 (vE H1.out.symm) (vE H2.out.symm),Br⟩
 ·have hc:=cmp_nneg a b (by omega);have HA:=Kh ha;have HB:=Kh (show b<256^8 by omega);have HQ:=Kh (Nat.lt_of_le_of_lt (Nat.div_le_self a b) ha);have HR:=Kh (Nat.lt_of_le_of_lt (Nat.mod_le a b) ha);have hz:((b:Int)==0)=false:=by rw[beq_eq_false_iff_ne];omega
  have he:a<18446744073709551616:=by rw[u64_as_pow];exact ha
  have hf:b<18446744073709551616:=by rw[u64_as_pow];exact HB.out
  clear ha hb hlt;go_enter Tryz.func306,Tryz.ntmps306
  go_wp2_with fail
  refine (compare_c a b _ (by omega) (by omega)).mono ?_;rintro e w' ⟨rfl,rfl⟩;go_wp2_with fail
  refine (small_c a _ HA.out).mono ?_;rintro e w' ⟨rfl,rfl⟩;go_wp2_with fail
  refine (small_c b _ HB.out).mono ?_;rintro e w' ⟨rfl,rfl⟩;go_wp2_with fail
  have hg:=wrapU_div a b HQ.out;have hh:=wrapU_mod a b HR.out;refine wp_region_grew (by kernel_rfl) (by kernel_rfl) ?_;repeat (go_big_quiet_step ((intro hC;first | (go_at_call_of 35 (Value.int .u64 ((a:Int) / (b:Int)));exact grew_of hC (ofDiv_c a b _ HQ.out)) | (go_at_call_of 35 (Value.int .u64 ((a:Int)%(b:Int)));exact grew_of hC (ofMod_c a b _ HR.out)))))
  refine wpQuiet_nil ?_;intro w1 hd;go_wp2;go_ret2
  exact⟨rfl,hd.out⟩
end
section
open Go.RowKit
theorem divmod_c (a b:Nat) (w:World) (ha:a<256^8) (hb:b<256^128) (h0:0<b) :
  Calls Tryz.prog 256 #[.string (E a),.string (E b)] w fun e w'=>e=.returned (.tuple #[.string (E (a / b)),.string (E (a%b)),.int .i64 0])∧Bw w w':=by
 have HA:=Kh ha;have HB:=Kh hb;have H0:=Kh h0;have hz:=nzE h0;clear ha hb h0;go_enter Tryz.func256,Tryz.ntmps256
 go_wp2_with fail
 refine (validE_c a _ (lt128 HA.out)).mono ?_;rintro e w' ⟨rfl,rfl⟩;go_wp2_with fail
 refine (validE_c b _ HB.out).mono ?_;rintro e w' ⟨rfl,rfl⟩;go_wp2_with fail
 refine (divided_c a b _ HA.out HB.out H0.out).mono ?_;rintro e w1 ⟨rfl,hc⟩;go_wp2;go_ret3
 exact⟨rfl,hc⟩
def strVal:Value→Nat | .string s=>val s.data.toList | _=>0
theorem strVal_E (n:Nat):strVal (.string (E n))=n:=val_E n
theorem gcd_c (a b:Nat) (w:World) (ha:a<256^8) (hb:b<256^8) :
  Calls Tryz.prog 316 #[.string (E a),.string (E b)] w fun e w'=>e=.returned (.tuple #[.string (E (Nat.gcd a b)),.int .i64 0])∧Bw w w':=by
 have HA:=Kh ha;have HB:=Kh hb;clear ha hb;go_enter Tryz.func316,Tryz.ntmps316
 go_wp2_with fail
 refine (validE_c a _ (lt128 HA.out)).mono ?_;rintro e w' ⟨rfl,rfl⟩;go_wp2_with fail
 refine (validE_c b _ (lt128 HB.out)).mono ?_;rintro e w' ⟨rfl,rfl⟩;go_wp2;go_loopw [0,1] (fun x y wr=>∃p q:Nat,p<256^8∧q<256^8∧x=.string (E p)∧y=.string (E q)∧Nat.gcd p q=Nat.gcd a b∧Bw w wr) (fun _ y _=>strVal y)
 case atStart=>exact⟨a,b,HA.out,HB.out,rfl,rfl,rfl,Br⟩
 case round =>
  obtain⟨p,q,hp,hq,rfl,rfl,hg,hc⟩:=hrel;have HP:=Kh hp;clear hp;have HQ:=Kh hq;clear hq;have HG:=Kh hg;clear hg;by_cases h0:0<q
  ·have hz:=nzE h0;have H0:=Kh h0;clear h0;go_wp2_with fail
   refine (divided_c p q _ HP.out (lt128 HQ.out) H0.out).mono ?_;rintro e w1 ⟨rfl,hd⟩;go_wp2;go_roundw
   case rel =>
    refine⟨q,p%q,HQ.out,Nat.lt_trans (Nat.mod_lt _ H0.out) HQ.out,rfl,rfl,?_,bt hc hd⟩;rw[←HG.out,Nat.gcd_comm p q,Nat.gcd_rec q p,Nat.gcd_comm]
   case measure =>
    rw[strVal_E,strVal_E];exact Nat.mod_lt _ H0.out
  ·obtain rfl:q=0:=by omega
   have hz:=zE (n:=0) rfl;have HE:Hid (p=Nat.gcd a b):=by rw[Hid,←HG.out,Nat.gcd_zero_right]
   go_wp2;go_ret2
   exact⟨r2 (vE HE.out) rfl,hc⟩
theorem firstb (n:Nat) (h:0<(E n).size):(E n)[0].toNat=n / 256^((E n).size-1):=by
 have h1:=dgt_at (E n) ((E n).size-1) 0 (by omega) (by omega);rw[h1,dgt_E];have:=(first_byte n ((E_size_pos n).1 h)).2;rw[←E_size]at this;exact Nat.mod_eq_of_lt this
theorem len8_c (x:Int) (w:World) (h0:0≤x) (h1:x≤255) :
  Calls Tryz.prog 310 #[.int .u8 x] w fun e w'=>e=.returned (.int .i64 (nb x.toNat))∧w=w':=
 (Tryz.bits_Len8 x w h0 h1).mono fun _ _ h=>⟨by rw[h.1];have:=nb_byte ⟨x.toNat,by omega⟩;simp only at this;rw[this],h.2.symm⟩
theorem bits_c (n:Nat) (w:World) (hn:n<256^128) :
  Calls Tryz.prog 266 #[.string (E n)] w fun e w'=>e=.returned (.int .i64 (nb n))∧w=w':=by
 have HN:=Kh hn;have hs:=sz n hn;clear hn;by_cases h0:n=0
 ·subst h0;have hz:=zE (n:=0) rfl;go_enter Tryz.func266,Tryz.ntmps266
  go_wp2_with fail
  refine (validE_c 0 _ HN.out).mono ?_;rintro e w' ⟨rfl,rfl⟩;go_wp2;go_ret
  exact⟨rfl,rfl⟩
 ·have hz:=nzE (n:=n) (by omega);have hp:=(E_size_pos n).2 (by omega);have HF:=Kh (firstb n hp);have hb:=Kh (nb_first n (by omega));have hlt:=(E n)[0].toNat_lt
  have hc:Hid (nb (E n)[0].toNat≤8):=by
   have h1:=nb_byte ⟨(E n)[0].toNat,by omega⟩;have h2:=Lib.bitLen_le8 ⟨(E n)[0].toNat,by omega⟩;simp only at h1 h2;unfold Hid;omega
  clear h0;go_enter Tryz.func266,Tryz.ntmps266
  go_wp2_with fail
  refine (validE_c n _ HN.out).mono ?_;rintro e w' ⟨rfl,rfl⟩;go_wp2_with fail
  refine (len8_c _ _ (by omega) (by omega)).mono ?_;rintro e w' ⟨rfl,rfl⟩;rw[Int.toNat_natCast];have hd:=hc.out
  have HE:Hid (((8*((E n).size-1)+nb (E n)[0].toNat:Nat):Int)=(nb n:Int)):=by
   rw[Hid,HF.out,E_size,←hb.out]
  generalize nb (E n)[0].toNat=q at hd HE;go_wp2;go_ret
  exact⟨ri (by rw[←HE.out];omega),rfl⟩
theorem i64_and1 (n:Int):bits .and .i64 n 1=n%2:=by
 have h1:(BitVec.ofInt 64 1).toNat=2^1-1:=by decide
 have key:(BitVec.ofInt 64 n &&& BitVec.ofInt 64 1).toNat=(n%((2^64:Nat):Int)).toNat%2^1:=by
  rw[BitVec.toNat_and,BitVec.toNat_ofInt,h1,Nat.and_two_pow_sub_one_eq_mod]
 show IntKind.i64.wrap ((BitVec.ofInt 64 n &&& BitVec.ofInt 64 1).toNat:Nat)=n%2;rw[key,IntKind.wrap_i64];omega
theorem bitB_of_dgt (n i:Nat):(bits .and .i64 ((dgt (E n) (i / 8):Int) / 2^(i%8)) 1==1)=bitB n i:=by
 rw[i64_and1,dgt_E];have h:=bit_byte n i
 have e:((n / 256^(i / 8)%256:Nat):Int) / 2^(i%8)=((n / 256^(i / 8)%256 / 2^(i%8):Nat):Int):=by
  rw[Int.natCast_ediv];simp
 rw[e];unfold bitB;rw[Bool.eq_iff_iff,beq_iff_eq,beq_iff_eq];omega
theorem bitB_out (n i:Nat) (h:(E n).size≤i / 8):bitB n i=false:=by
 have h1:=E_lt n
 have h2:256^(E n).size≤2^i:=by
  rw[pow256];exact Nat.pow_le_pow_right (by decide) (by omega)
 unfold bitB;rw[Nat.div_eq_of_lt (by omega)];rfl
theorem bit_c (n:Nat) (i:Nat) (w:World) (hn:n<256^128) (hi:i≤1000000) :
  Calls Tryz.prog 270 #[.string (E n),.int .i64 (i:Int)] w fun e w'=>e=.returned (.bool (bitB n i))∧w=w':=by
 have HN:=Kh hn;have hs:=sz n hn;clear hn;by_cases h0:i / 8<(E n).size
 ·have hd:=dgt_lt (E n) (i / 8);have HQ:Hid (((i:Int) / 8).toNat=i / 8):=by unfold Hid;omega
  have HB:=Kh (bitB_of_dgt n i);go_enter Tryz.func270,Tryz.ntmps270
  go_wp2_with fail
  refine (validE_c n _ HN.out).mono ?_;rintro e w' ⟨rfl,rfl⟩;go_wp2_with fail
  refine (digit_c (E n) _ _ (by omega) (by omega) (by omega)).mono ?_;rintro e w' ⟨rfl,rfl⟩;rw[HQ.out];go_wp2;go_ret
  exact⟨rb HB.out,rfl⟩
 ·have HB:=Kh (bitB_out n i (by omega));have hd:decide ((i:Int) / 8<((E n).size:Int))=false:=by rw[decide_eq_false_iff_not];omega
  go_enter Tryz.func270,Tryz.ntmps270
  go_wp2_with fail
  refine (validE_c n _ HN.out).mono ?_;rintro e w' ⟨rfl,rfl⟩;go_wp2;go_ret
  exact⟨rb HB.out.symm,rfl⟩
theorem mul64_c (x y:Nat) (w:World) (hx:x<256^8) (hy:y<256^8) (h:x*y<256^8) :
  Calls Tryz.prog 274 #[.int .u64 x,.int .u64 y] w fun e w'=>e=.returned (.tuple #[.int .u64 0,.int .u64 ((x*y:Nat):Int)])∧w=w':=by
 rw[←u64_as_pow]at hx hy h;refine (Tryz.bits_Mul64 x y hx hy w).mono fun _ _ h2=>⟨?_,h2.2.symm⟩
 rw[h2.1,Nat.div_eq_of_lt h,Nat.mod_eq_of_lt h];rfl
theorem mul_small (a b:Nat) (w:World) (ha:a<256^8) (hb:b<256^8) (h:a*b<256^8) :
  Calls Tryz.prog 211 #[.string (E a),.string (E b)] w fun e w'=>e=.returned (.tuple #[.string (E (a*b)),.int .i64 0])∧Bw w w':=by
 have h1:=(E_size_le a 8).2 ha;have h2:=(E_size_le b 8).2 hb;have HA:=Kh ha;have HB:=Kh hb;have hc:=Kh h;clear ha hb h;go_enter Tryz.func211,Tryz.ntmps211
 go_wp2_with fail
 refine (validE_c a _ (lt128 HA.out)).mono ?_;rintro e w' ⟨rfl,rfl⟩;go_wp2_with fail
 refine (validE_c b _ (lt128 HB.out)).mono ?_;rintro e w' ⟨rfl,rfl⟩;go_wp2_with fail
 refine (small_c a _ HA.out).mono ?_;rintro e w' ⟨rfl,rfl⟩;go_wp2_with fail
 refine (small_c b _ HB.out).mono ?_;rintro e w' ⟨rfl,rfl⟩;go_wp2_with fail
 refine (mul64_c a b _ HA.out HB.out hc.out).mono ?_;rintro e w' ⟨rfl,rfl⟩;go_wp2_with fail
 refine (of_c (a*b) _ hc.out).mono ?_;rintro e w1 ⟨rfl,hd⟩;go_wp2;go_ret2
 exact⟨rfl,hd⟩
end
end Go.Proofs.YtihjpddbjhcbmaaGreatDoor
