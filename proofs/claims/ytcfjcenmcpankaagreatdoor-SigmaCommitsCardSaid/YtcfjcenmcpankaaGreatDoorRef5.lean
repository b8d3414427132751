import Derived.Test.YtcfjcenmcpankaaGreatDoorRef4
import Derived.Test.YtcfjcenmcpankaaGreatDoorBits
set_option linter.unusedVariables false
set_option linter.unusedSimpArgs false
set_option maxRecDepth 100000
set_option maxHeartbeats 16000000
namespace Go.Proofs.YtcfjcenmcpankaaGreatDoor
open Go.RowKit
theorem first_at (n:Nat) (h:0<(E n).size):(E n)[0].toNat=n / 256^((E n).size-1):=by
 have h1:=dgt_at (E n) ((E n).size-1) 0 (by omega) (by omega);rw [h1,dgt_E];have:=(first_byte n ((E_size_pos n).1 h)).2;rw [←E_size] at this;exact Nat.mod_eq_of_lt this
theorem rbits_c (n:Nat) (w:World) (hm:(E n).size≤1000000) :
  Calls Tryz.prog 201 #[.string (E n)] w fun e w'=>e=.returned (.int .i64 (nb n))∧w=w':=by
 by_cases h0:n=0
 ·subst h0;have hz:=zE (n:=0) rfl;go_enter Tryz.func201,Tryz.ntmps201
  go_wp2;go_ret
  exact ⟨rfl,rfl⟩
 ·have hz:=nzE (n:=n) (by omega);have hp:=(E_size_pos n).2 (by omega);have HF:=Lib.hid (first_at n hp);have HB:=Lib.hid (first_byte n (by omega));have HN:=Lib.hid (nb_first n (by omega));have hwb:=wb (E n)[0];have hlt:=(E n)[0].toNat_lt;generalize hx:(E n)[0].toNat=x at hwb hlt;have HX:=Lib.hid hx;go_enter Tryz.func201,Tryz.ntmps201
  go_wp2;clear hx hwb;go_loop [3,4] (fun c y=>∃(m z:Nat),z<256∧y=.int .i64 z∧m≤8∧m+nb z=nb x∧c=.int .i64 (8*((E n).size-1)+m:Nat)) (fun _ y=>(intOf y).toNat)
  case atStart=>exact ⟨0,x,by omega,rfl,by omega,by omega,vi (by omega)⟩
  case round =>
   obtain ⟨m,z,hz1,rfl,hm8,hv,rfl⟩:=hrel;have HV:=Lib.hid hv;clear hv
   have HB8:Hid (nb x≤8):=by
    have:=nb_byte ⟨x,by omega⟩;have h2:=Lib.bitLen_le8 ⟨x,by omega⟩;simp only at this h2;unfold Hid;omega
   by_cases hzp:0<z
   ·have HH:=Lib.hid (nb_half z hzp);go_wp2;go_round
    case rel =>
     have h1:=HH.out;have h2:=HV.out;have h3:=HB8.out;exact ⟨m+1,z / 2,by omega,by go_num,by omega,by omega,vi (by omega)⟩
    case measure=>simp [intOf];omega
   ·obtain rfl:z=0:=by omega
    have HE:Hid (8*((E n).size-1)+m=nb n):=by
     have h2:=HV.out;rw [nb_zero] at h2;have h3:=HN.out;rw [←E_size,←HF.out,HX.out] at h3;unfold Hid;omega
    go_wp2;go_ret
    exact ⟨ri (congrArg (fun x:Nat=>(x:Int)) HE.out),rfl⟩
theorem half_pow (x k:Nat):x / 2^k / 2=x / 2^(k+1):=by rw [Nat.pow_succ,Nat.div_div_eq_div_mul]
theorem rone_c (n i:Nat) (w:World) (hm:(E n).size≤1000000) (hi:i≤1000000) :
  Calls Tryz.prog 202 #[.string (E n),.int .i64 (i:Int)] w fun e w'=>e=.returned (.bool (bitB n i))∧w=w':=by
 have HB:=Lib.hid (bit_byte n i);have hd:=dgt_lt (E n) (i / 8);have HQ:Hid (((i:Int) / 8).toNat=i / 8):=by unfold Hid;omega
 have HD:=Lib.hid (dgt_E n (i / 8));go_enter Tryz.func202,Tryz.ntmps202
 go_wp2_with fail
 refine (rat_c (E n) _ _ (by omega) (by omega) (by omega)).mono ?_;rintro e w' ⟨rfl,rfl⟩;rw [HQ.out];generalize dgt (E n) (i / 8)=d at hd HD;go_wp2;go_loop [5,6] (fun x j=>∃k:Nat,k≤i%8∧j=.int .i64 k∧x=.int .i64 (d / 2^k:Nat)) (fun _ j=>8-(intOf j).toNat)
 case atStart=>exact ⟨0,by omega,rfl,by simp⟩
 case round =>
  obtain ⟨k,hk,rfl,rfl⟩:=hrel;have HH:=Lib.hid (half_pow d k);have hdk:d / 2^k≤d:=Nat.div_le_self _ _;by_cases hlt:k<i%8
  ·generalize hq:d / 2^k=q at hdk HH;have HQ2:=Lib.hid hq;clear hq;go_wp2;go_round
   case rel=>exact ⟨k+1,by omega,by go_num,by rw [←HH.out];go_num⟩
   case measure=>simp [intOf];omega
  ·obtain rfl:k=i%8:=by omega
   have HE:Hid (((d / 2^(i%8):Nat):Int)%2=((n / 2^i%2:Nat):Int)):=by
    have:=HB.out;rw [←HD.out] at this;unfold Hid;omega
   generalize hq:d / 2^(i%8)=q at hdk HE;have HQ2:=Lib.hid hq;clear hq;go_wp2;go_ret
   refine ⟨rb ?_,rfl⟩;rw [HE.out];unfold bitB;rw [Bool.eq_iff_iff,beq_iff_eq,beq_iff_eq];omega
theorem rofMul_c (a b:Nat) (w:World) (h:a*b<256^8) :
  Calls Tryz.prog 30 #[.int .u64 (IntKind.u64.wrap ((a:Int)*(b:Int)))] w fun e w'=>e=.returned (.string (E (a*b)))∧Below w.heap.size w w':=by
 rw [←Int.natCast_mul,wrapU _ h];exact rof_c _ w h
theorem rtimes_short (a b:Nat) (w:World) (h8:(E a).size+(E b).size≤8) :
  Calls Tryz.prog 46 #[.string (E a),.string (E b)] w fun e w'=>e=.returned (.string (E (a*b)))∧Below w.heap.size w w':=by
 have HA:=Lib.hid ((E_size_le a 8).1 (by omega));have HB:=Lib.hid ((E_size_le b 8).1 (by omega));have hab:a*b<256^8:=Nat.lt_of_lt_of_le (mul_lt_pow a b _ _ (E_lt a) (E_lt b)) (Nat.pow_le_pow_right (by decide) h8);have HAB:=Lib.hid hab;clear hab;go_enter Tryz.func46,Tryz.ntmps46
 go_wp2_with fail
 refine (ru64_c a _ HA.out).mono ?_;rintro e w' ⟨rfl,rfl⟩;go_wp2_with fail
 refine (ru64_c b _ HB.out).mono ?_;rintro e w' ⟨rfl,rfl⟩;go_wp2_with fail
 refine (rofMul_c a b _ HAB.out).mono ?_;rintro e w1 ⟨rfl,hb1⟩;go_wp2;go_ret
 exact ⟨rfl,hb1⟩
theorem rtimes_c (a b:Nat) (w:World) (h1:(E a).size≤1000) (h2:(E b).size≤1000) :
  Calls Tryz.prog 46 #[.string (E a),.string (E b)] w fun e w'=>e=.returned (.string (E (a*b)))∧Below w.heap.size w w':=by
 rcases Nat.lt_or_ge 8 ((E a).size+(E b).size) with h | h
 ·exact rtimes_long a b w h1 h2 h
 ·exact rtimes_short a b w h
end Go.Proofs.YtcfjcenmcpankaaGreatDoor
