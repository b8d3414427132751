import Derived.Test.YtcfjcenmcpankaaGreatDoorRMod1
import Derived.Test.YtcfjcenmcpankaaGreatDoorRInt6
import Derived.Test.YtcfjcenmcpankaaGreatDoorInv
set_option linter.unusedVariables false
set_option linter.unusedSimpArgs false
set_option maxRecDepth 100000
set_option maxHeartbeats 16000000
namespace Go.Proofs.YtcfjcenmcpankaaGreatDoor
open Go.RowKit
def subM (a b m:Nat):Nat:=(a%m+m-b%m)%m
theorem pow_step0 (a e m i:Nat) (h:bitB e i=false):a^(e / 2^(i+1))%m*(a^(e / 2^(i+1))%m)%m=a^(e / 2^i)%m:=by
 rw [bit_nil h];generalize e / 2^(i+1)=k;rw [Nat.two_mul,Nat.pow_add,←Nat.mul_mod]
theorem pow_step1 (a e m i:Nat) (h:bitB e i=true):a^(e / 2^(i+1))%m*(a^(e / 2^(i+1))%m)%m*a%m=a^(e / 2^i)%m:=by
 rw [bit_one h];generalize e / 2^(i+1)=k;rw [Nat.pow_succ,Nat.two_mul,Nat.pow_add,←Nat.mul_mod,Nat.mod_mul_mod]
theorem rraise_c (a e m:Nat) (w:World) (ha:a<256^128) (he:e<256^128) (hm:m<256^64) (h0:0<m) :
  Calls Tryz.prog 206 #[.string (E a),.string (E e),.string (E m)] w fun r w'=>r=.returned (.string (E (a^e%m)))∧Below w.heap.size w w':=by
 have HA:=Lib.hid ha;have HE:=Lib.hid he;have HM:=Lib.hid hm;have HM1:=Lib.hid (lt64 hm);have H0:=Lib.hid h0;have hsz:=sz e he;have hnb:=nb_le e 128 hsz;have HO:=Lib.hid (show ∀w:World,Calls Tryz.prog 30 #[.int .u64 1] w fun e w'=>e=.returned (.string (E 1))∧Below w.heap.size w w' from fun w=>rof_c 1 w (by decide));clear ha he hm h0;go_enter Tryz.func206,Tryz.ntmps206
 go_wp2_with fail
 refine (HO.out _).mono ?_;rintro e w1 ⟨rfl,hb1⟩;go_wp2_with fail
 refine (rmod3_c 1 m _ (by decide) HM1.out H0.out).mono ?_;rintro e w2 ⟨rfl,hb2⟩;go_wp2_with fail
 refine (rBits_c e _ HE.out).mono ?_;rintro e w' ⟨rfl,rfl⟩;go_wp2;go_loopw [7,8] (fun x y wr=>∃i:Nat,i≤nb e∧y=.int .i64 ((i:Int)-1)∧x=.string (E (a^(e / 2^i)%m))∧Below w.heap.size w wr) (fun _ y _=>(intOf y+1).toNat)
 case atStart =>
  exact ⟨nb e,by omega,rfl,by rw [Nat.div_eq_of_lt (lt_nb e),Nat.pow_zero],bt hb1 hb2⟩
 case round =>
  obtain ⟨j,hj,rfl,rfl,hbel⟩:=hrel;by_cases hlt:0<j
  ·obtain ⟨i,rfl⟩:∃i,j=i+1:=⟨j-1,by omega⟩;have HI:Hid (((i+1:Nat):Int)-1=(i:Int)):=by unfold Hid;omega
   rw [HI.out];have HP0:=Lib.hid (pow_step0 a e m i);have HP1:=Lib.hid (pow_step1 a e m i);have hlm:=Nat.mod_lt (a^(e / 2^(i+1))) H0.out;have HX:=Lib.hid (Nat.lt_trans hlm HM1.out);generalize a^(e / 2^(i+1))%m=x at HP0 HP1 hlm HX;have HX2:=Lib.hid (Nat.lt_trans (Nat.mod_lt (x*x) H0.out) HM1.out);clear hlm;cases hbit:bitB e i
   ·have HR:=Lib.hid (HP0.out hbit);go_wp2_with fail
    refine (rtimes3_c x x m _ HX.out HX.out HM.out H0.out).mono ?_;rintro e w3 ⟨rfl,hb3⟩;go_wp2_with fail
    refine (rBit_c e i _ HE.out (by omega)).mono ?_;rintro e w' ⟨rfl,rfl⟩;rw [hbit];clear hbit;go_wp2;go_roundw
    case rel=>exact ⟨i,by omega,rfl,vE HR.out,bt hbel hb3⟩
    case measure=>simp [intOf] <;> omega
   ·have HR:=Lib.hid (HP1.out hbit);go_wp2_with fail
    refine (rtimes3_c x x m _ HX.out HX.out HM.out H0.out).mono ?_;rintro e w3 ⟨rfl,hb3⟩;go_wp2_with fail
    refine (rBit_c e i _ HE.out (by omega)).mono ?_;rintro e w' ⟨rfl,rfl⟩;rw [hbit];clear hbit;go_wp2_with fail
    refine (rtimes3_c (x*x%m) a m _ HX2.out HA.out HM.out H0.out).mono ?_;rintro e w4 ⟨rfl,hb4⟩;go_wp2;go_roundw
    case rel=>exact ⟨i,by omega,rfl,vE (by rw [←HR.out,Nat.mod_mul_mod]),bt (bt hbel hb3) hb4⟩
    case measure=>simp [intOf] <;> omega
  ·obtain rfl:j=0:=by omega
   go_wp2;go_ret
   exact ⟨rE (by rw [Nat.pow_zero,Nat.div_one]),hbel⟩
theorem rexp3_c (a e m:Nat) (w:World) (ha:a<256^128) (he:e<256^128) (hm:m<256^64) (h0:0<m) :
  Calls Tryz.prog 204 #[.string (E a),.string (E e),.string (E m)] w fun r w'=>r=.returned (.tuple #[.string (E (a^e%m)),.int .i64 0])∧Below w.heap.size w w':=by
 have HC:=Lib.hid (rcheck_c w.heap.size [a,e] m 22 (w.alloc (.cells #[.string (E a),.string (E e),.string (E m)] 22)) (by simp) (by simp [ha,he]) (lt64 hm) (Blk.new _ _ _) h0);have HA:=Lib.hid ha;have HE:=Lib.hid he;have HM:=Lib.hid hm;have H0:=Lib.hid h0;clear ha he hm h0;go_enter Tryz.func204,Tryz.ntmps204
 go_wp2_with fail
 refine (HC.out).mono ?_;rintro e w' ⟨rfl,rfl⟩;go_wp2_with fail
 refine (rraise_c a e m _ HA.out HE.out HM.out H0.out).mono ?_;rintro e w1 ⟨rfl,hb1⟩;go_wp2;go_ret2
 exact ⟨rfl,bt (b1 _ _) hb1⟩
theorem invR_one (a m:Nat) (h:Nat.gcd a m=1):invR a m=invN a m:=by
 unfold invR invN;rw [h,Nat.div_one]
theorem rimodN_c (v m:Nat) (w:World) (hv:v<256^128) (hm:m<256^128) (h0:0<m) :
  Calls Tryz.prog 225 #[.agg #[.bool (sg (v:Int)),.string (E v)],.string (E m)] w fun e w'=>e=.returned (.tuple #[.string (E (v%m)),.int .i64 0])∧Below w.heap.size w w':=by
 have:=rimod_c (v:Int) m w (by simpa using hv) hm h0;rw [Int.natAbs_natCast,←Int.natCast_emod,Int.toNat_natCast] at this;exact this
theorem rinv3_c (a m:Nat) (w:World) (ha:a<256^128) (hm:m<256^32) (h0:0<m) (hg:Nat.gcd a m=1) :
  Calls Tryz.prog 205 #[.string (E a),.string (E m)] w fun r w'=>r=.returned (.tuple #[.string (E (invN (a%m) m)),.int .i64 0])∧Below w.heap.size w w':=by
 have hm64:m<256^64:=Nat.lt_of_lt_of_le hm (Nat.pow_le_pow_right (by decide) (by decide));have HC:=Lib.hid (rcheck_c w.heap.size [a] m 22 (w.alloc (.cells #[.string (E a),.string (E m)] 22)) (by simp) (by simp [ha]) (lt64 hm64) (Blk.new _ _ _) h0);have hla:=Nat.mod_lt a h0;have hg2:Nat.gcd (a%m) m=1:=by rw [←hg,Nat.gcd_comm a m,Nat.gcd_rec m a]
 have HR1:=Lib.hid (invR_one (a%m) m hg2);have hil:=invN_lt (a%m) m h0;have HIM:=Lib.hid (Nat.mod_eq_of_lt hil);have HA:=Lib.hid ha;have HM:=Lib.hid (lt64 hm64);have HM32:=Lib.hid hm;have HA32:=Lib.hid (Nat.lt_trans hla hm);have H0:=Lib.hid h0;have HG:=Lib.hid hg2;have HIB:=Lib.hid (Nat.lt_trans hil HM.out);have HO:=Lib.hid (show ∀w:World,Calls Tryz.prog 30 #[.int .u64 1] w fun e w'=>e=.returned (.string (E 1))∧Below w.heap.size w w' from fun w=>rof_c 1 w (by decide));have heq:=eqE (a:=1) (b:=1) rfl;clear ha hm h0 hm64 hla hg hg2 hil;go_enter Tryz.func205,Tryz.ntmps205
 go_wp2_with fail
 refine (HC.out).mono ?_;rintro e w' ⟨rfl,rfl⟩;go_wp2_with fail
 refine (rmod3_c a m _ HA.out HM.out H0.out).mono ?_;rintro e w1 ⟨rfl,hb1⟩;go_wp2_with fail
 refine (rext_c (a%m) m _ HA32.out HM32.out H0.out).mono ?_;rintro e w2 ⟨rfl,hb2⟩;rw [HG.out,HR1.out];generalize hvv:invN (a%m) m=v at HIM HIB;have HVV:=Lib.hid hvv;clear hvv;generalize extY (a%m) m=y;have hX:=blk2a w2 #[Value.bool (sg (v:Int)),Value.string (E v)] #[Value.bool (sg y),Value.string (E y.natAbs)] 72 72;go_wp2_with fail
 refine (HO.out _).mono ?_;rintro e w3 ⟨rfl,hb3⟩;replace hX:=hX.after hb3;obtain ⟨hXc0,hXf0,hXc1,hXf1⟩:=hX.x2;go_wp2_with fail
 refine (rimodN_c v m _ HIB.out HM.out H0.out).mono ?_;rintro e w4 ⟨rfl,hb4⟩;rw [HIM.out];go_wp2;go_ret2
 exact ⟨r2 (vE HVV.out.symm) rfl,bt (bt (ba (ba (bt (bt (b1 _ _) hb1) hb2) _) _) hb3) hb4⟩
def powI (a:Nat) (z:Int) (m:Nat):Nat:=if z<0 then invN (a%m) m^z.natAbs%m else a^z.natAbs%m
theorem rpow3_c (a:Nat) (z:Int) (m:Nat) (w:World) (ha:a<256^128) (hz:z.natAbs<256^128) (hm:m<256^32) (h0:0<m) (hg:z<0→Nat.gcd a m=1) :
  Calls Tryz.prog 163 #[.string (E a),.agg #[.bool (sg (z)),.string (E (z).natAbs)],.string (E m)] w fun r w'=>r=.returned (.tuple #[.string (E (powI a z m)),.int .i64 0])∧Below w.heap.size w w':=by
 have hm64:m<256^64:=Nat.lt_of_lt_of_le hm (Nat.pow_le_pow_right (by decide) (by decide));have HA:=Lib.hid ha;have HZ:=Lib.hid hz;have HM:=Lib.hid (lt64 hm64);have HM64:=Lib.hid hm64;have HM32:=Lib.hid hm;have H0:=Lib.hid h0;have hz0:=nzE h0;have hX:=Blk.new w #[Value.bool (sg z),Value.string (E z.natAbs)] 72;have HIV:=Lib.hid (rivalidI_c z (w.alloc (.cells #[Value.bool (sg z),Value.string (E z.natAbs)] 72)) hz);by_cases hn:z<0
 ·have HP:Hid (powI a z m=invN (a%m) m^z.natAbs%m):=by rw [Hid,powI,if_pos hn]
  have HG:=Lib.hid (hg hn);have HIL:=Lib.hid (Nat.lt_trans (invN_lt (a%m) m h0) HM.out);rw [sg_of_neg hn] at hX HIV ⊢;clear ha hz hm h0 hm64 hg hn;go_enter Tryz.func163,Tryz.ntmps163
  go_wp2_with fail
  refine (rvalidE_c a _ HA.out).mono ?_;rintro e w' ⟨rfl,rfl⟩;go_wp2_with fail
  refine (HIV.out).mono ?_;rintro e w1 ⟨rfl,hb1⟩;replace hX:=hX.after hb1;obtain ⟨hXc0,hXf0,hXc1,hXf1⟩:=hX.x2;go_wp2_with fail
  refine (rvalidE_c m _ HM.out).mono ?_;rintro e w' ⟨rfl,rfl⟩;go_wp2_with fail
  refine (rinv3_c a m _ HA.out HM32.out H0.out HG.out).mono ?_;rintro e w2 ⟨rfl,hb2⟩;clear hXc0 hXf0 hXc1 hXf1;replace hX:=hX.after hb2;obtain ⟨hXc0,hXf0,hXc1,hXf1⟩:=hX.x2;go_wp2_with fail
  refine (rraise_c (invN (a%m) m) z.natAbs m _ HIL.out HZ.out HM64.out H0.out).mono ?_;rintro e w3 ⟨rfl,hb3⟩;go_wp2;go_ret2
  exact ⟨r2 (vE HP.out.symm) rfl,bt (bt (bt (b1 _ _) hb1) hb2) hb3⟩
 ·have HP:Hid (powI a z m=a^z.natAbs%m):=by rw [Hid,powI,if_neg hn]
  rw [sg_of_nonneg (show 0≤z by omega)] at hX HIV ⊢;clear ha hz hm h0 hm64 hg hn;go_enter Tryz.func163,Tryz.ntmps163
  go_wp2_with fail
  refine (rvalidE_c a _ HA.out).mono ?_;rintro e w' ⟨rfl,rfl⟩;go_wp2_with fail
  refine (HIV.out).mono ?_;rintro e w1 ⟨rfl,hb1⟩;replace hX:=hX.after hb1;obtain ⟨hXc0,hXf0,hXc1,hXf1⟩:=hX.x2;go_wp2_with fail
  refine (rvalidE_c m _ HM.out).mono ?_;rintro e w' ⟨rfl,rfl⟩;go_wp2_with fail
  refine (rraise_c a z.natAbs m _ HA.out HZ.out HM64.out H0.out).mono ?_;rintro e w3 ⟨rfl,hb3⟩;go_wp2;go_ret2
  exact ⟨r2 (vE HP.out.symm) rfl,bt (bt (b1 _ _) hb1) hb3⟩
end Go.Proofs.YtcfjcenmcpankaaGreatDoor
