import Derived.Test.YtcfjcenmcpankaaGreatDoorRef7
import Derived.Test.YtcfjcenmcpankaaGreatDoorInt1
set_option linter.unusedVariables false
set_option linter.unusedSimpArgs false
set_option maxRecDepth 100000
set_option maxHeartbeats 16000000
namespace Go.Proofs.YtcfjcenmcpankaaGreatDoor
open Go.RowKit
def strs (l:List Nat):List Value:=l.map fun n=>Value.string (E n)
theorem strs_cell {w:World} {g:Nat} {T:TypeId} {l:List Nat} (h:Blk w g T (strs l)) (j:Nat) (hj:j<l.length):w.cell? ⟨g,j,none⟩=some (.string (E l[j])):=by
 rw [h.cell];simp [strs,hj]
theorem rcheck_c (b:Nat) (l:List Nat) (x:Nat) (T:TypeId) (w:World) (hl:l.length≤1000) (hv:∀n∈l,n<256^128) (hx:x<256^128) (hB:Blk w b T (strs (l++[x]))) (h0:0<x) :
  Calls Tryz.prog 164 #[.slice (some ⟨b,0,none⟩) (l.length+1) (l.length+1)] w fun e w'=>e=.returned (.int .i64 0)∧w=w':=by
 have HV:Hid (∀n∈l++[x],n<256^128):=by
  intro n hn;rcases List.mem_append.1 hn with h | h
  ·exact hv n h
  ·rw [List.mem_singleton] at h;rw [h];exact hx
 have hlast:=strs_cell hB l.length (by simp);rw [List.getElem_concat_length (by rfl)] at hlast;have hz:=nzE h0;clear hv hx h0;go_enter Tryz.func164,Tryz.ntmps164
 go_wp2;go_loop [3] (fun i=>∃k:Nat,k≤l.length+1∧i=.int .i64 k) (fun i=>l.length+1-(intOf i).toNat)
 case atStart=>exact ⟨0,by omega,rfl⟩
 case round =>
  obtain ⟨k,hk,rfl⟩:=hrel;by_cases hlt:k<l.length+1
  ·have hkl:k<(l++[x]).length:=by simp;omega
   have hc:=strs_cell hB k hkl;have HN:=Lib.hid (HV.out _ (List.getElem_mem hkl));generalize (l++[x])[k]=n at hc HN;go_wp2_with fail
   refine (rvalidE_c n _ HN.out).mono ?_;rintro e w' ⟨rfl,rfl⟩;go_wp2;go_round
   case rel=>exact ⟨k+1,by omega,by go_num⟩
   case measure=>simp [intOf];omega
  ·obtain rfl:k=l.length+1:=by omega
   go_wp2;go_ret
   exact ⟨rfl,rfl⟩
theorem rmod3_c (a m:Nat) (w:World) (ha:a<256^128) (hm:m<256^128) (h0:0<m) :
  Calls Tryz.prog 107 #[.string (E a),.string (E m)] w fun e w'=>e=.returned (.string (E (a%m)))∧Below w.heap.size w w':=by
 have HA:=Lib.hid ha;have HM:=Lib.hid hm;have H0:=Lib.hid h0;clear ha hm h0;go_enter Tryz.func107,Tryz.ntmps107
 go_wp2_with fail
 refine (rdivmod_c a m _ HA.out HM.out H0.out).mono ?_;rintro e w1 ⟨rfl,hb1⟩;go_wp2;go_ret
 exact ⟨rfl,hb1⟩
theorem lt64 {n:Nat} (h:n<256^64):n<256^128:=Nat.lt_of_lt_of_le h (Nat.pow_le_pow_right (by decide) (by decide))
theorem mul_fit {a b m:Nat} (hm:m<256^64) (ha:a<m) (hb:b<m):a*b<256^128:=by
 have:(256:Nat)^128=256^64*256^64:=by rw [←Nat.pow_add]
 rw [this];exact Nat.mul_lt_mul'' (by omega) (by omega)
theorem rmod3v_c (a m y:Nat) (w:World) (ha:a<256^128) (hm:m<256^128) (h0:0<m) (hy:a%m=y) :
  Calls Tryz.prog 107 #[.string (E a),.string (E m)] w fun e w'=>e=.returned (.string (E y))∧Below w.heap.size w w':=by
 rw [←hy];exact rmod3_c a m w ha hm h0
theorem rofMM_c (y z m:Nat) (w:World) (h:y*z<256^8) (hm:y*z%m<256^8) :
  Calls Tryz.prog 30 #[.int .u64 ((IntKind.u64.wrap ((y:Int)*(z:Int))).tmod (m:Int))] w fun e w'=>e=.returned (.string (E (y*z%m)))∧Below w.heap.size w w':=by
 rw [←Int.natCast_mul,wrapU _ h,←Int.ofNat_tmod];exact rof_c _ w hm
theorem rtimes3_small (a b m y z:Nat) (w:World) (ha:a<256^128) (hb:b<256^128) (h0:0<m) (hs:m<2147483648) (hy:a%m=y) (hz:b%m=z) :
  Calls Tryz.prog 165 #[.string (E a),.string (E b),.string (E m)] w fun e w'=>e=.returned (.string (E (y*z%m)))∧Below w.heap.size w w':=by
 have hla:y<m:=by rw [←hy];exact Nat.mod_lt a h0
 have hlb:z<m:=by rw [←hz];exact Nat.mod_lt b h0
 have HA:=Lib.hid ha;have HB:=Lib.hid hb;have hm8:m<256^8:=Nat.lt_trans hs (by decide);have HM:=Lib.hid (lt128 hm8);have H0:=Lib.hid h0;have HM8:=Lib.hid hm8;have HA8:=Lib.hid (Nat.lt_trans hla hm8);have HB8:=Lib.hid (Nat.lt_trans hlb hm8);have hprod:y*z<256^8:=Nat.lt_of_lt_of_le (Nat.mul_lt_mul'' (Nat.lt_trans hla hs) (Nat.lt_trans hlb hs)) (by decide);have HPR:=Lib.hid hprod;have HPM:=Lib.hid (Nat.lt_of_le_of_lt (Nat.mod_le _ m) hprod);have HYY:=Lib.hid hy;have HZZ:=Lib.hid hz;have hdec:decide ((m:Int)<2147483648)=true:=by rw [decide_eq_true_iff];omega
 have hzb:((m:Int)==0)=false:=by rw [beq_eq_false_iff_ne];omega
 clear ha hb hla hlb hm8 hprod hs hy hz;go_enter Tryz.func165,Tryz.ntmps165
 go_wp2_with fail
 refine (rsmall_c m _ HM8.out).mono ?_;rintro e w' ⟨rfl,rfl⟩;go_wp2_with fail
 refine (rmod3v_c a m y _ HA.out HM.out H0.out HYY.out).mono ?_;rintro e w1 ⟨rfl,hb1⟩;clear hdec;go_wp2_with fail
 refine (rsmall_c y _ HA8.out).mono ?_;rintro e w' ⟨rfl,rfl⟩;go_wp2_with fail
 refine (rmod3v_c b m z _ HB.out HM.out H0.out HZZ.out).mono ?_;rintro e w2 ⟨rfl,hb2⟩;go_wp2_with fail
 refine (rsmall_c z _ HB8.out).mono ?_;rintro e w' ⟨rfl,rfl⟩;go_wp2_with fail
 refine (rofMM_c y z m _ HPR.out HPM.out).mono ?_;rintro e w3 ⟨rfl,hb3⟩;go_wp2;go_ret
 exact ⟨rfl,bt (bt hb1 hb2) hb3⟩
theorem rtimes3_mid (a b m y z:Nat) (w:World) (ha:a<256^128) (hb:b<256^128) (h0:0<m) (hs:¬ m<2147483648) (hm8:m<256^8) (hy:a%m=y) (hz:b%m=z) :
  Calls Tryz.prog 165 #[.string (E a),.string (E b),.string (E m)] w fun e w'=>e=.returned (.string (E (y*z%m)))∧Below w.heap.size w w':=by
 have hla:y<m:=by rw [←hy];exact Nat.mod_lt a h0
 have hlb:z<m:=by rw [←hz];exact Nat.mod_lt b h0
 have HA:=Lib.hid ha;have HB:=Lib.hid hb;have HM:=Lib.hid (lt128 hm8);have H0:=Lib.hid h0;have HM8:=Lib.hid hm8;have hm64:m<256^64:=Nat.lt_of_lt_of_le hm8 (Nat.pow_le_pow_right (by decide) (by decide));have HYB:=Lib.hid (Nat.lt_trans hla HM.out);have HZB:=Lib.hid (Nat.lt_trans hlb HM.out);have HPR:=Lib.hid (mul_fit hm64 hla hlb);have HYY:=Lib.hid hy;have HZZ:=Lib.hid hz;have hdec:decide ((m:Int)<2147483648)=false:=by rw [decide_eq_false_iff_not];omega
 clear ha hb h0 hla hlb hm8 hm64 hs hy hz;go_enter Tryz.func165,Tryz.ntmps165
 go_wp2_with fail
 refine (rsmall_c m _ HM8.out).mono ?_;rintro e w' ⟨rfl,rfl⟩;go_wp2_with fail
 refine (rmod3v_c a m y _ HA.out HM.out H0.out HYY.out).mono ?_;rintro e w1 ⟨rfl,hb1⟩;clear hdec;go_wp2_with fail
 refine (rmod3v_c b m z _ HB.out HM.out H0.out HZZ.out).mono ?_;rintro e w2 ⟨rfl,hb2⟩;go_wp2_with fail
 refine (rmul_c y z _ HYB.out HZB.out HPR.out).mono ?_;rintro e w3 ⟨rfl,hb3⟩;go_wp2_with fail
 refine (rmod3_c (y*z) m _ HPR.out HM.out H0.out).mono ?_;rintro e w4 ⟨rfl,hb4⟩;go_wp2;go_ret
 exact ⟨rfl,bt (bt (bt hb1 hb2) hb3) hb4⟩
theorem rtimes3_big (a b m y z:Nat) (w:World) (ha:a<256^128) (hb:b<256^128) (h0:0<m) (hm8:256^8≤m) (hm64:m<256^64) (hy:a%m=y) (hz:b%m=z) :
  Calls Tryz.prog 165 #[.string (E a),.string (E b),.string (E m)] w fun e w'=>e=.returned (.string (E (y*z%m)))∧Below w.heap.size w w':=by
 have hla:y<m:=by rw [←hy];exact Nat.mod_lt a h0
 have hlb:z<m:=by rw [←hz];exact Nat.mod_lt b h0
 have HA:=Lib.hid ha;have HB:=Lib.hid hb;have HM:=Lib.hid (lt64 hm64);have hsz:=sz m HM.out;have H0:=Lib.hid h0;have HM8:=Lib.hid hm8;have HYB:=Lib.hid (Nat.lt_trans hla HM.out);have HZB:=Lib.hid (Nat.lt_trans hlb HM.out);have HPR:=Lib.hid (mul_fit hm64 hla hlb);have HYY:=Lib.hid hy;have HZZ:=Lib.hid hz;clear ha hb h0 hla hlb hm8 hm64 hy hz;go_enter Tryz.func165,Tryz.ntmps165
 go_wp2_with fail
 refine (rsmall_no m _ HM8.out (by omega)).mono ?_;rintro e w' ⟨rfl,rfl⟩;go_wp2_with fail
 refine (rmod3v_c a m y _ HA.out HM.out H0.out HYY.out).mono ?_;rintro e w1 ⟨rfl,hb1⟩;go_wp2_with fail
 refine (rmod3v_c b m z _ HB.out HM.out H0.out HZZ.out).mono ?_;rintro e w2 ⟨rfl,hb2⟩;go_wp2_with fail
 refine (rmul_c y z _ HYB.out HZB.out HPR.out).mono ?_;rintro e w3 ⟨rfl,hb3⟩;go_wp2_with fail
 refine (rmod3_c (y*z) m _ HPR.out HM.out H0.out).mono ?_;rintro e w4 ⟨rfl,hb4⟩;go_wp2;go_ret
 exact ⟨rfl,bt (bt (bt hb1 hb2) hb3) hb4⟩
theorem rtimes3_c (a b m:Nat) (w:World) (ha:a<256^128) (hb:b<256^128) (hm:m<256^64) (h0:0<m) :
  Calls Tryz.prog 165 #[.string (E a),.string (E b),.string (E m)] w fun e w'=>e=.returned (.string (E (a*b%m)))∧Below w.heap.size w w':=by
 rw [Nat.mul_mod];by_cases hs:m<2147483648
 ·exact rtimes3_small a b m _ _ w ha hb h0 hs rfl rfl
 ·rcases Nat.lt_or_ge m (256^8) with h8 | h8
  ·exact rtimes3_mid a b m _ _ w ha hb h0 hs h8 rfl rfl
  ·exact rtimes3_big a b m _ _ w ha hb h0 h8 hm rfl rfl
theorem rmul3_c (a b m:Nat) (w:World) (ha:a<256^128) (hb:b<256^128) (hm:m<256^64) (h0:0<m) :
  Calls Tryz.prog 119 #[.string (E a),.string (E b),.string (E m)] w fun e w'=>e=.returned (.tuple #[.string (E (a*b%m)),.int .i64 0])∧Below w.heap.size w w':=by
 have HC:=Lib.hid (rcheck_c w.heap.size [a,b] m 22 (w.alloc (.cells #[.string (E a),.string (E b),.string (E m)] 22)) (by simp) (by simp [ha,hb]) (lt64 hm) (Blk.new _ _ _) h0);have HA:=Lib.hid ha;have HB:=Lib.hid hb;have HM:=Lib.hid hm;have H0:=Lib.hid h0;clear ha hb hm h0;go_enter Tryz.func119,Tryz.ntmps119
 go_wp2_with fail
 refine (HC.out).mono ?_;rintro e w' ⟨rfl,rfl⟩;go_wp2_with fail
 refine (rtimes3_c a b m _ HA.out HB.out HM.out H0.out).mono ?_;rintro e w1 ⟨rfl,hb1⟩;go_wp2;go_ret2
 exact ⟨rfl,bt (b1 _ _) hb1⟩
end Go.Proofs.YtcfjcenmcpankaaGreatDoor
