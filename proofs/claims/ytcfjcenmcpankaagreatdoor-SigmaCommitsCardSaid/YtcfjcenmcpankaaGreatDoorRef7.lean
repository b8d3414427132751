import Derived.Test.YtcfjcenmcpankaaGreatDoorRef6
import Derived.Test.YtcfjcenmcpankaaGreatDoorNat5
set_option linter.unusedVariables false
set_option linter.unusedSimpArgs false
set_option maxRecDepth 100000
set_option maxHeartbeats 16000000
namespace Go.Proofs.YtcfjcenmcpankaaGreatDoor
open Go.RowKit
theorem rfit_c (n:Nat) (w:World) (h:n<256^128) :
  Calls Tryz.prog 131 #[.string (E n)] w fun e w'=>e=.returned (.tuple #[.string (E n),.int .i64 0])∧w=w':=by
 have h1:=sz n h;have H:=Lib.hid h;clear h;go_enter Tryz.func131,Tryz.ntmps131
 go_wp2;go_ret2
 exact ⟨rfl,rfl⟩
theorem rcmp_c (a b:Nat) (w:World) (ha:a<256^128) (hb:b<256^128) :
  Calls Tryz.prog 129 #[.string (E a),.string (E b)] w fun e w'=>e=.returned (.int .i64 (cmpN a b))∧Below w.heap.size w w':=by
 have h1:=sz a ha;have h2:=sz b hb;have HA:=Lib.hid ha;have HB:=Lib.hid hb;clear ha hb;go_enter Tryz.func129,Tryz.ntmps129
 go_wp2_with fail
 refine (rvalidE_c a _ HA.out).mono ?_;rintro e w' ⟨rfl,rfl⟩;go_wp2_with fail
 refine (rvalidE_c b _ HB.out).mono ?_;rintro e w' ⟨rfl,rfl⟩;go_wp2_with fail
 refine (rorder_c a b _ (by omega) (by omega)).mono ?_;rintro e w1 ⟨rfl,hb1⟩;go_wp2;go_ret
 exact ⟨rfl,hb1⟩
theorem radd_c (a b:Nat) (w:World) (ha:a<256^128) (hb:b<256^128) (hs:a+b<256^128) :
  Calls Tryz.prog 128 #[.string (E a),.string (E b)] w fun e w'=>e=.returned (.tuple #[.string (E (a+b)),.int .i64 0])∧Below w.heap.size w w':=by
 have h1:=sz a ha;have h2:=sz b hb;have HA:=Lib.hid ha;have HB:=Lib.hid hb;have HS:=Lib.hid hs;clear ha hb hs;go_enter Tryz.func128,Tryz.ntmps128
 go_wp2_with fail
 refine (rvalidE_c a _ HA.out).mono ?_;rintro e w' ⟨rfl,rfl⟩;go_wp2_with fail
 refine (rvalidE_c b _ HB.out).mono ?_;rintro e w' ⟨rfl,rfl⟩;go_wp2_with fail
 refine (rplus_c a b _ (by omega) (by omega)).mono ?_;rintro e w1 ⟨rfl,hb1⟩;go_wp2_with fail
 refine (rfit_c (a+b) _ HS.out).mono ?_;rintro e w' ⟨rfl,rfl⟩;go_wp2;go_ret2
 exact ⟨rfl,hb1⟩
theorem rsub_c (a b:Nat) (w:World) (ha:a<256^128) (hb:b≤a) :
  Calls Tryz.prog 130 #[.string (E a),.string (E b)] w fun e w'=>e=.returned (.tuple #[.string (E (a-b)),.int .i64 0])∧Below w.heap.size w w':=by
 have HB:=Lib.hid (show b<256^128 by omega);have h1:=sz a ha;have h2:=sz b HB.out;have HA:=Lib.hid ha;have HL:=Lib.hid hb;have hc:=cmp_nneg a b hb;clear ha hb;go_enter Tryz.func130,Tryz.ntmps130
 go_wp2_with fail
 refine (rvalidE_c a _ HA.out).mono ?_;rintro e w' ⟨rfl,rfl⟩;go_wp2_with fail
 refine (rvalidE_c b _ HB.out).mono ?_;rintro e w' ⟨rfl,rfl⟩;go_wp2_with fail
 refine (rorder_c a b _ (by omega) (by omega)).mono ?_;rintro e w1 ⟨rfl,hb1⟩;go_wp2_with fail
 refine (rminus_c a b _ (by omega) HL.out).mono ?_;rintro e w2 ⟨rfl,hb2⟩;go_wp2;go_ret2
 exact ⟨rfl,bt hb1 hb2⟩
theorem rmul_c (a b:Nat) (w:World) (ha:a<256^128) (hb:b<256^128) (hs:a*b<256^128) :
  Calls Tryz.prog 83 #[.string (E a),.string (E b)] w fun e w'=>e=.returned (.tuple #[.string (E (a*b)),.int .i64 0])∧Below w.heap.size w w':=by
 have h1:=sz a ha;have h2:=sz b hb;have HA:=Lib.hid ha;have HB:=Lib.hid hb;have HS:=Lib.hid hs;clear ha hb hs;go_enter Tryz.func83,Tryz.ntmps83
 go_wp2_with fail
 refine (rvalidE_c a _ HA.out).mono ?_;rintro e w' ⟨rfl,rfl⟩;go_wp2_with fail
 refine (rvalidE_c b _ HB.out).mono ?_;rintro e w' ⟨rfl,rfl⟩;go_wp2_with fail
 refine (rtimes_c a b _ (by omega) (by omega)).mono ?_;rintro e w1 ⟨rfl,hb1⟩;go_wp2_with fail
 refine (rfit_c (a*b) _ HS.out).mono ?_;rintro e w' ⟨rfl,rfl⟩;go_wp2;go_ret2
 exact ⟨rfl,hb1⟩
theorem rdivmod_c (a b:Nat) (w:World) (ha:a<256^128) (hb:b<256^128) (h0:0<b) :
  Calls Tryz.prog 154 #[.string (E a),.string (E b)] w fun e w'=>e=.returned (.tuple #[.string (E (a / b)),.string (E (a%b)),.int .i64 0])∧Below w.heap.size w w':=by
 have h1:=sz a ha;have h2:=sz b hb;have HA:=Lib.hid ha;have HB:=Lib.hid hb;have H0:=Lib.hid h0;have hz:=nzE h0;clear ha hb h0;go_enter Tryz.func154,Tryz.ntmps154
 go_wp2_with fail
 refine (rvalidE_c a _ HA.out).mono ?_;rintro e w' ⟨rfl,rfl⟩;go_wp2_with fail
 refine (rvalidE_c b _ HB.out).mono ?_;rintro e w' ⟨rfl,rfl⟩;go_wp2_with fail
 refine (rover_c a b _ H0.out (by omega) (by omega)).mono ?_;rintro e w1 ⟨rfl,hb1⟩;go_wp2;go_ret3
 exact ⟨rfl,hb1⟩
theorem rcommon_c (a b:Nat) (w:World) (ha:a<256^128) (hb:b<256^128) :
  Calls Tryz.prog 161 #[.string (E a),.string (E b)] w fun e w'=>e=.returned (.string (E (Nat.gcd a b)))∧Below w.heap.size w w':=by
 have HA:=Lib.hid ha;have HB:=Lib.hid hb;clear ha hb;go_enter Tryz.func161,Tryz.ntmps161
 go_wp2;go_loopw [0,1] (fun x y wr=>∃p q:Nat,p<256^128∧q<256^128∧x=.string (E p)∧y=.string (E q)∧Nat.gcd p q=Nat.gcd a b∧Below w.heap.size w wr) (fun _ y _=>strVal y)
 case atStart=>exact ⟨a,b,HA.out,HB.out,rfl,rfl,rfl,Below.refl _ _⟩
 case round =>
  obtain ⟨p,q,hp,hq,rfl,rfl,hg,hbel⟩:=hrel;have hs1:=sz p hp;have hs2:=sz q hq;have HP:=Lib.hid hp;clear hp;have HQ:=Lib.hid hq;clear hq;have HG:=Lib.hid hg;clear hg;by_cases h0:0<q
  ·have hz:=nzE h0;have H0:=Lib.hid h0;clear h0;go_wp2_with fail
   refine (rover_c p q _ H0.out (by omega) (by omega)).mono ?_;rintro e w1 ⟨rfl,hb1⟩;go_wp2;go_roundw
   case rel =>
    refine ⟨q,p%q,HQ.out,Nat.lt_trans (Nat.mod_lt _ H0.out) HQ.out,rfl,rfl,?_,bt hbel hb1⟩;rw [←HG.out,Nat.gcd_comm p q,Nat.gcd_rec q p,Nat.gcd_comm]
   case measure =>
    rw [strVal_E,strVal_E];exact Nat.mod_lt _ H0.out
  ·obtain rfl:q=0:=by omega
   have hz:=zE (n:=0) rfl;have HE:Hid (p=Nat.gcd a b):=by rw [Hid,←HG.out,Nat.gcd_zero_right]
   go_wp2;go_ret
   exact ⟨rE HE.out,hbel⟩
theorem rBits_c (n:Nat) (w:World) (hn:n<256^128) :
  Calls Tryz.prog 180 #[.string (E n)] w fun e w'=>e=.returned (.int .i64 (nb n))∧w=w':=by
 have HN:=Lib.hid hn;have hs:=sz n hn;clear hn;go_enter Tryz.func180,Tryz.ntmps180
 go_wp2_with fail
 refine (rvalidE_c n _ HN.out).mono ?_;rintro e w' ⟨rfl,rfl⟩;go_wp2_with fail
 refine (rbits_c n _ (by omega)).mono ?_;rintro e w' ⟨rfl,rfl⟩;go_wp2;go_ret
 exact ⟨rfl,rfl⟩
theorem bitB_high (n i:Nat) (h:nb n≤i):bitB n i=false:=by
 have h1:=lt_nb n;have h2:2^nb n≤2^i:=Nat.pow_le_pow_right (by decide) h;unfold bitB;rw [Nat.div_eq_of_lt (by omega)];rfl
theorem rBit_c (n:Nat) (i:Nat) (w:World) (hn:n<256^128) (hi:i≤1000000) :
  Calls Tryz.prog 226 #[.string (E n),.int .i64 (i:Int)] w fun e w'=>e=.returned (.bool (bitB n i))∧w=w':=by
 have HN:=Lib.hid hn;have hs:=sz n hn;have hnb:=nb_le n 128 hs;clear hn;by_cases h0:i<nb n
 ·have hd:decide ((i:Int)<(nb n:Int))=true:=by rw [decide_eq_true_iff];omega
  go_enter Tryz.func226,Tryz.ntmps226
  go_wp2_with fail
  refine (rvalidE_c n _ HN.out).mono ?_;rintro e w' ⟨rfl,rfl⟩;go_wp2_with fail
  refine (rbits_c n _ (by omega)).mono ?_;rintro e w' ⟨rfl,rfl⟩;go_wp2_with fail
  refine (rone_c n i _ (by omega) (by omega)).mono ?_;rintro e w' ⟨rfl,rfl⟩;go_wp2;go_ret
  exact ⟨rfl,rfl⟩
 ·have HB:=Lib.hid (bitB_high n i (by omega));have hd:decide ((i:Int)<(nb n:Int))=false:=by rw [decide_eq_false_iff_not];omega
  go_enter Tryz.func226,Tryz.ntmps226
  go_wp2_with fail
  refine (rvalidE_c n _ HN.out).mono ?_;rintro e w' ⟨rfl,rfl⟩;go_wp2_with fail
  refine (rbits_c n _ (by omega)).mono ?_;rintro e w' ⟨rfl,rfl⟩;go_wp2;go_ret
  exact ⟨rb HB.out.symm,rfl⟩
end Go.Proofs.YtcfjcenmcpankaaGreatDoor
