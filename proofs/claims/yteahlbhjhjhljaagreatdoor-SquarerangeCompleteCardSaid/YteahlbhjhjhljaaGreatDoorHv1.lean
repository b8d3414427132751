import Derived.Test.YteahlbhjhjhljaaGreatDoorRef6
import Derived.Test.YteahlbhjhjhljaaGreatDoorInt4
import Derived.Deep.DrawnRows
import Derived.Test.YteahlbhjhjhljaaGreatDoorRegion
import Derived.Deep.RegionLaw
import Derived.Laws.OwnMore
set_option linter.unusedVariables false
set_option linter.unusedSimpArgs false
set_option maxRecDepth 100000
set_option maxHeartbeats 16000000
namespace Go.Proofs.YteahlbhjhjhljaaGreatDoor
section
open Go.RowKit
theorem rfit_c (n:Nat) (w:World) (h:n<256^128) :
  Calls Tryz.prog 184 #[.string (E n)] w fun e w'=>e=.returned (.tuple #[.string (E n),.int .i64 0])∧w=w':=by
 have h1:=sz n h;have H:=Lib.hid h;clear h;go_enter Tryz.func184,Tryz.ntmps184
 go_wp2;go_ret2
 exact ⟨rfl,rfl⟩
theorem rcmp_c (a b:Nat) (w:World) (ha:a<256^128) (hb:b<256^128) :
  Calls Tryz.prog 18 #[.string (E a),.string (E b)] w fun e w'=>e=.returned (.int .i64 (cmpN a b))∧Below w.heap.size w w':=by
 have h1:=sz a ha;have h2:=sz b hb;have HA:=Lib.hid ha;have HB:=Lib.hid hb;clear ha hb;go_enter Tryz.func18,Tryz.ntmps18
 go_wp2_with fail
 refine (rvalidE_c a _ HA.out).mono ?_;rintro e w' ⟨rfl,rfl⟩;go_wp2_with fail
 refine (rvalidE_c b _ HB.out).mono ?_;rintro e w' ⟨rfl,rfl⟩;go_wp2_with fail
 refine (rorder_c a b _ (by omega) (by omega)).mono ?_;rintro e w1 ⟨rfl,hb1⟩;go_wp2;go_ret
 exact ⟨rfl,hb1⟩
theorem radd_c (a b:Nat) (w:World) (ha:a<256^128) (hb:b<256^128) (hs:a+b<256^128) :
  Calls Tryz.prog 122 #[.string (E a),.string (E b)] w fun e w'=>e=.returned (.tuple #[.string (E (a+b)),.int .i64 0])∧Below w.heap.size w w':=by
 have h1:=sz a ha;have h2:=sz b hb;have HA:=Lib.hid ha;have HB:=Lib.hid hb;have HS:=Lib.hid hs;clear ha hb hs;go_enter Tryz.func122,Tryz.ntmps122
 go_wp2_with fail
 refine (rvalidE_c a _ HA.out).mono ?_;rintro e w' ⟨rfl,rfl⟩;go_wp2_with fail
 refine (rvalidE_c b _ HB.out).mono ?_;rintro e w' ⟨rfl,rfl⟩;go_wp2_with fail
 refine (rplus_c a b _ (by omega) (by omega)).mono ?_;rintro e w1 ⟨rfl,hb1⟩;go_wp2_with fail
 refine (rfit_c (a+b) _ HS.out).mono ?_;rintro e w' ⟨rfl,rfl⟩;go_wp2;go_ret2
 exact ⟨rfl,hb1⟩
theorem rsub_c (a b:Nat) (w:World) (ha:a<256^128) (hb:b≤a) :
  Calls Tryz.prog 123 #[.string (E a),.string (E b)] w fun e w'=>e=.returned (.tuple #[.string (E (a-b)),.int .i64 0])∧Below w.heap.size w w':=by
 have HB:=Lib.hid (show b<256^128 by omega);have h1:=sz a ha;have h2:=sz b HB.out;have HA:=Lib.hid ha;have HL:=Lib.hid hb;have hc:=cmp_nneg a b hb;clear ha hb;go_enter Tryz.func123,Tryz.ntmps123
 go_wp2_with fail
 refine (rvalidE_c a _ HA.out).mono ?_;rintro e w' ⟨rfl,rfl⟩;go_wp2_with fail
 refine (rvalidE_c b _ HB.out).mono ?_;rintro e w' ⟨rfl,rfl⟩;go_wp2_with fail
 refine (rorder_c a b _ (by omega) (by omega)).mono ?_;rintro e w1 ⟨rfl,hb1⟩;go_wp2_with fail
 refine (rminus_c a b _ (by omega) HL.out).mono ?_;rintro e w2 ⟨rfl,hb2⟩;go_wp2;go_ret2
 exact ⟨rfl,bt hb1 hb2⟩
theorem rmul_c (a b:Nat) (w:World) (ha:a<256^128) (hb:b<256^128) (hs:a*b<256^128) :
  Calls Tryz.prog 183 #[.string (E a),.string (E b)] w fun e w'=>e=.returned (.tuple #[.string (E (a*b)),.int .i64 0])∧Below w.heap.size w w':=by
 have h1:=sz a ha;have h2:=sz b hb;have HA:=Lib.hid ha;have HB:=Lib.hid hb;have HS:=Lib.hid hs;clear ha hb hs;go_enter Tryz.func183,Tryz.ntmps183
 go_wp2_with fail
 refine (rvalidE_c a _ HA.out).mono ?_;rintro e w' ⟨rfl,rfl⟩;go_wp2_with fail
 refine (rvalidE_c b _ HB.out).mono ?_;rintro e w' ⟨rfl,rfl⟩;go_wp2_with fail
 refine (rtimes_c a b _ (by omega) (by omega)).mono ?_;rintro e w1 ⟨rfl,hb1⟩;go_wp2_with fail
 refine (rfit_c (a*b) _ HS.out).mono ?_;rintro e w' ⟨rfl,rfl⟩;go_wp2;go_ret2
 exact ⟨rfl,hb1⟩
theorem rdivmod_c (a b:Nat) (w:World) (ha:a<256^128) (hb:b<256^128) (h0:0<b) :
  Calls Tryz.prog 161 #[.string (E a),.string (E b)] w fun e w'=>e=.returned (.tuple #[.string (E (a / b)),.string (E (a%b)),.int .i64 0])∧Below w.heap.size w w':=by
 have h1:=sz a ha;have h2:=sz b hb;have HA:=Lib.hid ha;have HB:=Lib.hid hb;have H0:=Lib.hid h0;have hz:=nzE h0;clear ha hb h0;go_enter Tryz.func161,Tryz.ntmps161
 go_wp2_with fail
 refine (rvalidE_c a _ HA.out).mono ?_;rintro e w' ⟨rfl,rfl⟩;go_wp2_with fail
 refine (rvalidE_c b _ HB.out).mono ?_;rintro e w' ⟨rfl,rfl⟩;go_wp2_with fail
 refine (rover_c a b _ H0.out (by omega) (by omega)).mono ?_;rintro e w1 ⟨rfl,hb1⟩;go_wp2;go_ret3
 exact ⟨rfl,hb1⟩
theorem rcommon_c (a b:Nat) (w:World) (ha:a<256^128) (hb:b<256^128) :
  Calls Tryz.prog 127 #[.string (E a),.string (E b)] w fun e w'=>e=.returned (.string (E (Nat.gcd a b)))∧Below w.heap.size w w':=by
 have HA:=Lib.hid ha;have HB:=Lib.hid hb;clear ha hb;go_enter Tryz.func127,Tryz.ntmps127
 go_wp2;go_loopw [0,1] (fun x y wr=>∃p q:Nat,p<256^128∧q<256^128∧x=.string (E p)∧y=.string (E q)∧Nat.gcd p q=Nat.gcd a b∧Below w.heap.size w wr) (fun _ y _=>strVal y)
 case atStart=>exact ⟨a,b,HA.out,HB.out,rfl,rfl,rfl,Below.refl _ _⟩
 case round =>
  obtain ⟨p,q,hp,hq,rfl,rfl,hg,hbel⟩:=hrel;have hs1:=sz p hp;have hs2:=sz q hq;have HP:=Lib.hid hp;clear hp;have HQ:=Lib.hid hq;clear hq;have HG:=Lib.hid hg;clear hg;by_cases h0:0<q
  ·have hz:=nzE h0;have H0:=Lib.hid h0;clear h0;go_wp2_with fail
   refine (rover_c p q _ H0.out (by omega) (by omega)).mono ?_;rintro e w1 ⟨rfl,hb1⟩;go_wp2;go_roundw
   case rel =>
    refine ⟨q,p%q,HQ.out,Nat.lt_trans (Nat.mod_lt _ H0.out) HQ.out,rfl,rfl,?_,bt hbel hb1⟩;rw [←HG.out,Nat.gcd_comm p q,Nat.gcd_rec q p,Nat.gcd_comm]
   case measure =>
    rw [strVal_E,strVal_E];exact Nat.mod_lt _ H0.out
  ·obtain rfl:q=0:=by omega
   have hz:=zE (n:=0) rfl;have HE:Hid (p=Nat.gcd a b):=by rw [Hid,←HG.out,Nat.gcd_zero_right]
   go_wp2;go_ret
   exact ⟨rE HE.out,hbel⟩
theorem rBits_c (n:Nat) (w:World) (hn:n<256^128) :
  Calls Tryz.prog 229 #[.string (E n)] w fun e w'=>e=.returned (.int .i64 (nb n))∧w=w':=by
 have HN:=Lib.hid hn;have hs:=sz n hn;clear hn;go_enter Tryz.func229,Tryz.ntmps229
 go_wp2_with fail
 refine (rvalidE_c n _ HN.out).mono ?_;rintro e w' ⟨rfl,rfl⟩;go_wp2_with fail
 refine (rbits_c n _ (by omega)).mono ?_;rintro e w' ⟨rfl,rfl⟩;go_wp2;go_ret
 exact ⟨rfl,rfl⟩
theorem bitB_high (n i:Nat) (h:nb n≤i):bitB n i=false:=by
 have h1:=lt_nb n;have h2:2^nb n≤2^i:=Nat.pow_le_pow_right (by decide) h;unfold bitB;rw [Nat.div_eq_of_lt (by omega)];rfl
theorem rBit_c (n:Nat) (i:Nat) (w:World) (hn:n<256^128) (hi:i≤1000000) :
  Calls Tryz.prog 230 #[.string (E n),.int .i64 (i:Int)] w fun e w'=>e=.returned (.bool (bitB n i))∧w=w':=by
 have HN:=Lib.hid hn;have hs:=sz n hn;have hnb:=nb_le n 128 hs;clear hn;by_cases h0:i<nb n
 ·have hd:decide ((i:Int)<(nb n:Int))=true:=by rw [decide_eq_true_iff];omega
  go_enter Tryz.func230,Tryz.ntmps230
  go_wp2_with fail
  refine (rvalidE_c n _ HN.out).mono ?_;rintro e w' ⟨rfl,rfl⟩;go_wp2_with fail
  refine (rbits_c n _ (by omega)).mono ?_;rintro e w' ⟨rfl,rfl⟩;go_wp2_with fail
  refine (rone_c n i _ (by omega) (by omega)).mono ?_;rintro e w' ⟨rfl,rfl⟩;go_wp2;go_ret
  exact ⟨rfl,rfl⟩
 ·have HB:=Lib.hid (bitB_high n i (by omega));have hd:decide ((i:Int)<(nb n:Int))=false:=by rw [decide_eq_false_iff_not];omega
  go_enter Tryz.func230,Tryz.ntmps230
  go_wp2_with fail
  refine (rvalidE_c n _ HN.out).mono ?_;rintro e w' ⟨rfl,rfl⟩;go_wp2_with fail
  refine (rbits_c n _ (by omega)).mono ?_;rintro e w' ⟨rfl,rfl⟩;go_wp2;go_ret
  exact ⟨rb HB.out.symm,rfl⟩
end
section
open Go.RowKit
theorem rmake_c (b:Bool) (n:Nat) (z:Int) (w:World) (hm:(E n).size≤4611686018427387904) (hz:z=if b then -(n:Int) else (n:Int)) :
  Calls Tryz.prog 95 #[.bool b,.string (E n)] w fun e w'=>e=.returned (.agg #[.bool (sg (z)),.string (E (z).natAbs)])∧Below w.heap.size w w':=by
 have H:=made_val b n;rw [←hz] at H;have HM:=Lib.hid H;clear H hz;cases b
 all_goals
  go_enter Tryz.func95,Tryz.ntmps95
  go_wp2;refine bodyPost_ret (v:=.agg #[.bool (sg (z)),.string (E (z).natAbs)]) (by rw [←HM.out];simp [results,Tryz.results95,go_sem]) rfl ⟨rfl,b1 _ _⟩
theorem rivalid_c (b:Bool) (s:ByteArray) (w:World) (hm:s.size≤4611686018427387904) :
  Calls Tryz.prog 55 #[.agg #[.bool b,.string s]] w fun e w'=>e=.returned (.bool (ivB b s))∧Below w.heap.size w w':=by
 have HI:=Lib.hid (show ivB b s=(vldB s&&!(b&&s.toList.isEmpty)) from rfl);generalize ivB b s=r at HI;cases hv:vldB s
 ·rw [hv] at HI;go_enter Tryz.func55,Tryz.ntmps55
  go_wp2_with fail
  refine (rvalid_c s _ (by omega)).mono ?_;rintro e w' ⟨rfl,rfl⟩;rw [hv];go_wp2;go_ret
  exact ⟨rb (by rw [HI.out];rfl),b1 _ _⟩
 ·rw [hv] at HI;cases b
  ·go_enter Tryz.func55,Tryz.ntmps55
   go_wp2_with fail
   refine (rvalid_c s _ (by omega)).mono ?_;rintro e w' ⟨rfl,rfl⟩;rw [hv];go_wp2;go_ret
   exact ⟨rb (by rw [HI.out];rfl),b1 _ _⟩
  ·cases he:s.toList.isEmpty
   all_goals
    rw [he] at HI;go_enter Tryz.func55,Tryz.ntmps55
    go_wp2_with fail
    refine (rvalid_c s _ (by omega)).mono ?_;rintro e w' ⟨rfl,rfl⟩;rw [hv];go_wp2;go_ret
    exact ⟨rb (by rw [HI.out];rfl),b1 _ _⟩
theorem rivalidI_c (z:Int) (w:World) (h:z.natAbs<256^128) :
  Calls Tryz.prog 55 #[.agg #[.bool (sg (z)),.string (E (z).natAbs)]] w fun e w'=>e=.returned (.bool true)∧Below w.heap.size w w':=by
 have:=rivalid_c (sg z) (E z.natAbs) w (by have:=sz z.natAbs h;omega);rw [ivB_I z h] at this;exact this
theorem riof_c (z:Int) (w:World) (h1:-9223372036854775808≤z) (h2:z≤9223372036854775807) :
  Calls Tryz.prog 32 #[.int .i64 z] w fun e w'=>e=.returned (.agg #[.bool (sg (z)),.string (E (z).natAbs)])∧Below w.heap.size w w':=by
 have HN:Hid (z.natAbs<256^8):=by unfold Hid;rw [←u64_as_pow];omega
 have hs:=(E_size_le z.natAbs 8).2 HN.out;have hB:=Blk.new w #[Value.bool false,Value.string { data:=#[] }] 28;by_cases h:z<0
 ·have HZ:Hid (z=if true then -(z.natAbs:Int) else (z.natAbs:Int)):=by unfold Hid;simp;omega
  go_enter Tryz.func32,Tryz.ntmps32
  go_wp2_with fail
  have hof:=rof_c z.natAbs (w.alloc (Obj.cells #[Value.bool false,Value.string { data:=#[] }] 28)) HN.out;rw [show (z.natAbs:Int)=-(z+1)+1 by omega] at hof;refine hof.mono ?_;clear hof;rintro e w1 ⟨rfl,hb1⟩;replace hB:=hB.after hb1;go_wp2_with fail
  refine (rmake_c true z.natAbs z _ (by omega) HZ.out).mono ?_;rintro e w2 ⟨rfl,hb2⟩;replace hB:=hB.after hb2;obtain ⟨hBc0,hBf0,hBc1,hBf1⟩:=hB.x2;go_wp2;refine bodyPost_ret (v:=.agg #[.bool (sg (z)),.string (E (z).natAbs)]) ?_ rfl ⟨rfl,?_⟩
  ·simp [results,Tryz.results32,go_sem,hBc0,hBc1]
  ·exact ((bt (bt (b1 _ _) hb1) hb2).setCell (Nat.le_refl _) _).setCell (Nat.le_refl _) _
 ·have HZ:Hid (z=if false then -(z.natAbs:Int) else (z.natAbs:Int)):=by unfold Hid;simp;omega
  have HZ2:Hid (z=(z.natAbs:Int)):=by unfold Hid;omega
  have h0:0≤z:=by omega
  go_enter Tryz.func32,Tryz.ntmps32
  go_wp2_with fail
  have hof:=rof_c z.natAbs (w.alloc (Obj.cells #[Value.bool false,Value.string { data:=#[] }] 28)) HN.out;rw [←HZ2.out] at hof;refine hof.mono ?_;clear hof;rintro e w1 ⟨rfl,hb1⟩;replace hB:=hB.after hb1;go_wp2_with fail
  refine (rmake_c false z.natAbs z _ (by omega) HZ.out).mono ?_;rintro e w2 ⟨rfl,hb2⟩;replace hB:=hB.after hb2;obtain ⟨hBc0,hBf0,hBc1,hBf1⟩:=hB.x2;go_wp2;refine bodyPost_ret (v:=.agg #[.bool (sg (z)),.string (E (z).natAbs)]) ?_ rfl ⟨rfl,?_⟩
  ·simp [results,Tryz.results32,go_sem,hBc0,hBc1]
  ·exact ((bt (bt (b1 _ _) hb1) hb2).setCell (Nat.le_refl _) _).setCell (Nat.le_refl _) _
theorem rifrom_c (n:Nat) (w:World) (hn:n<256^128) :
  Calls Tryz.prog 94 #[.string (E n)] w fun e w'=>e=.returned (.agg #[.bool (sg ((n:Int))),.string (E ((n:Int)).natAbs)])∧Below w.heap.size w w':=by
 have hs:=sz n hn;have HN:=Lib.hid hn;clear hn;have HZ:Hid ((n:Int)=if false then -(n:Int) else (n:Int)):=by simp [Hid]
 have hB:=Blk.new w #[Value.bool false,Value.string { data:=#[] }] 28;go_enter Tryz.func94,Tryz.ntmps94
 go_wp2_with fail
 refine (rvalidE_c n _ HN.out).mono ?_;rintro e w' ⟨rfl,rfl⟩;go_wp2_with fail
 refine (rmake_c false n (n:Int) _ (by omega) HZ.out).mono ?_;rintro e w1 ⟨rfl,hb1⟩;replace hB:=hB.after hb1;obtain ⟨hBc0,hBf0,hBc1,hBf1⟩:=hB.x2;go_wp2;refine bodyPost_ret (v:=.agg #[.bool (sg ((n:Int))),.string (E ((n:Int)).natAbs)]) ?_ rfl ⟨rfl,?_⟩
 ·simp [results,Tryz.results94,go_sem,hBc0,hBc1]
 ·exact ((bt (b1 _ _) hb1).setCell (Nat.le_refl _) _).setCell (Nat.le_refl _) _
theorem rineg_c (z:Int) (w:World) (hz:z.natAbs<256^128) :
  Calls Tryz.prog 57 #[.agg #[.bool (sg (z)),.string (E (z).natAbs)]] w fun e w'=>e=.returned (.agg #[.bool (sg (-z)),.string (E (-z).natAbs)])∧Below w.heap.size w w':=by
 have HZ:=Lib.hid hz;have hs:=szI z hz;clear hz;have hA:=blk2a w #[Value.bool (sg z),Value.string (E z.natAbs)] #[Value.bool false,Value.string { data:=#[] }] 28 28;have hB:=blk2b w #[Value.bool (sg z),Value.string (E z.natAbs)] #[Value.bool false,Value.string { data:=#[] }] 28 28;have HM:=Lib.hid (neg_made z);go_enter Tryz.func57,Tryz.ntmps57
 go_wp2_with fail
 refine (rivalidI_c z _ HZ.out).mono ?_;rintro e w1 ⟨rfl,hb1⟩;replace hA:=hA.after hb1;replace hB:=hB.after hb1;obtain ⟨hAc0,hAf0,hAc1,hAf1⟩:=hA.x2;go_wp2_with fail
 refine (rmake_c (!sg z) z.natAbs (-z) _ (by omega) HM.out).mono ?_;rintro e w2 ⟨rfl,hb2⟩;replace hB:=hB.after hb2;obtain ⟨hBc0,hBf0,hBc1,hBf1⟩:=hB.x2;go_wp2;refine bodyPost_ret (v:=.agg #[.bool (sg (-z)),.string (E (-z).natAbs)]) ?_ rfl ⟨rfl,?_⟩
 ·simp [results,Tryz.results57,go_sem,hBc0,hBc1]
 ·exact ((bt (bt (b2 _ _ _) hb1) hb2).setCell (by simp) _).setCell (by simp) _
theorem rinegS_c (z:Int) (w:World) (hz:z.natAbs<256^128) :
  Calls Tryz.prog 57 #[.agg #[.bool (sg (z)),.string (E (z).natAbs)]] w fun e w'=>e=.returned (.agg #[.bool (sg (-z)),.string (E z.natAbs)])∧Below w.heap.size w w':=by
 have:=rineg_c z w hz;rwa [Int.natAbs_neg] at this
theorem rimul_c (x y:Int) (w:World) (hx:x.natAbs<256^128) (hy:y.natAbs<256^128) (hxy:x.natAbs*y.natAbs<256^128) :
  Calls Tryz.prog 121 #[.agg #[.bool (sg (x)),.string (E (x).natAbs)],.agg #[.bool (sg (y)),.string (E (y).natAbs)]] w fun e w'=>e=.returned (.tuple #[.agg #[.bool (sg (x*y)),.string (E (x*y).natAbs)],.int .i64 0])∧Below w.heap.size w w':=by
 have HX:=Lib.hid hx;have HY:=Lib.hid hy;have HXY:=Lib.hid hxy;have hs:=sz _ hxy;clear hx hy hxy;have HM:=Lib.hid (mul_made x y);have hA:=blk3a w #[Value.bool (sg x),Value.string (E x.natAbs)] #[Value.bool (sg y),Value.string (E y.natAbs)] #[Value.bool false,Value.string { data:=#[] }] 28 28 28;have hB:=blk3b w #[Value.bool (sg x),Value.string (E x.natAbs)] #[Value.bool (sg y),Value.string (E y.natAbs)] #[Value.bool false,Value.string { data:=#[] }] 28 28 28;have hC:=blk3c w #[Value.bool (sg x),Value.string (E x.natAbs)] #[Value.bool (sg y),Value.string (E y.natAbs)] #[Value.bool false,Value.string { data:=#[] }] 28 28 28;go_enter Tryz.func121,Tryz.ntmps121
 go_wp2_with fail
 refine (rivalidI_c x _ HX.out).mono ?_;rintro e w0 ⟨rfl,hb0⟩;replace hA:=hA.after hb0;replace hB:=hB.after hb0;replace hC:=hC.after hb0;obtain ⟨hAc0,hAf0,hAc1,hAf1⟩:=hA.x2;obtain ⟨hBc0,hBf0,hBc1,hBf1⟩:=hB.x2;go_wp2_with fail
 refine (rivalidI_c y _ HY.out).mono ?_;rintro e w1 ⟨rfl,hb1⟩;clear hAc0 hAf0 hAc1 hAf1;clear hBc0 hBf0 hBc1 hBf1;replace hA:=hA.after hb1;replace hB:=hB.after hb1;replace hC:=hC.after hb1;obtain ⟨hAc0,hAf0,hAc1,hAf1⟩:=hA.x2;obtain ⟨hBc0,hBf0,hBc1,hBf1⟩:=hB.x2;go_wp2_with fail
 refine (rmul_c x.natAbs y.natAbs _ HX.out HY.out HXY.out).mono ?_;rintro e w2 ⟨rfl,hb2⟩;clear hAc0 hAf0 hAc1 hAf1;clear hBc0 hBf0 hBc1 hBf1;replace hA:=hA.after hb2;replace hB:=hB.after hb2;replace hC:=hC.after hb2;obtain ⟨hAc0,hAf0,hAc1,hAf1⟩:=hA.x2;obtain ⟨hBc0,hBf0,hBc1,hBf1⟩:=hB.x2;go_wp2_with fail
 refine (rmake_c (sg x != sg y) (x.natAbs*y.natAbs) (x*y) _ (by omega) HM.out).mono ?_;rintro e w3 ⟨rfl,hb3⟩;clear hAc0 hAf0 hAc1 hAf1;clear hBc0 hBf0 hBc1 hBf1;replace hC:=hC.after hb3;obtain ⟨hCc0,hCf0,hCc1,hCf1⟩:=hC.x2;go_wp2;refine bodyPost_ret (v:=.tuple #[.agg #[.bool (sg (x*y)),.string (E (x*y).natAbs)],.int .i64 0]) ?_ rfl ⟨rfl,?_⟩
 ·simp [results,Tryz.results121,go_sem,hCc0,hCc1]
 ·exact ((bt (bt (bt (bt (b3 _ _ _ _) hb0) hb1) hb2) hb3).setCell (by simp;omega) _).setCell (by simp;omega) _
end
section
open Go.RowKit Go.Shelf
def rr (x:Int) (n:Nat):Int:=bits .or .u32 (x / 2^n) (x*2^(32-n)%4294967296)
def u32f (f:Nat→Int) (n:Nat):List Value:=(List.range n).map fun j=>.int .u32 (f j)
theorem u32f_len (f:Nat→Int) (n:Nat):(u32f f n).length=n:=by simp [u32f]
theorem u32f_get (f:Nat→Int) {n j:Nat} (h:j<n):(u32f f n)[j]?=some (.int .u32 (f j)):=by simp [u32f,h]
theorem u32f_set (f:Nat→Int) {n i:Nat} (v:Int):(u32f f n).set i (.int .u32 v)=u32f (fun j=>if j=i then v else f j) n:=by
 refine List.ext_getElem? fun j=>?_
 rw [List.getElem?_set];by_cases e:i=j
 ·subst e;by_cases h:i<n
  ·rw [if_pos rfl,if_pos (by rw [u32f_len];exact h),u32f_get _ h,if_pos rfl]
  ·rw [if_pos rfl,if_neg (by rw [u32f_len];exact h),List.getElem?_eq_none (by rw [u32f_len];omega)]
 ·rw [if_neg e];by_cases h:j<n
  ·rw [u32f_get _ h,u32f_get _ h,if_neg (fun e'=>e e'.symm)]
  ·rw [List.getElem?_eq_none (by rw [u32f_len];omega),List.getElem?_eq_none (by rw [u32f_len];omega)]
def byt (s:ByteArray) (j:Nat):Nat:=(s.data.getD j 0).toNat
theorem byt_lt (s:ByteArray) (j:Nat):byt s j<256:=UInt8.toNat_lt _
def bigN (s:ByteArray) (o:Nat):Nat→Nat
 | 0=>0
 | m+1=>bigN s o m*256+byt s (o+m)
def sg0 (x:Int):Int:=bits .xor .u32 (bits .xor .u32 (rr x 7) (rr x 18)) (x / 8)
def sg1 (y:Int):Int:=bits .xor .u32 (bits .xor .u32 (rr y 17) (rr y 19)) (y / 1024)
def sW (s:ByteArray) (j:Nat):Int:=if j<16 then (bigN s (4*j) 4:Nat) else (sW s (j-16)+sg0 (sW s (j-15))+sW s (j-7)+sg1 (sW s (j-2)))%4294967296
termination_by j
theorem sW_lo (s:ByteArray) (j:Nat) (h:j<16):sW s j=(bigN s (4*j) 4:Nat):=by rw [sW,if_pos h]
theorem sW_hi (s:ByteArray) (j:Nat) (h:16≤j):sW s j=(sW s (j-16)+sg0 (sW s (j-15))+sW s (j-7)+sg1 (sW s (j-2)))%4294967296:=by rw [sW,if_neg (by omega)]
theorem Blk.drewH {w:World} {g:Nat} {T:TypeId} {cs:List Value} (h:Blk w g T cs):Blk w.drew g T cs:=h
theorem Blk.setv {w:World} {g k:Nat} {T:TypeId} {cs cs':List Value} {v v':Value} (h:Blk w g T cs) (e:v=v') (hc:cs.set k v'=cs'):Blk (w.setCell ⟨g,k,none⟩ v) g T cs':=by
 subst e hc;exact h.set k v
def sP (s:ByteArray) (k j:Nat):Int:=if j<k then sW s j else 0
theorem u32f_congr {f g:Nat→Int} {n:Nat} (h:∀j,j<n→f j=g j):u32f f n=u32f g n:=by
 unfold u32f;refine List.map_congr_left fun j hj=>?_
 rw [h j (List.mem_range.1 hj)]
theorem sP_zero (s:ByteArray):u32f (fun _=>0) 64=u32f (sP s 0) 64:=u32f_congr fun j _=>by rw [sP,if_neg (by omega)]
theorem sP_set (s:ByteArray) (k:Nat):(u32f (sP s k) 64).set k (.int .u32 (sW s k))=u32f (sP s (k+1)) 64:=by
 rw [u32f_set];refine u32f_congr fun j _=>?_
 unfold sP;by_cases h2:j=k
 ·subst h2;rw [if_pos rfl,if_pos (by omega)]
 ·rw [if_neg h2];by_cases h1:j<k
  ·rw [if_pos h1,if_pos (by omega)]
  ·rw [if_neg h1,if_neg (by omega)]
theorem sP_end (s:ByteArray):u32f (sP s 64) 64=u32f (sW s) 64:=u32f_congr fun j h=>by rw [sP,if_pos h]
theorem sP_at {w:World} {g:Nat} {T:TypeId} {s:ByteArray} {k j:Nat} (h:Blk w g T (u32f (sP s k) 64)) (hj:j<k) (hk:k≤64):w.cell? ⟨g,j,none⟩=some (.int .u32 (sW s j)):=by
 rw [h.cell,u32f_get _ (by omega),sP,if_pos hj]
end
end Go.Proofs.YteahlbhjhjhljaaGreatDoor
