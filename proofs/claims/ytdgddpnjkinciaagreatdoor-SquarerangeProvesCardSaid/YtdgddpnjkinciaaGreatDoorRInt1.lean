import Derived.Test.YtdgddpnjkinciaaGreatDoorRef6
import Derived.Test.YtdgddpnjkinciaaGreatDoorInt4
set_option linter.all false
set_option maxRecDepth 100000
set_option maxHeartbeats 16000000
namespace Go.Proofs.YtdgddpnjkinciaaGreatDoor
section
open Go.RowKit
theorem rfit_c (n:Nat) (w:World) (h:n<256^128) :
  Calls Tryz.prog 150 #[.string (E n)] w fun e w'=>e=.returned (.tuple #[.string (E n),.int .i64 0])∧w=w':=by
 have h1:=sz n h;have H:=Kh h;clear h;go_enter Tryz.func150,Tryz.ntmps150
 go_wp2;go_ret2
 exact⟨rfl,rfl⟩
theorem rcmp_c (a b:Nat) (w:World) (ha:a<256^128) (hb:b<256^128) :
  Calls Tryz.prog 66 #[.string (E a),.string (E b)] w fun e w'=>e=.returned (.int .i64 (cmpN a b))∧Bw w w':=by
 have h1:=sz a ha;have h2:=sz b hb;have HA:=Kh ha;have HB:=Kh hb;clear ha hb;go_enter Tryz.func66,Tryz.ntmps66
 go_wp2_with fail
 refine (rvalidE_c a _ HA.out).mono ?_;rintro e w' ⟨rfl,rfl⟩;go_wp2_with fail
 refine (rvalidE_c b _ HB.out).mono ?_;rintro e w' ⟨rfl,rfl⟩;go_wp2_with fail
 refine (rorder_c a b _ (by omega) (by omega)).mono ?_;rintro e w1 ⟨rfl,hc⟩;go_wp2;go_ret
 exact⟨rfl,hc⟩
theorem radd_c (a b:Nat) (w:World) (ha:a<256^128) (hb:b<256^128) (hs:a+b<256^128) :
  Calls Tryz.prog 227 #[.string (E a),.string (E b)] w fun e w'=>e=.returned (.tuple #[.string (E (a+b)),.int .i64 0])∧Bw w w':=by
 have h1:=sz a ha;have h2:=sz b hb;have HA:=Kh ha;have HB:=Kh hb;have HS:=Kh hs;clear ha hb hs;go_enter Tryz.func227,Tryz.ntmps227
 go_wp2_with fail
 refine (rvalidE_c a _ HA.out).mono ?_;rintro e w' ⟨rfl,rfl⟩;go_wp2_with fail
 refine (rvalidE_c b _ HB.out).mono ?_;rintro e w' ⟨rfl,rfl⟩;go_wp2_with fail
 refine (rplus_c a b _ (by omega) (by omega)).mono ?_;rintro e w1 ⟨rfl,hc⟩;go_wp2_with fail
 refine (rfit_c (a+b) _ HS.out).mono ?_;rintro e w' ⟨rfl,rfl⟩;go_wp2;go_ret2
 exact⟨rfl,hc⟩
theorem rsub_c (a b:Nat) (w:World) (ha:a<256^128) (hb:b≤a) :
  Calls Tryz.prog 228 #[.string (E a),.string (E b)] w fun e w'=>e=.returned (.tuple #[.string (E (a-b)),.int .i64 0])∧Bw w w':=by
 have HB:=Kh (show b<256^128 by omega);have h1:=sz a ha;have h2:=sz b HB.out;have HA:=Kh ha;have HL:=Kh hb;have hc:=cmp_nneg a b hb;clear ha hb;go_enter Tryz.func228,Tryz.ntmps228
 go_wp2_with fail
 refine (rvalidE_c a _ HA.out).mono ?_;rintro e w' ⟨rfl,rfl⟩;go_wp2_with fail
 refine (rvalidE_c b _ HB.out).mono ?_;rintro e w' ⟨rfl,rfl⟩;go_wp2_with fail
 refine (rorder_c a b _ (by omega) (by omega)).mono ?_;rintro e w1 ⟨rfl,hd⟩;go_wp2_with fail
 refine (rminus_c a b _ (by omega) HL.out).mono ?_;rintro e w2 ⟨rfl,he⟩;go_wp2;go_ret2
 exact⟨rfl,bt hd he⟩
theorem rmul_c (a b:Nat) (w:World) (ha:a<256^128) (hb:b<256^128) (hs:a*b<256^128) :
  Calls Tryz.prog 113 #[.string (E a),.string (E b)] w fun e w'=>e=.returned (.tuple #[.string (E (a*b)),.int .i64 0])∧Bw w w':=by
 have h1:=sz a ha;have h2:=sz b hb;have HA:=Kh ha;have HB:=Kh hb;have HS:=Kh hs;clear ha hb hs;go_enter Tryz.func113,Tryz.ntmps113
 go_wp2_with fail
 refine (rvalidE_c a _ HA.out).mono ?_;rintro e w' ⟨rfl,rfl⟩;go_wp2_with fail
 refine (rvalidE_c b _ HB.out).mono ?_;rintro e w' ⟨rfl,rfl⟩;go_wp2_with fail
 refine (rtimes_c a b _ (by omega) (by omega)).mono ?_;rintro e w1 ⟨rfl,hc⟩;go_wp2_with fail
 refine (rfit_c (a*b) _ HS.out).mono ?_;rintro e w' ⟨rfl,rfl⟩;go_wp2;go_ret2
 exact⟨rfl,hc⟩
theorem rdivmod_c (a b:Nat) (w:World) (ha:a<256^128) (hb:b<256^128) (h0:0<b) :
  Calls Tryz.prog 208 #[.string (E a),.string (E b)] w fun e w'=>e=.returned (.tuple #[.string (E (a / b)),.string (E (a%b)),.int .i64 0])∧Bw w w':=by
 have h1:=sz a ha;have h2:=sz b hb;have HA:=Kh ha;have HB:=Kh hb;have H0:=Kh h0;have hz:=nzE h0;clear ha hb h0;go_enter Tryz.func208,Tryz.ntmps208
 go_wp2_with fail
 refine (rvalidE_c a _ HA.out).mono ?_;rintro e w' ⟨rfl,rfl⟩;go_wp2_with fail
 refine (rvalidE_c b _ HB.out).mono ?_;rintro e w' ⟨rfl,rfl⟩;go_wp2_with fail
 refine (rover_c a b _ H0.out (by omega) (by omega)).mono ?_;rintro e w1 ⟨rfl,hc⟩;go_wp2;go_ret3
 exact⟨rfl,hc⟩
theorem rcommon_c (a b:Nat) (w:World) (ha:a<256^128) (hb:b<256^128) :
  Calls Tryz.prog 145 #[.string (E a),.string (E b)] w fun e w'=>e=.returned (.string (E (Nat.gcd a b)))∧Bw w w':=by
 have HA:=Kh ha;have HB:=Kh hb;clear ha hb;go_enter Tryz.func145,Tryz.ntmps145
 go_wp2;go_loopw [0,1] (fun x y wr=>∃p q:Nat,p<256^128∧q<256^128∧x=.string (E p)∧y=.string (E q)∧Nat.gcd p q=Nat.gcd a b∧Bw w wr) (fun _ y _=>strVal y)
 case atStart=>exact⟨a,b,HA.out,HB.out,rfl,rfl,rfl,Br⟩
 case round =>
  obtain⟨p,q,hp,hq,rfl,rfl,hg,hc⟩:=hrel;have he:=sz p hp;have hf:=sz q hq;have HP:=Kh hp;clear hp;have HQ:=Kh hq;clear hq;have HG:=Kh hg;clear hg;by_cases h0:0<q
  ·have hz:=nzE h0;have H0:=Kh h0;clear h0;go_wp2_with fail
   refine (rover_c p q _ H0.out (by omega) (by omega)).mono ?_;rintro e w1 ⟨rfl,hd⟩;go_wp2;go_roundw
   case rel =>
    refine⟨q,p%q,HQ.out,Nat.lt_trans (Nat.mod_lt _ H0.out) HQ.out,rfl,rfl,?_,bt hc hd⟩;rw[←HG.out,Nat.gcd_comm p q,Nat.gcd_rec q p,Nat.gcd_comm]
   case measure =>
    rw[strVal_E,strVal_E];exact Nat.mod_lt _ H0.out
  ·obtain rfl:q=0:=by omega
   have hz:=zE (n:=0) rfl;have HE:Hid (p=Nat.gcd a b):=by rw[Hid,←HG.out,Nat.gcd_zero_right]
   go_wp2;go_ret
   exact⟨rE HE.out,hc⟩
theorem rBits_c (n:Nat) (w:World) (hn:n<256^128) :
  Calls Tryz.prog 211 #[.string (E n)] w fun e w'=>e=.returned (.int .i64 (nb n))∧w=w':=by
 have HN:=Kh hn;have hs:=sz n hn;clear hn;go_enter Tryz.func211,Tryz.ntmps211
 go_wp2_with fail
 refine (rvalidE_c n _ HN.out).mono ?_;rintro e w' ⟨rfl,rfl⟩;go_wp2_with fail
 refine (rbits_c n _ (by omega)).mono ?_;rintro e w' ⟨rfl,rfl⟩;go_wp2;go_ret
 exact⟨rfl,rfl⟩
theorem bitB_high (n i:Nat) (h:nb n≤i):bitB n i=false:=by
 have h1:=lt_nb n;have h2:2^nb n≤2^i:=Nat.pow_le_pow_right (by decide) h;unfold bitB;rw[Nat.div_eq_of_lt (by omega)];rfl
theorem rBit_c (n:Nat) (i:Nat) (w:World) (hn:n<256^128) (hi:i≤1000000) :
  Calls Tryz.prog 212 #[.string (E n),.int .i64 (i:Int)] w fun e w'=>e=.returned (.bool (bitB n i))∧w=w':=by
 have HN:=Kh hn;have hs:=sz n hn;have hb:=nb_le n 128 hs;clear hn;by_cases h0:i<nb n
 ·have hd:decide ((i:Int)<(nb n:Int))=true:=by rw[decide_eq_true_iff];omega
  go_enter Tryz.func212,Tryz.ntmps212
  go_wp2_with fail
  refine (rvalidE_c n _ HN.out).mono ?_;rintro e w' ⟨rfl,rfl⟩;go_wp2_with fail
  refine (rbits_c n _ (by omega)).mono ?_;rintro e w' ⟨rfl,rfl⟩;go_wp2_with fail
  refine (rone_c n i _ (by omega) (by omega)).mono ?_;rintro e w' ⟨rfl,rfl⟩;go_wp2;go_ret
  exact⟨rfl,rfl⟩
 ·have HB:=Kh (bitB_high n i (by omega));have hd:decide ((i:Int)<(nb n:Int))=false:=by rw[decide_eq_false_iff_not];omega
  go_enter Tryz.func212,Tryz.ntmps212
  go_wp2_with fail
  refine (rvalidE_c n _ HN.out).mono ?_;rintro e w' ⟨rfl,rfl⟩;go_wp2_with fail
  refine (rbits_c n _ (by omega)).mono ?_;rintro e w' ⟨rfl,rfl⟩;go_wp2;go_ret
  exact⟨rb HB.out.symm,rfl⟩
end
section
open Go.RowKit
theorem rmake_c (b:Bool) (n:Nat) (z:Int) (w:World) (hm:(E n).size≤4611686018427387904) (hz:z=if b then -(n:Int) else (n:Int)) :
  Calls Tryz.prog 91 #[.bool b,.string (E n)] w fun e w'=>e=.returned (.agg #[.bool (sg (z)),.string (E (z).natAbs)])∧Bw w w':=by
 have H:=made_val b n;rw[←hz]at H;have HM:=Kh H;clear H hz;cases b
 all_goals
  go_enter Tryz.func91,Tryz.ntmps91
  go_wp2;refine bodyPost_ret (v:=.agg #[.bool (sg (z)),.string (E (z).natAbs)]) (by rw[←HM.out];simp[results,Tryz.results91,go_sem]) rfl ⟨rfl,b1 _ _⟩
theorem rivalid_c (b:Bool) (s:ByteArray) (w:World) (hm:s.size≤4611686018427387904) :
  Calls Tryz.prog 44 #[.agg #[.bool b,.string s]] w fun e w'=>e=.returned (.bool (ivB b s))∧Bw w w':=by
 have HI:=Kh (show ivB b s=(vldB s&&!(b&&s.toList.isEmpty)) from rfl);generalize ivB b s=r at HI;cases hv:vldB s
 ·rw[hv]at HI;go_enter Tryz.func44,Tryz.ntmps44
  go_wp2_with fail
  refine (rvalid_c s _ (by omega)).mono ?_;rintro e w' ⟨rfl,rfl⟩;rw[hv];go_wp2;go_ret
  exact⟨rb (by rw[HI.out];rfl),b1 _ _⟩
 ·rw[hv]at HI;cases b
  ·go_enter Tryz.func44,Tryz.ntmps44
   go_wp2_with fail
   refine (rvalid_c s _ (by omega)).mono ?_;rintro e w' ⟨rfl,rfl⟩;rw[hv];go_wp2;go_ret
   exact⟨rb (by rw[HI.out];rfl),b1 _ _⟩
  ·cases he:s.toList.isEmpty
   all_goals
    rw[he]at HI;go_enter Tryz.func44,Tryz.ntmps44
    go_wp2_with fail
    refine (rvalid_c s _ (by omega)).mono ?_;rintro e w' ⟨rfl,rfl⟩;rw[hv];go_wp2;go_ret
    exact⟨rb (by rw[HI.out];rfl),b1 _ _⟩
theorem rivalidI_c (z:Int) (w:World) (h:z.natAbs<256^128) :
  Calls Tryz.prog 44 #[.agg #[.bool (sg (z)),.string (E (z).natAbs)]] w fun e w'=>e=.returned (.bool true)∧Bw w w':=by
 have:=rivalid_c (sg z) (E z.natAbs) w (by have:=sz z.natAbs h;omega);rw[ivB_I z h]at this;exact this
theorem riof_c (z:Int) (w:World) (h1:-9223372036854775808≤z) (h2:z≤9223372036854775807) :
  Calls Tryz.prog 46 #[.int .i64 z] w fun e w'=>e=.returned (.agg #[.bool (sg (z)),.string (E (z).natAbs)])∧Bw w w':=by
 have HN:Hid (z.natAbs<256^8):=by unfold Hid;rw[←u64_as_pow];omega
 have hs:=(E_size_le z.natAbs 8).2 HN.out;have hB:=Blk.new w #[Value.bool false,Value.string { data:=#[] }] 28;by_cases h:z<0
 ·have HZ:Hid (z=if true then -(z.natAbs:Int) else (z.natAbs:Int)):=by unfold Hid;simp;omega
  go_enter Tryz.func46,Tryz.ntmps46
  go_wp2_with fail
  have hof:=rof_c z.natAbs (w.alloc (Obj.cells #[Value.bool false,Value.string { data:=#[] }] 28)) HN.out;rw[show (z.natAbs:Int)=-(z+1)+1 by omega]at hof;refine hof.mono ?_;clear hof;rintro e w1 ⟨rfl,hd⟩;replace hB:=hB.after hd;go_wp2_with fail
  refine (rmake_c true z.natAbs z _ (by omega) HZ.out).mono ?_;rintro e w2 ⟨rfl,he⟩;replace hB:=hB.after he;obtain⟨hb,hf,hc,hg⟩:=hB.x2;go_wp2;refine bodyPost_ret (v:=.agg #[.bool (sg (z)),.string (E (z).natAbs)]) ?_ rfl ⟨rfl,?_⟩
  ·simp[results,Tryz.results46,go_sem,hb,hc]
  ·exact ((bt (bt (b1 _ _) hd) he).setCell (Nat.le_refl _) _).setCell (Nat.le_refl _) _
 ·have HZ:Hid (z=if false then -(z.natAbs:Int) else (z.natAbs:Int)):=by unfold Hid;simp;omega
  have hh:Hid (z=(z.natAbs:Int)):=by unfold Hid;omega
  have h0:0≤z:=by omega
  go_enter Tryz.func46,Tryz.ntmps46
  go_wp2_with fail
  have hof:=rof_c z.natAbs (w.alloc (Obj.cells #[Value.bool false,Value.string { data:=#[] }] 28)) HN.out;rw[←hh.out]at hof;refine hof.mono ?_;clear hof;rintro e w1 ⟨rfl,hd⟩;replace hB:=hB.after hd;go_wp2_with fail
  refine (rmake_c false z.natAbs z _ (by omega) HZ.out).mono ?_;rintro e w2 ⟨rfl,he⟩;replace hB:=hB.after he;obtain⟨hb,hf,hc,hg⟩:=hB.x2;go_wp2;refine bodyPost_ret (v:=.agg #[.bool (sg (z)),.string (E (z).natAbs)]) ?_ rfl ⟨rfl,?_⟩
  ·simp[results,Tryz.results46,go_sem,hb,hc]
  ·exact ((bt (bt (b1 _ _) hd) he).setCell (Nat.le_refl _) _).setCell (Nat.le_refl _) _
theorem rifrom_c (n:Nat) (w:World) (hn:n<256^128) :
  Calls Tryz.prog 220 #[.string (E n)] w fun e w'=>e=.returned (.agg #[.bool (sg ((n:Int))),.string (E ((n:Int)).natAbs)])∧Bw w w':=by
 have hs:=sz n hn;have HN:=Kh hn;clear hn;have HZ:Hid ((n:Int)=if false then -(n:Int) else (n:Int)):=by simp[Hid]
 have hB:=Blk.new w #[Value.bool false,Value.string { data:=#[] }] 28;go_enter Tryz.func220,Tryz.ntmps220
 go_wp2_with fail
 refine (rvalidE_c n _ HN.out).mono ?_;rintro e w' ⟨rfl,rfl⟩;go_wp2_with fail
 refine (rmake_c false n (n:Int) _ (by omega) HZ.out).mono ?_;rintro e w1 ⟨rfl,hd⟩;replace hB:=hB.after hd;obtain⟨hb,he,hc,hf⟩:=hB.x2;go_wp2;refine bodyPost_ret (v:=.agg #[.bool (sg ((n:Int))),.string (E ((n:Int)).natAbs)]) ?_ rfl ⟨rfl,?_⟩
 ·simp[results,Tryz.results220,go_sem,hb,hc]
 ·exact ((bt (b1 _ _) hd).setCell (Nat.le_refl _) _).setCell (Nat.le_refl _) _
theorem rineg_c (z:Int) (w:World) (hz:z.natAbs<256^128) :
  Calls Tryz.prog 236 #[.agg #[.bool (sg (z)),.string (E (z).natAbs)]] w fun e w'=>e=.returned (.agg #[.bool (sg (-z)),.string (E (-z).natAbs)])∧Bw w w':=by
 have HZ:=Kh hz;have hs:=szI z hz;clear hz;have hA:=blk2a w #[Value.bool (sg z),Value.string (E z.natAbs)] #[Value.bool false,Value.string { data:=#[] }] 28 28;have hB:=blk2b w #[Value.bool (sg z),Value.string (E z.natAbs)] #[Value.bool false,Value.string { data:=#[] }] 28 28;have HM:=Kh (neg_made z);go_enter Tryz.func236,Tryz.ntmps236
 go_wp2_with fail
 refine (rivalidI_c z _ HZ.out).mono ?_;rintro e w1 ⟨rfl,hb⟩;replace hA:=hA.after hb;replace hB:=hB.after hb;obtain⟨hf,hg,hh,hi⟩:=hA.x2;go_wp2_with fail
 refine (rmake_c (!sg z) z.natAbs (-z) _ (by omega) HM.out).mono ?_;rintro e w2 ⟨rfl,he⟩;replace hB:=hB.after he;obtain⟨hc,hj,hd,hk⟩:=hB.x2;go_wp2;refine bodyPost_ret (v:=.agg #[.bool (sg (-z)),.string (E (-z).natAbs)]) ?_ rfl ⟨rfl,?_⟩
 ·simp[results,Tryz.results236,go_sem,hc,hd]
 ·exact ((bt (bt (b2 _ _ _) hb) he).setCell (by simp) _).setCell (by simp) _
theorem rinegS_c (z:Int) (w:World) (hz:z.natAbs<256^128) :
  Calls Tryz.prog 236 #[.agg #[.bool (sg (z)),.string (E (z).natAbs)]] w fun e w'=>e=.returned (.agg #[.bool (sg (-z)),.string (E z.natAbs)])∧Bw w w':=by
 have:=rineg_c z w hz;rwa [Int.natAbs_neg]at this
theorem rimul_c (x y:Int) (w:World) (hx:x.natAbs<256^128) (hy:y.natAbs<256^128) (hm:x.natAbs*y.natAbs<256^128) :
  Calls Tryz.prog 67 #[.agg #[.bool (sg (x)),.string (E (x).natAbs)],.agg #[.bool (sg (y)),.string (E (y).natAbs)]] w fun e w'=>e=.returned (.tuple #[.agg #[.bool (sg (x*y)),.string (E (x*y).natAbs)],.int .i64 0])∧Bw w w':=by
 have HX:=Kh hx;have HY:=Kh hy;have hq:=Kh hm;have hs:=sz _ hm;clear hx hy hm;have HM:=Kh (mul_made x y);have hA:=blk3a w #[Value.bool (sg x),Value.string (E x.natAbs)] #[Value.bool (sg y),Value.string (E y.natAbs)] #[Value.bool false,Value.string { data:=#[] }] 28 28 28;have hB:=blk3b w #[Value.bool (sg x),Value.string (E x.natAbs)] #[Value.bool (sg y),Value.string (E y.natAbs)] #[Value.bool false,Value.string { data:=#[] }] 28 28 28;have hC:=blk3c w #[Value.bool (sg x),Value.string (E x.natAbs)] #[Value.bool (sg y),Value.string (E y.natAbs)] #[Value.bool false,Value.string { data:=#[] }] 28 28 28;go_enter Tryz.func67,Tryz.ntmps67
 go_wp2_with fail
 refine (rivalidI_c x _ HX.out).mono ?_;rintro e w0 ⟨rfl,hj⟩;replace hA:=hA.after hj;replace hB:=hB.after hj;replace hC:=hC.after hj;obtain⟨hb,hc,hd,he⟩:=hA.x2;obtain⟨hf,hg,hh,hi⟩:=hB.x2;go_wp2_with fail
 refine (rivalidI_c y _ HY.out).mono ?_;rintro e w1 ⟨rfl,hk⟩;clear hb hc hd he;clear hf hg hh hi;replace hA:=hA.after hk;replace hB:=hB.after hk;replace hC:=hC.after hk;obtain⟨hb,hc,hd,he⟩:=hA.x2;obtain⟨hf,hg,hh,hi⟩:=hB.x2;go_wp2_with fail
 refine (rmul_c x.natAbs y.natAbs _ HX.out HY.out hq.out).mono ?_;rintro e w2 ⟨rfl,hl⟩;clear hb hc hd he;clear hf hg hh hi;replace hA:=hA.after hl;replace hB:=hB.after hl;replace hC:=hC.after hl;obtain⟨hb,hc,hd,he⟩:=hA.x2;obtain⟨hf,hg,hh,hi⟩:=hB.x2;go_wp2_with fail
 refine (rmake_c (sg x != sg y) (x.natAbs*y.natAbs) (x*y) _ (by omega) HM.out).mono ?_;rintro e w3 ⟨rfl,hp⟩;clear hb hc hd he;clear hf hg hh hi;replace hC:=hC.after hp;obtain⟨hn,hr,ho,ht⟩:=hC.x2;go_wp2;refine bodyPost_ret (v:=.tuple #[.agg #[.bool (sg (x*y)),.string (E (x*y).natAbs)],.int .i64 0]) ?_ rfl ⟨rfl,?_⟩
 ·simp[results,Tryz.results67,go_sem,hn,ho]
 ·exact ((bt (bt (bt (bt (b3 _ _ _ _) hj) hk) hl) hp).setCell (by simp;omega) _).setCell (by simp;omega) _
end
end Go.Proofs.YtdgddpnjkinciaaGreatDoor
