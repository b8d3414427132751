import Derived.Test.YtihjpddbjhcbmaaGreatDoorInt4
import Derived.Test.YtihjpddbjhcbmaaGreatDoorRef7
set_option linter.unusedVariables false
set_option linter.unusedSimpArgs false
set_option maxRecDepth 100000
set_option maxHeartbeats 16000000
namespace Go.Proofs.YtihjpddbjhcbmaaGreatDoor
section
open Go.RowKit
theorem rmake_c (b:Bool) (n:Nat) (z:Int) (w:World) (hm:(E n).size≤4611686018427387904) (hz:z=if b then -(n:Int) else (n:Int)) :
  Calls Tryz.prog 170 #[.bool b,.string (E n)] w fun e w'=>e=.returned (.agg #[.bool (sg (z)),.string (E (z).natAbs)])∧Bw w w':=by
 have H:=made_val b n;rw[←hz]at H;have HM:=Kh H;clear H hz;cases b
 all_goals
  go_enter Tryz.func170,Tryz.ntmps170
  go_wp2;refine bodyPost_ret (v:=.agg #[.bool (sg (z)),.string (E (z).natAbs)]) (by rw[←HM.out];simp[results,Tryz.results170,go_sem]) rfl ⟨rfl,b1 _ _⟩
theorem rivalid_c (b:Bool) (s:ByteArray) (w:World) (hm:s.size≤4611686018427387904) :
  Calls Tryz.prog 162 #[.agg #[.bool b,.string s]] w fun e w'=>e=.returned (.bool (ivB b s))∧Bw w w':=by
 have HI:=Kh (show ivB b s=(vldB s&&!(b&&s.toList.isEmpty)) from rfl);generalize ivB b s=r at HI;cases hv:vldB s
 ·rw[hv]at HI;go_enter Tryz.func162,Tryz.ntmps162
  go_wp2_with fail
  refine (rvalid_c s _ (by omega)).mono ?_;rintro e w' ⟨rfl,rfl⟩;rw[hv];go_wp2;go_ret
  exact⟨rb (by rw[HI.out];rfl),b1 _ _⟩
 ·rw[hv]at HI;cases b
  ·go_enter Tryz.func162,Tryz.ntmps162
   go_wp2_with fail
   refine (rvalid_c s _ (by omega)).mono ?_;rintro e w' ⟨rfl,rfl⟩;rw[hv];go_wp2;go_ret
   exact⟨rb (by rw[HI.out];rfl),b1 _ _⟩
  ·cases he:s.toList.isEmpty
   all_goals
    rw[he]at HI;go_enter Tryz.func162,Tryz.ntmps162
    go_wp2_with fail
    refine (rvalid_c s _ (by omega)).mono ?_;rintro e w' ⟨rfl,rfl⟩;rw[hv];go_wp2;go_ret
    exact⟨rb (by rw[HI.out];rfl),b1 _ _⟩
theorem rivalidI_c (z:Int) (w:World) (h:z.natAbs<256^128) :
  Calls Tryz.prog 162 #[.agg #[.bool (sg (z)),.string (E (z).natAbs)]] w fun e w'=>e=.returned (.bool true)∧Bw w w':=by
 have:=rivalid_c (sg z) (E z.natAbs) w (by have:=sz z.natAbs h;omega);rw[ivB_I z h]at this;exact this
theorem riof_c (z:Int) (w:World) (h1:-9223372036854775808≤z) (h2:z≤9223372036854775807) :
  Calls Tryz.prog 143 #[.int .i64 z] w fun e w'=>e=.returned (.agg #[.bool (sg (z)),.string (E (z).natAbs)])∧Bw w w':=by
 have HN:Hid (z.natAbs<256^8):=by unfold Hid;rw[←u64_as_pow];omega
 have hs:=(E_size_le z.natAbs 8).2 HN.out;have hB:=Blk.new w #[Value.bool false,Value.string { data:=#[] }] 74;by_cases h:z<0
 ·have HZ:Hid (z=if true then -(z.natAbs:Int) else (z.natAbs:Int)):=by unfold Hid;simp;omega
  go_enter Tryz.func143,Tryz.ntmps143
  go_wp2_with fail
  have hof:=rof_c z.natAbs (w.alloc (Obj.cells #[Value.bool false,Value.string { data:=#[] }] 74)) HN.out;rw[show (z.natAbs:Int)=-(z+1)+1 by omega]at hof;refine hof.mono ?_;clear hof;rintro e w1 ⟨rfl,hd⟩;replace hB:=hB.after hd;go_wp2_with fail
  refine (rmake_c true z.natAbs z _ (by omega) HZ.out).mono ?_;rintro e w2 ⟨rfl,he⟩;replace hB:=hB.after he;obtain⟨hb,hf,hc,hg⟩:=hB.x2;go_wp2;refine bodyPost_ret (v:=.agg #[.bool (sg (z)),.string (E (z).natAbs)]) ?_ rfl ⟨rfl,?_⟩
  ·simp[results,Tryz.results143,go_sem,hb,hc]
  ·exact ((bt (bt (b1 _ _) hd) he).setCell (Nat.le_refl _) _).setCell (Nat.le_refl _) _
 ·have HZ:Hid (z=if false then -(z.natAbs:Int) else (z.natAbs:Int)):=by unfold Hid;simp;omega
  have hh:Hid (z=(z.natAbs:Int)):=by unfold Hid;omega
  have h0:0≤z:=by omega
  go_enter Tryz.func143,Tryz.ntmps143
  go_wp2_with fail
  have hof:=rof_c z.natAbs (w.alloc (Obj.cells #[Value.bool false,Value.string { data:=#[] }] 74)) HN.out;rw[←hh.out]at hof;refine hof.mono ?_;clear hof;rintro e w1 ⟨rfl,hd⟩;replace hB:=hB.after hd;go_wp2_with fail
  refine (rmake_c false z.natAbs z _ (by omega) HZ.out).mono ?_;rintro e w2 ⟨rfl,he⟩;replace hB:=hB.after he;obtain⟨hb,hf,hc,hg⟩:=hB.x2;go_wp2;refine bodyPost_ret (v:=.agg #[.bool (sg (z)),.string (E (z).natAbs)]) ?_ rfl ⟨rfl,?_⟩
  ·simp[results,Tryz.results143,go_sem,hb,hc]
  ·exact ((bt (bt (b1 _ _) hd) he).setCell (Nat.le_refl _) _).setCell (Nat.le_refl _) _
theorem rifrom_c (n:Nat) (w:World) (hn:n<256^128) :
  Calls Tryz.prog 145 #[.string (E n)] w fun e w'=>e=.returned (.agg #[.bool (sg ((n:Int))),.string (E ((n:Int)).natAbs)])∧Bw w w':=by
 have hs:=sz n hn;have HN:=Kh hn;clear hn;have HZ:Hid ((n:Int)=if false then -(n:Int) else (n:Int)):=by simp[Hid]
 have hB:=Blk.new w #[Value.bool false,Value.string { data:=#[] }] 74;go_enter Tryz.func145,Tryz.ntmps145
 go_wp2_with fail
 refine (rvalidE_c n _ HN.out).mono ?_;rintro e w' ⟨rfl,rfl⟩;go_wp2_with fail
 refine (rmake_c false n (n:Int) _ (by omega) HZ.out).mono ?_;rintro e w1 ⟨rfl,hd⟩;replace hB:=hB.after hd;obtain⟨hb,he,hc,hf⟩:=hB.x2;go_wp2;refine bodyPost_ret (v:=.agg #[.bool (sg ((n:Int))),.string (E ((n:Int)).natAbs)]) ?_ rfl ⟨rfl,?_⟩
 ·simp[results,Tryz.results145,go_sem,hb,hc]
 ·exact ((bt (b1 _ _) hd).setCell (Nat.le_refl _) _).setCell (Nat.le_refl _) _
theorem rineg_c (z:Int) (w:World) (hz:z.natAbs<256^128) :
  Calls Tryz.prog 157 #[.agg #[.bool (sg (z)),.string (E (z).natAbs)]] w fun e w'=>e=.returned (.agg #[.bool (sg (-z)),.string (E (-z).natAbs)])∧Bw w w':=by
 have HZ:=Kh hz;have hs:=szI z hz;clear hz;have hA:=blk2a w #[Value.bool (sg z),Value.string (E z.natAbs)] #[Value.bool false,Value.string { data:=#[] }] 74 74;have hB:=blk2b w #[Value.bool (sg z),Value.string (E z.natAbs)] #[Value.bool false,Value.string { data:=#[] }] 74 74;have HM:=Kh (neg_made z);go_enter Tryz.func157,Tryz.ntmps157
 go_wp2_with fail
 refine (rivalidI_c z _ HZ.out).mono ?_;rintro e w1 ⟨rfl,hb⟩;replace hA:=hA.after hb;replace hB:=hB.after hb;obtain⟨hf,hg,hh,hi⟩:=hA.x2;go_wp2_with fail
 refine (rmake_c (!sg z) z.natAbs (-z) _ (by omega) HM.out).mono ?_;rintro e w2 ⟨rfl,he⟩;replace hB:=hB.after he;obtain⟨hc,hj,hd,hk⟩:=hB.x2;go_wp2;refine bodyPost_ret (v:=.agg #[.bool (sg (-z)),.string (E (-z).natAbs)]) ?_ rfl ⟨rfl,?_⟩
 ·simp[results,Tryz.results157,go_sem,hc,hd]
 ·exact ((bt (bt (b2 _ _ _) hb) he).setCell (by simp) _).setCell (by simp) _
theorem rinegS_c (z:Int) (w:World) (hz:z.natAbs<256^128) :
  Calls Tryz.prog 157 #[.agg #[.bool (sg (z)),.string (E (z).natAbs)]] w fun e w'=>e=.returned (.agg #[.bool (sg (-z)),.string (E z.natAbs)])∧Bw w w':=by
 have:=rineg_c z w hz;rwa [Int.natAbs_neg]at this
theorem rimul_c (x y:Int) (w:World) (hx:x.natAbs<256^128) (hy:y.natAbs<256^128) (hm:x.natAbs*y.natAbs<256^128) :
  Calls Tryz.prog 67 #[.agg #[.bool (sg (x)),.string (E (x).natAbs)],.agg #[.bool (sg (y)),.string (E (y).natAbs)]] w fun e w'=>e=.returned (.tuple #[.agg #[.bool (sg (x*y)),.string (E (x*y).natAbs)],.int .i64 0])∧Bw w w':=by
 have HX:=Kh hx;have HY:=Kh hy;have hq:=Kh hm;have hs:=sz _ hm;clear hx hy hm;have HM:=Kh (mul_made x y);have hA:=blk3a w #[Value.bool (sg x),Value.string (E x.natAbs)] #[Value.bool (sg y),Value.string (E y.natAbs)] #[Value.bool false,Value.string { data:=#[] }] 74 74 74;have hB:=blk3b w #[Value.bool (sg x),Value.string (E x.natAbs)] #[Value.bool (sg y),Value.string (E y.natAbs)] #[Value.bool false,Value.string { data:=#[] }] 74 74 74;have hC:=blk3c w #[Value.bool (sg x),Value.string (E x.natAbs)] #[Value.bool (sg y),Value.string (E y.natAbs)] #[Value.bool false,Value.string { data:=#[] }] 74 74 74;go_enter Tryz.func67,Tryz.ntmps67
 go_wp2_with fail
 refine (rivalidI_c x _ HX.out).mono ?_;rintro e w0 ⟨rfl,hj⟩;replace hA:=hA.after hj;replace hB:=hB.after hj;replace hC:=hC.after hj;obtain⟨hb,hc,hd,he⟩:=hA.x2;obtain⟨hf,hg,hh,hi⟩:=hB.x2;go_wp2_with fail
 refine (rivalidI_c y _ HY.out).mono ?_;rintro e w1 ⟨rfl,hk⟩;clear hb hc hd he;clear hf hg hh hi;replace hA:=hA.after hk;replace hB:=hB.after hk;replace hC:=hC.after hk;obtain⟨hb,hc,hd,he⟩:=hA.x2;obtain⟨hf,hg,hh,hi⟩:=hB.x2;go_wp2_with fail
 refine (rmul_c x.natAbs y.natAbs _ HX.out HY.out hq.out).mono ?_;rintro e w2 ⟨rfl,hl⟩;clear hb hc hd he;clear hf hg hh hi;replace hA:=hA.after hl;replace hB:=hB.after hl;replace hC:=hC.after hl;obtain⟨hb,hc,hd,he⟩:=hA.x2;obtain⟨hf,hg,hh,hi⟩:=hB.x2;go_wp2_with fail
 refine (rmake_c (sg x != sg y) (x.natAbs*y.natAbs) (x*y) _ (by omega) HM.out).mono ?_;rintro e w3 ⟨rfl,hp⟩;clear hb hc hd he;clear hf hg hh hi;replace hC:=hC.after hp;obtain⟨hn,hr,ho,ht⟩:=hC.x2;go_wp2;refine bodyPost_ret (v:=.tuple #[.agg #[.bool (sg (x*y)),.string (E (x*y).natAbs)],.int .i64 0]) ?_ rfl ⟨rfl,?_⟩
 ·simp[results,Tryz.results67,go_sem,hn,ho]
 ·exact ((bt (bt (bt (bt (b3 _ _ _ _) hj) hk) hl) hp).setCell (by simp;omega) _).setCell (by simp;omega) _
end
section
open Go.RowKit
section
variable (x y:Int) (w:World)
theorem riadd_same (hx:x.natAbs<256^128) (hy:y.natAbs<256^128) (hf:(x+y).natAbs<256^128) (hq:sg x=sg y) :
  Calls Tryz.prog 68 #[.agg #[.bool (sg (x)),.string (E (x).natAbs)],.agg #[.bool (sg (y)),.string (E (y).natAbs)]] w fun e w'=>e=.returned (.tuple #[.agg #[.bool (sg (x+y)),.string (E (x+y).natAbs)],.int .i64 0])∧Bw w w':=by
 have HX:=Kh hx;have HY:=Kh hy;have HM:=Kh (add_made_same x y hq)
 have HS:Hid (x.natAbs+y.natAbs<256^128):=by
  rw[same_abs x y hq]at hf;exact hf
 have hs:=sz _ HS.out;have hu:(sg x==sg y)=true:=by rw[hq];simp
 clear hx hy hf hq;have hA:=blk3a w #[Value.bool (sg x),Value.string (E x.natAbs)] #[Value.bool (sg y),Value.string (E y.natAbs)] #[Value.bool false,Value.string { data:=#[] }] 74 74 74;have hB:=blk3b w #[Value.bool (sg x),Value.string (E x.natAbs)] #[Value.bool (sg y),Value.string (E y.natAbs)] #[Value.bool false,Value.string { data:=#[] }] 74 74 74;have hC:=blk3c w #[Value.bool (sg x),Value.string (E x.natAbs)] #[Value.bool (sg y),Value.string (E y.natAbs)] #[Value.bool false,Value.string { data:=#[] }] 74 74 74;go_enter Tryz.func68,Tryz.ntmps68
 go_wp2_with fail
 refine (rivalidI_c x _ HX.out).mono ?_;rintro e w0 ⟨rfl,hk⟩;replace hA:=hA.after hk;replace hB:=hB.after hk;replace hC:=hC.after hk;obtain⟨hb,hc,hd,he⟩:=hA.x2;obtain⟨hg,hh,hi,hj⟩:=hB.x2;go_wp2_with fail
 refine (rivalidI_c y _ HY.out).mono ?_;rintro e w1 ⟨rfl,hl⟩;clear hb hc hd he;clear hg hh hi hj;replace hA:=hA.after hl;replace hB:=hB.after hl;replace hC:=hC.after hl;obtain⟨hb,hc,hd,he⟩:=hA.x2;obtain⟨hg,hh,hi,hj⟩:=hB.x2;go_wp2_with fail
 refine (radd_c x.natAbs y.natAbs _ HX.out HY.out HS.out).mono ?_;rintro e w2 ⟨rfl,hm⟩;clear hb hc hd he;clear hg hh hi hj;replace hA:=hA.after hm;replace hC:=hC.after hm;obtain⟨hb,hc,hd,he⟩:=hA.x2;go_wp2_with fail
 refine (rmake_c (sg x) (x.natAbs+y.natAbs) (x+y) _ (by omega) HM.out).mono ?_;rintro e w3 ⟨rfl,hp⟩;clear hb hc hd he;replace hC:=hC.after hp;obtain⟨hn,hr,ho,ht⟩:=hC.x2;go_wp2;refine bodyPost_ret (v:=.tuple #[.agg #[.bool (sg (x+y)),.string (E (x+y).natAbs)],.int .i64 0]) ?_ rfl ⟨rfl,?_⟩
 ·simp[results,Tryz.results68,go_sem,hn,ho]
 ·exact ((bt (bt (bt (bt (b3 _ _ _ _) hk) hl) hm) hp).setCell (by simp;omega) _).setCell (by simp;omega) _
theorem riadd_ge (hx:x.natAbs<256^128) (hy:y.natAbs<256^128) (hq:sg x≠sg y) (hg:y.natAbs≤x.natAbs) :
  Calls Tryz.prog 68 #[.agg #[.bool (sg (x)),.string (E (x).natAbs)],.agg #[.bool (sg (y)),.string (E (y).natAbs)]] w fun e w'=>e=.returned (.tuple #[.agg #[.bool (sg (x+y)),.string (E (x+y).natAbs)],.int .i64 0])∧Bw w w':=by
 have HX:=Kh hx;have HY:=Kh hy;have HG:=Kh hg;have HM:=Kh (add_made_ge x y hq hg);have hs:(E (x.natAbs-y.natAbs)).size≤128:=sz _ (by omega);have hw:(sg x==sg y)=false:=by rw[beq_eq_false_iff_ne];exact hq
 have hc:=cmp_nneg x.natAbs y.natAbs hg;clear hx hy hq hg;have hA:=blk3a w #[Value.bool (sg x),Value.string (E x.natAbs)] #[Value.bool (sg y),Value.string (E y.natAbs)] #[Value.bool false,Value.string { data:=#[] }] 74 74 74;have hB:=blk3b w #[Value.bool (sg x),Value.string (E x.natAbs)] #[Value.bool (sg y),Value.string (E y.natAbs)] #[Value.bool false,Value.string { data:=#[] }] 74 74 74;have hC:=blk3c w #[Value.bool (sg x),Value.string (E x.natAbs)] #[Value.bool (sg y),Value.string (E y.natAbs)] #[Value.bool false,Value.string { data:=#[] }] 74 74 74;go_enter Tryz.func68,Tryz.ntmps68
 go_wp2_with fail
 refine (rivalidI_c x _ HX.out).mono ?_;rintro e w0 ⟨rfl,hl⟩;replace hA:=hA.after hl;replace hB:=hB.after hl;replace hC:=hC.after hl;obtain⟨hb,hd,he,hf⟩:=hA.x2;obtain⟨hh,hi,hj,hk⟩:=hB.x2;go_wp2_with fail
 refine (rivalidI_c y _ HY.out).mono ?_;rintro e w1 ⟨rfl,hm⟩;clear hb hd he hf;clear hh hi hj hk;replace hA:=hA.after hm;replace hB:=hB.after hm;replace hC:=hC.after hm;obtain⟨hb,hd,he,hf⟩:=hA.x2;obtain⟨hh,hi,hj,hk⟩:=hB.x2;go_wp2_with fail
 refine (rcmp_c x.natAbs y.natAbs _ HX.out HY.out).mono ?_;rintro e wc ⟨rfl,hn⟩;clear hb hd he hf;clear hh hi hj hk;replace hA:=hA.after hn;replace hB:=hB.after hn;replace hC:=hC.after hn;obtain⟨hb,hd,he,hf⟩:=hA.x2;obtain⟨hh,hi,hj,hk⟩:=hB.x2;go_wp2_with fail
 refine (rsub_c x.natAbs y.natAbs _ HX.out HG.out).mono ?_;rintro e w2 ⟨rfl,ho⟩;clear hb hd he hf;clear hh hi hj hk;replace hA:=hA.after ho;replace hC:=hC.after ho;obtain⟨hb,hd,he,hf⟩:=hA.x2;go_wp2_with fail
 refine (rmake_c (sg x) (x.natAbs-y.natAbs) (x+y) _ (by omega) HM.out).mono ?_;rintro e w3 ⟨rfl,ht⟩;clear hb hd he hf;replace hC:=hC.after ht;obtain⟨hp,hu,hr,hv⟩:=hC.x2;go_wp2;refine bodyPost_ret (v:=.tuple #[.agg #[.bool (sg (x+y)),.string (E (x+y).natAbs)],.int .i64 0]) ?_ rfl ⟨rfl,?_⟩
 ·simp[results,Tryz.results68,go_sem,hp,hr]
 ·exact ((bt (bt (bt (bt (bt (b3 _ _ _ _) hl) hm) hn) ho) ht).setCell (by simp;omega) _).setCell (by simp;omega) _
theorem riadd_lt (hx:x.natAbs<256^128) (hy:y.natAbs<256^128) (hq:sg x≠sg y) (hg:x.natAbs<y.natAbs) :
  Calls Tryz.prog 68 #[.agg #[.bool (sg (x)),.string (E (x).natAbs)],.agg #[.bool (sg (y)),.string (E (y).natAbs)]] w fun e w'=>e=.returned (.tuple #[.agg #[.bool (sg (x+y)),.string (E (x+y).natAbs)],.int .i64 0])∧Bw w w':=by
 have HX:=Kh hx;have HY:=Kh hy;have HG:=Kh hg;have HM:=Kh (add_made_lt x y hq hg);have hs:(E (y.natAbs-x.natAbs)).size≤128:=sz _ (by omega);have hw:(sg x==sg y)=false:=by rw[beq_eq_false_iff_ne];exact hq
 have hc:=cmp_neg x.natAbs y.natAbs hg;clear hx hy hq hg;have hA:=blk3a w #[Value.bool (sg x),Value.string (E x.natAbs)] #[Value.bool (sg y),Value.string (E y.natAbs)] #[Value.bool false,Value.string { data:=#[] }] 74 74 74;have hB:=blk3b w #[Value.bool (sg x),Value.string (E x.natAbs)] #[Value.bool (sg y),Value.string (E y.natAbs)] #[Value.bool false,Value.string { data:=#[] }] 74 74 74;have hC:=blk3c w #[Value.bool (sg x),Value.string (E x.natAbs)] #[Value.bool (sg y),Value.string (E y.natAbs)] #[Value.bool false,Value.string { data:=#[] }] 74 74 74;go_enter Tryz.func68,Tryz.ntmps68
 go_wp2_with fail
 refine (rivalidI_c x _ HX.out).mono ?_;rintro e w0 ⟨rfl,hl⟩;replace hA:=hA.after hl;replace hB:=hB.after hl;replace hC:=hC.after hl;obtain⟨hh,hi,hj,hk⟩:=hA.x2;obtain⟨hb,hd,he,hf⟩:=hB.x2;go_wp2_with fail
 refine (rivalidI_c y _ HY.out).mono ?_;rintro e w1 ⟨rfl,hm⟩;clear hh hi hj hk;clear hb hd he hf;replace hA:=hA.after hm;replace hB:=hB.after hm;replace hC:=hC.after hm;obtain⟨hh,hi,hj,hk⟩:=hA.x2;obtain⟨hb,hd,he,hf⟩:=hB.x2;go_wp2_with fail
 refine (rcmp_c x.natAbs y.natAbs _ HX.out HY.out).mono ?_;rintro e wc ⟨rfl,hn⟩;clear hh hi hj hk;clear hb hd he hf;replace hA:=hA.after hn;replace hB:=hB.after hn;replace hC:=hC.after hn;obtain⟨hh,hi,hj,hk⟩:=hA.x2;obtain⟨hb,hd,he,hf⟩:=hB.x2;go_wp2_with fail
 refine (rsub_c y.natAbs x.natAbs _ HY.out (Nat.le_of_lt HG.out)).mono ?_;rintro e w2 ⟨rfl,ho⟩;clear hh hi hj hk;clear hb hd he hf;replace hB:=hB.after ho;replace hC:=hC.after ho;obtain⟨hb,hd,he,hf⟩:=hB.x2;go_wp2_with fail
 refine (rmake_c (sg y) (y.natAbs-x.natAbs) (x+y) _ (by omega) HM.out).mono ?_;rintro e w3 ⟨rfl,ht⟩;clear hb hd he hf;replace hC:=hC.after ht;obtain⟨hp,hu,hr,hv⟩:=hC.x2;go_wp2;refine bodyPost_ret (v:=.tuple #[.agg #[.bool (sg (x+y)),.string (E (x+y).natAbs)],.int .i64 0]) ?_ rfl ⟨rfl,?_⟩
 ·simp[results,Tryz.results68,go_sem,hp,hr]
 ·exact ((bt (bt (bt (bt (bt (b3 _ _ _ _) hl) hm) hn) ho) ht).setCell (by simp;omega) _).setCell (by simp;omega) _
theorem riadd_c (hx:x.natAbs<256^128) (hy:y.natAbs<256^128) (hb:(x+y).natAbs<256^128) :
  Calls Tryz.prog 68 #[.agg #[.bool (sg (x)),.string (E (x).natAbs)],.agg #[.bool (sg (y)),.string (E (y).natAbs)]] w fun e w'=>e=.returned (.tuple #[.agg #[.bool (sg (x+y)),.string (E (x+y).natAbs)],.int .i64 0])∧Bw w w':=by
 by_cases hq:sg x=sg y
 ·exact riadd_same x y w hx hy hb hq
 ·rcases Nat.lt_or_ge x.natAbs y.natAbs with h | h
  ·exact riadd_lt x y w hx hy hq h
  ·exact riadd_ge x y w hx hy hq h
theorem riaddN_c (hx:x.natAbs<256^128) (hy:y.natAbs<256^128) (hd:(x-y).natAbs<256^128) :
  Calls Tryz.prog 68 #[.agg #[.bool (sg (x)),.string (E (x).natAbs)],.agg #[.bool (sg (-y)),.string (E y.natAbs)]] w fun e w'=>e=.returned (.tuple #[.agg #[.bool (sg (x-y)),.string (E (x-y).natAbs)],.int .i64 0])∧Bw w w':=by
 have:=riadd_c x (-y) w hx (by rw[Int.natAbs_neg];exact hy) (by rw[←Int.sub_eq_add_neg];exact hd);rwa [Int.natAbs_neg,←Int.sub_eq_add_neg]at this
theorem risub_c (hx:x.natAbs<256^128) (hy:y.natAbs<256^128) (hd:(x-y).natAbs<256^128) :
  Calls Tryz.prog 61 #[.agg #[.bool (sg (x)),.string (E (x).natAbs)],.agg #[.bool (sg (y)),.string (E (y).natAbs)]] w fun e w'=>e=.returned (.tuple #[.agg #[.bool (sg (x-y)),.string (E (x-y).natAbs)],.int .i64 0])∧Bw w w':=by
 have HX:=Kh hx;have HY:=Kh hy;have HD:=Kh hd;clear hx hy hd;have hA:=blk3a w #[Value.bool (sg x),Value.string (E x.natAbs)] #[Value.bool (sg y),Value.string (E y.natAbs)] #[Value.bool false,Value.string { data:=#[] }] 74 74 74;have hB:=blk3b w #[Value.bool (sg x),Value.string (E x.natAbs)] #[Value.bool (sg y),Value.string (E y.natAbs)] #[Value.bool false,Value.string { data:=#[] }] 74 74 74;have hC:=blk3c w #[Value.bool (sg x),Value.string (E x.natAbs)] #[Value.bool (sg y),Value.string (E y.natAbs)] #[Value.bool false,Value.string { data:=#[] }] 74 74 74;go_enter Tryz.func61,Tryz.ntmps61
 go_wp2_with fail
 refine (rivalidI_c x _ HX.out).mono ?_;rintro e w0 ⟨rfl,hk⟩;replace hA:=hA.after hk;replace hB:=hB.after hk;replace hC:=hC.after hk;obtain⟨hb,hc,he,hf⟩:=hA.x2;obtain⟨hg,hh,hi,hj⟩:=hB.x2;go_wp2_with fail
 refine (rivalidI_c y _ HY.out).mono ?_;rintro e w1 ⟨rfl,hl⟩;clear hb hc he hf;clear hg hh hi hj;replace hA:=hA.after hl;replace hB:=hB.after hl;replace hC:=hC.after hl;obtain⟨hb,hc,he,hf⟩:=hA.x2;obtain⟨hg,hh,hi,hj⟩:=hB.x2;obtain⟨hq,hr,ht,hu⟩:=hC.x2;go_wp2_with fail
 go_region_with (first | (go_at_call 157;refine (rinegS_c y _ HY.out).mono ?_;rintro e w2 ⟨rfl,hn⟩;have ho:=hA.drew.after hn;have hv:=hC.drew.after hn;have c0:=ho.cell 0;have c1:=ho.cell 1) | (go_at_call 68;refine (riaddN_c x y _ HX.out HY.out HD.out).mono ?_;rintro e w3 ⟨rfl,hp⟩;have hm:=hv.after hp;have d0:=hm.cell 0;have d1:=hm.cell 1;have g0:=hm.free 0;have g1:=hm.free 1))
 all_goals go_wp2
 all_goals
  refine bodyPost_ret (v:=.tuple #[.agg #[.bool (sg (x-y)),.string (E (x-y).natAbs)],.int .i64 0]) ?_ rfl ⟨rfl,?_⟩
  ·simp[results,Tryz.results61,go_sem,d0,d1]
  ·exact ((bt (bt (bt (bt (b3 _ _ _ _) hk) hl).drew hn) hp).setCell (by simp;omega) _).setCell (by simp;omega) _
end
end
end Go.Proofs.YtihjpddbjhcbmaaGreatDoor
