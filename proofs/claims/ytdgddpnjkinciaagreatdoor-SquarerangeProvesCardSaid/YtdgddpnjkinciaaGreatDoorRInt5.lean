import Derived.Test.YtdgddpnjkinciaaGreatDoorRInt1
import Derived.Test.YtdgddpnjkinciaaGreatDoorRinb
import Derived.Deep.RegionHeld3
import Derived.Deep.DeepCutAuto
set_option linter.all false
set_option maxRecDepth 100000
set_option maxHeartbeats 16000000
namespace Go.Proofs.YtdgddpnjkinciaaGreatDoor
section
open Go.RowKit
section
variable (x y:Int) (w:World)
theorem riadd_same (hx:x.natAbs<256^128) (hy:y.natAbs<256^128) (hf:(x+y).natAbs<256^128) (hq:sg x=sg y) :
  Calls Tryz.prog 221 #[.agg #[.bool (sg (x)),.string (E (x).natAbs)],.agg #[.bool (sg (y)),.string (E (y).natAbs)]] w fun e w'=>e=.returned (.tuple #[.agg #[.bool (sg (x+y)),.string (E (x+y).natAbs)],.int .i64 0])∧Bw w w':=by
 have HX:=Kh hx;have HY:=Kh hy;have HM:=Kh (add_made_same x y hq)
 have HS:Hid (x.natAbs+y.natAbs<256^128):=by
  rw[same_abs x y hq]at hf;exact hf
 have hs:=sz _ HS.out;have hu:(sg x==sg y)=true:=by rw[hq];simp
 clear hx hy hf hq;have hA:=blk3a w #[Value.bool (sg x),Value.string (E x.natAbs)] #[Value.bool (sg y),Value.string (E y.natAbs)] #[Value.bool false,Value.string { data:=#[] }] 28 28 28;have hB:=blk3b w #[Value.bool (sg x),Value.string (E x.natAbs)] #[Value.bool (sg y),Value.string (E y.natAbs)] #[Value.bool false,Value.string { data:=#[] }] 28 28 28;have hC:=blk3c w #[Value.bool (sg x),Value.string (E x.natAbs)] #[Value.bool (sg y),Value.string (E y.natAbs)] #[Value.bool false,Value.string { data:=#[] }] 28 28 28;go_enter Tryz.func221,Tryz.ntmps221
 go_wp2_with fail
 refine (rivalidI_c x _ HX.out).mono ?_;rintro e w0 ⟨rfl,hk⟩;replace hA:=hA.after hk;replace hB:=hB.after hk;replace hC:=hC.after hk;obtain⟨hb,hc,hd,he⟩:=hA.x2;obtain⟨hg,hh,hi,hj⟩:=hB.x2;go_wp2_with fail
 refine (rivalidI_c y _ HY.out).mono ?_;rintro e w1 ⟨rfl,hl⟩;clear hb hc hd he;clear hg hh hi hj;replace hA:=hA.after hl;replace hB:=hB.after hl;replace hC:=hC.after hl;obtain⟨hb,hc,hd,he⟩:=hA.x2;obtain⟨hg,hh,hi,hj⟩:=hB.x2;go_wp2_with fail
 refine (radd_c x.natAbs y.natAbs _ HX.out HY.out HS.out).mono ?_;rintro e w2 ⟨rfl,hm⟩;clear hb hc hd he;clear hg hh hi hj;replace hA:=hA.after hm;replace hC:=hC.after hm;obtain⟨hb,hc,hd,he⟩:=hA.x2;go_wp2_with fail
 refine (rmake_c (sg x) (x.natAbs+y.natAbs) (x+y) _ (by omega) HM.out).mono ?_;rintro e w3 ⟨rfl,hp⟩;clear hb hc hd he;replace hC:=hC.after hp;obtain⟨hn,hr,ho,ht⟩:=hC.x2;go_wp2;refine bodyPost_ret (v:=.tuple #[.agg #[.bool (sg (x+y)),.string (E (x+y).natAbs)],.int .i64 0]) ?_ rfl ⟨rfl,?_⟩
 ·simp[results,Tryz.results221,go_sem,hn,ho]
 ·exact ((bt (bt (bt (bt (b3 _ _ _ _) hk) hl) hm) hp).setCell (by simp;omega) _).setCell (by simp;omega) _
theorem riadd_ge (hx:x.natAbs<256^128) (hy:y.natAbs<256^128) (hq:sg x≠sg y) (hg:y.natAbs≤x.natAbs) :
  Calls Tryz.prog 221 #[.agg #[.bool (sg (x)),.string (E (x).natAbs)],.agg #[.bool (sg (y)),.string (E (y).natAbs)]] w fun e w'=>e=.returned (.tuple #[.agg #[.bool (sg (x+y)),.string (E (x+y).natAbs)],.int .i64 0])∧Bw w w':=by
 have HX:=Kh hx;have HY:=Kh hy;have HG:=Kh hg;have HM:=Kh (add_made_ge x y hq hg);have hs:(E (x.natAbs-y.natAbs)).size≤128:=sz _ (by omega);have hw:(sg x==sg y)=false:=by rw[beq_eq_false_iff_ne];exact hq
 have hc:=cmp_nneg x.natAbs y.natAbs hg;clear hx hy hq hg;have hA:=blk3a w #[Value.bool (sg x),Value.string (E x.natAbs)] #[Value.bool (sg y),Value.string (E y.natAbs)] #[Value.bool false,Value.string { data:=#[] }] 28 28 28;have hB:=blk3b w #[Value.bool (sg x),Value.string (E x.natAbs)] #[Value.bool (sg y),Value.string (E y.natAbs)] #[Value.bool false,Value.string { data:=#[] }] 28 28 28;have hC:=blk3c w #[Value.bool (sg x),Value.string (E x.natAbs)] #[Value.bool (sg y),Value.string (E y.natAbs)] #[Value.bool false,Value.string { data:=#[] }] 28 28 28;go_enter Tryz.func221,Tryz.ntmps221
 go_wp2_with fail
 refine (rivalidI_c x _ HX.out).mono ?_;rintro e w0 ⟨rfl,hl⟩;replace hA:=hA.after hl;replace hB:=hB.after hl;replace hC:=hC.after hl;obtain⟨hb,hd,he,hf⟩:=hA.x2;obtain⟨hh,hi,hj,hk⟩:=hB.x2;go_wp2_with fail
 refine (rivalidI_c y _ HY.out).mono ?_;rintro e w1 ⟨rfl,hm⟩;clear hb hd he hf;clear hh hi hj hk;replace hA:=hA.after hm;replace hB:=hB.after hm;replace hC:=hC.after hm;obtain⟨hb,hd,he,hf⟩:=hA.x2;obtain⟨hh,hi,hj,hk⟩:=hB.x2;go_wp2_with fail
 refine (rcmp_c x.natAbs y.natAbs _ HX.out HY.out).mono ?_;rintro e wc ⟨rfl,hn⟩;clear hb hd he hf;clear hh hi hj hk;replace hA:=hA.after hn;replace hB:=hB.after hn;replace hC:=hC.after hn;obtain⟨hb,hd,he,hf⟩:=hA.x2;obtain⟨hh,hi,hj,hk⟩:=hB.x2;go_wp2_with fail
 refine (rsub_c x.natAbs y.natAbs _ HX.out HG.out).mono ?_;rintro e w2 ⟨rfl,ho⟩;clear hb hd he hf;clear hh hi hj hk;replace hA:=hA.after ho;replace hC:=hC.after ho;obtain⟨hb,hd,he,hf⟩:=hA.x2;go_wp2_with fail
 refine (rmake_c (sg x) (x.natAbs-y.natAbs) (x+y) _ (by omega) HM.out).mono ?_;rintro e w3 ⟨rfl,ht⟩;clear hb hd he hf;replace hC:=hC.after ht;obtain⟨hp,hu,hr,hv⟩:=hC.x2;go_wp2;refine bodyPost_ret (v:=.tuple #[.agg #[.bool (sg (x+y)),.string (E (x+y).natAbs)],.int .i64 0]) ?_ rfl ⟨rfl,?_⟩
 ·simp[results,Tryz.results221,go_sem,hp,hr]
 ·exact ((bt (bt (bt (bt (bt (b3 _ _ _ _) hl) hm) hn) ho) ht).setCell (by simp;omega) _).setCell (by simp;omega) _
theorem riadd_lt (hx:x.natAbs<256^128) (hy:y.natAbs<256^128) (hq:sg x≠sg y) (hg:x.natAbs<y.natAbs) :
  Calls Tryz.prog 221 #[.agg #[.bool (sg (x)),.string (E (x).natAbs)],.agg #[.bool (sg (y)),.string (E (y).natAbs)]] w fun e w'=>e=.returned (.tuple #[.agg #[.bool (sg (x+y)),.string (E (x+y).natAbs)],.int .i64 0])∧Bw w w':=by
 have HX:=Kh hx;have HY:=Kh hy;have HG:=Kh hg;have HM:=Kh (add_made_lt x y hq hg);have hs:(E (y.natAbs-x.natAbs)).size≤128:=sz _ (by omega);have hw:(sg x==sg y)=false:=by rw[beq_eq_false_iff_ne];exact hq
 have hc:=cmp_neg x.natAbs y.natAbs hg;clear hx hy hq hg;have hA:=blk3a w #[Value.bool (sg x),Value.string (E x.natAbs)] #[Value.bool (sg y),Value.string (E y.natAbs)] #[Value.bool false,Value.string { data:=#[] }] 28 28 28;have hB:=blk3b w #[Value.bool (sg x),Value.string (E x.natAbs)] #[Value.bool (sg y),Value.string (E y.natAbs)] #[Value.bool false,Value.string { data:=#[] }] 28 28 28;have hC:=blk3c w #[Value.bool (sg x),Value.string (E x.natAbs)] #[Value.bool (sg y),Value.string (E y.natAbs)] #[Value.bool false,Value.string { data:=#[] }] 28 28 28;go_enter Tryz.func221,Tryz.ntmps221
 go_wp2_with fail
 refine (rivalidI_c x _ HX.out).mono ?_;rintro e w0 ⟨rfl,hl⟩;replace hA:=hA.after hl;replace hB:=hB.after hl;replace hC:=hC.after hl;obtain⟨hh,hi,hj,hk⟩:=hA.x2;obtain⟨hb,hd,he,hf⟩:=hB.x2;go_wp2_with fail
 refine (rivalidI_c y _ HY.out).mono ?_;rintro e w1 ⟨rfl,hm⟩;clear hh hi hj hk;clear hb hd he hf;replace hA:=hA.after hm;replace hB:=hB.after hm;replace hC:=hC.after hm;obtain⟨hh,hi,hj,hk⟩:=hA.x2;obtain⟨hb,hd,he,hf⟩:=hB.x2;go_wp2_with fail
 refine (rcmp_c x.natAbs y.natAbs _ HX.out HY.out).mono ?_;rintro e wc ⟨rfl,hn⟩;clear hh hi hj hk;clear hb hd he hf;replace hA:=hA.after hn;replace hB:=hB.after hn;replace hC:=hC.after hn;obtain⟨hh,hi,hj,hk⟩:=hA.x2;obtain⟨hb,hd,he,hf⟩:=hB.x2;go_wp2_with fail
 refine (rsub_c y.natAbs x.natAbs _ HY.out (Nat.le_of_lt HG.out)).mono ?_;rintro e w2 ⟨rfl,ho⟩;clear hh hi hj hk;clear hb hd he hf;replace hB:=hB.after ho;replace hC:=hC.after ho;obtain⟨hb,hd,he,hf⟩:=hB.x2;go_wp2_with fail
 refine (rmake_c (sg y) (y.natAbs-x.natAbs) (x+y) _ (by omega) HM.out).mono ?_;rintro e w3 ⟨rfl,ht⟩;clear hb hd he hf;replace hC:=hC.after ht;obtain⟨hp,hu,hr,hv⟩:=hC.x2;go_wp2;refine bodyPost_ret (v:=.tuple #[.agg #[.bool (sg (x+y)),.string (E (x+y).natAbs)],.int .i64 0]) ?_ rfl ⟨rfl,?_⟩
 ·simp[results,Tryz.results221,go_sem,hp,hr]
 ·exact ((bt (bt (bt (bt (bt (b3 _ _ _ _) hl) hm) hn) ho) ht).setCell (by simp;omega) _).setCell (by simp;omega) _
theorem riadd_c (hx:x.natAbs<256^128) (hy:y.natAbs<256^128) (hb:(x+y).natAbs<256^128) :
  Calls Tryz.prog 221 #[.agg #[.bool (sg (x)),.string (E (x).natAbs)],.agg #[.bool (sg (y)),.string (E (y).natAbs)]] w fun e w'=>e=.returned (.tuple #[.agg #[.bool (sg (x+y)),.string (E (x+y).natAbs)],.int .i64 0])∧Bw w w':=by
 by_cases hq:sg x=sg y
 ·exact riadd_same x y w hx hy hb hq
 ·rcases Nat.lt_or_ge x.natAbs y.natAbs with h | h
  ·exact riadd_lt x y w hx hy hq h
  ·exact riadd_ge x y w hx hy hq h
theorem riaddN_c (hx:x.natAbs<256^128) (hy:y.natAbs<256^128) (hd:(x-y).natAbs<256^128) :
  Calls Tryz.prog 221 #[.agg #[.bool (sg (x)),.string (E (x).natAbs)],.agg #[.bool (sg (-y)),.string (E y.natAbs)]] w fun e w'=>e=.returned (.tuple #[.agg #[.bool (sg (x-y)),.string (E (x-y).natAbs)],.int .i64 0])∧Bw w w':=by
 have:=riadd_c x (-y) w hx (by rw[Int.natAbs_neg];exact hy) (by rw[←Int.sub_eq_add_neg];exact hd);rwa [Int.natAbs_neg,←Int.sub_eq_add_neg]at this
theorem risub_c (hx:x.natAbs<256^128) (hy:y.natAbs<256^128) (hd:(x-y).natAbs<256^128) :
  Calls Tryz.prog 226 #[.agg #[.bool (sg (x)),.string (E (x).natAbs)],.agg #[.bool (sg (y)),.string (E (y).natAbs)]] w fun e w'=>e=.returned (.tuple #[.agg #[.bool (sg (x-y)),.string (E (x-y).natAbs)],.int .i64 0])∧Bw w w':=by
 have HX:=Kh hx;have HY:=Kh hy;have HD:=Kh hd;clear hx hy hd;have hA:=blk3a w #[Value.bool (sg x),Value.string (E x.natAbs)] #[Value.bool (sg y),Value.string (E y.natAbs)] #[Value.bool false,Value.string { data:=#[] }] 28 28 28;have hB:=blk3b w #[Value.bool (sg x),Value.string (E x.natAbs)] #[Value.bool (sg y),Value.string (E y.natAbs)] #[Value.bool false,Value.string { data:=#[] }] 28 28 28;have hC:=blk3c w #[Value.bool (sg x),Value.string (E x.natAbs)] #[Value.bool (sg y),Value.string (E y.natAbs)] #[Value.bool false,Value.string { data:=#[] }] 28 28 28;go_enter Tryz.func226,Tryz.ntmps226
 go_wp2_with fail
 refine (rivalidI_c x _ HX.out).mono ?_;rintro e w0 ⟨rfl,hk⟩;replace hA:=hA.after hk;replace hB:=hB.after hk;replace hC:=hC.after hk;obtain⟨hb,hc,he,hf⟩:=hA.x2;obtain⟨hg,hh,hi,hj⟩:=hB.x2;go_wp2_with fail
 refine (rivalidI_c y _ HY.out).mono ?_;rintro e w1 ⟨rfl,hl⟩;clear hb hc he hf;clear hg hh hi hj;replace hA:=hA.after hl;replace hB:=hB.after hl;replace hC:=hC.after hl;obtain⟨hb,hc,he,hf⟩:=hA.x2;obtain⟨hg,hh,hi,hj⟩:=hB.x2;obtain⟨hq,hr,ht,hu⟩:=hC.x2;go_wp2_with fail
 go_region_with (first | (go_at_call 236;refine (rinegS_c y _ HY.out).mono ?_;rintro e w2 ⟨rfl,hn⟩;have ho:=hA.drew.after hn;have hv:=hC.drew.after hn;have c0:=ho.cell 0;have c1:=ho.cell 1) | (go_at_call 221;refine (riaddN_c x y _ HX.out HY.out HD.out).mono ?_;rintro e w3 ⟨rfl,hp⟩;have hm:=hv.after hp;have d0:=hm.cell 0;have d1:=hm.cell 1;have g0:=hm.free 0;have g1:=hm.free 1))
 all_goals go_wp2
 all_goals
  refine bodyPost_ret (v:=.tuple #[.agg #[.bool (sg (x-y)),.string (E (x-y).natAbs)],.int .i64 0]) ?_ rfl ⟨rfl,?_⟩
  ·simp[results,Tryz.results226,go_sem,d0,d1]
  ·exact ((bt (bt (bt (bt (b3 _ _ _ _) hk) hl).drew hn) hp).setCell (by simp;omega) _).setCell (by simp;omega) _
end
end
section
open Go.RowKit
theorem rivalidT_c (b:Bool) (n:Nat) (w:World) (hn:n<256^128) (h:ivB b (E n)=true) :
  Calls Tryz.prog 44 #[.agg #[.bool b,.string (E n)]] w fun e w'=>e=.returned (.bool true)∧Bw w w':=by
 have:=rivalid_c b (E n) w (by have:=sz n hn;omega);rw[h]at this;exact this
theorem ivB_false (n:Nat) (h:n<256^128):ivB false (E n)=true:=by
 unfold ivB;rw[vldB_E n h];rfl
theorem fits_div (n m:Nat) (hn:n<256^128) (h0:0<m) (hr:n%m≠0):n / m+1<256^128:=by
 have h1:m≠1:=by intro e;subst e;simp[Nat.mod_one]at hr
 have h2:0<n:=by
  rcases Nat.eq_zero_or_pos n with h | h
  ·subst h;simp at hr
  ·exact h
 have h3:n / m<n:=Nat.div_lt_self h2 (by omega);omega
def qAbs (b:Bool) (n m:Nat):Nat:=if b=true∧n%m≠0 then n / m+1 else n / m
def rAbs (b:Bool) (n m:Nat):Nat:=if b=true∧n%m≠0 then m-n%m else n%m
theorem ridivmod_aux (b:Bool) (n m:Nat) (z:Int) (w:World) (hn:n<256^128) (hm:m<256^128) (h0:0<m) (hv:ivB b (E n)=true) (q r:Nat) (hq:q=qAbs b n m) (hr:r=rAbs b n m) (hz:z=if b then -(q:Int) else (q:Int)) :
  Calls Tryz.prog 219 #[.agg #[.bool b,.string (E n)],.agg #[.bool false,.string (E m)]] w fun e w'=>e=.returned (.tuple #[.agg #[.bool (sg (z)),.string (E (z).natAbs)],.string (E r),.int .i64 0])∧Bw w w':=by
 have HN:=Kh hn;have HM:=Kh hm;have H0:=Kh h0;have HV:=Kh hv;have hD:=Kh (ivB_false m hm);have hK:=nzE h0;have hG:=Kh (Nat.mod_lt n h0);have hH:(E (n / m)).size≤128:=sz _ (Nat.lt_of_le_of_lt (Nat.div_le_self _ _) hn);have hA:=blk3a w #[Value.bool b,Value.string (E n)] #[Value.bool false,Value.string (E m)] #[Value.bool false,Value.string { data:=#[] }] 28 28 28;have hB:=blk3b w #[Value.bool b,Value.string (E n)] #[Value.bool false,Value.string (E m)] #[Value.bool false,Value.string { data:=#[] }] 28 28 28;have hC:=blk3c w #[Value.bool b,Value.string (E n)] #[Value.bool false,Value.string (E m)] #[Value.bool false,Value.string { data:=#[] }] 28 28 28;clear hn hm h0 hv;cases b
 ·have HR:Hid (r=n%m):=by rw[Hid,hr];simp[rAbs]
  have HQ:Hid (q=n / m):=by rw[Hid,hq];simp[qAbs]
  have HZ:Hid (z=if false then -((n / m:Nat):Int) else ((n / m:Nat):Int)):=by rw[Hid,hz,←HQ.out]
  clear hr hq hz;go_enter Tryz.func219,Tryz.ntmps219
  go_wp2_with fail
  refine (rivalidT_c false n _ HN.out HV.out).mono ?_;rintro e w0 ⟨rfl,hj⟩;replace hA:=hA.after hj;replace hB:=hB.after hj;replace hC:=hC.after hj;obtain⟨hb,hc,hd,he⟩:=hA.x2;obtain⟨hf,hg,hh,hi⟩:=hB.x2;go_wp2_with fail
  refine (rivalidT_c false m _ HM.out hD.out).mono ?_;rintro e w1 ⟨rfl,hk⟩;clear hb hc hd he;clear hf hg hh hi;replace hA:=hA.after hk;replace hB:=hB.after hk;replace hC:=hC.after hk;obtain⟨hb,hc,hd,he⟩:=hA.x2;obtain⟨hf,hg,hh,hi⟩:=hB.x2;go_wp2_with fail
  refine (rdivmod_c n m _ HN.out HM.out H0.out).mono ?_;rintro e w2 ⟨rfl,hl⟩;clear hb hc hd he;clear hf hg hh hi;replace hA:=hA.after hl;replace hB:=hB.after hl;replace hC:=hC.after hl;obtain⟨hb,hc,hd,he⟩:=hA.x2;obtain⟨hf,hg,hh,hi⟩:=hB.x2;go_wp2_with fail
  refine (rmake_c false (n / m) z _ (by omega) HZ.out).mono ?_;rintro e w3 ⟨rfl,ht⟩;clear hb hc hd he;clear hf hg hh hi;replace hC:=hC.after ht;obtain⟨ho,hw,hp,hx⟩:=hC.x2;go_wp2;refine bodyPost_ret (v:=.tuple #[.agg #[.bool (sg (z)),.string (E (z).natAbs)],.string (E r),.int .i64 0]) ?_ rfl ⟨rfl,?_⟩
  ·rw[HR.out];simp[results,Tryz.results219,go_sem,ho,hp]
  ·exact ((bt (bt (bt (bt (b3 _ _ _ _) hj) hk) hl) ht).setCell (by simp;omega) _).setCell (by simp;omega) _
 ·by_cases hu:n%m=0
  ·have HR:Hid (r=n%m):=by rw[Hid,hr];simp[rAbs,hu]
   have HQ:Hid (q=n / m):=by rw[Hid,hq];simp[qAbs,hu]
   have HZ:Hid (z=if true then -((n / m:Nat):Int) else ((n / m:Nat):Int)):=by rw[Hid,hz,←HQ.out]
   have hI:=zE hu;clear hr hq hz hu;go_enter Tryz.func219,Tryz.ntmps219
   go_wp2_with fail
   refine (rivalidT_c true n _ HN.out HV.out).mono ?_;rintro e w0 ⟨rfl,hj⟩;replace hA:=hA.after hj;replace hB:=hB.after hj;replace hC:=hC.after hj;obtain⟨hb,hc,hd,he⟩:=hA.x2;obtain⟨hf,hg,hh,hi⟩:=hB.x2;go_wp2_with fail
   refine (rivalidT_c false m _ HM.out hD.out).mono ?_;rintro e w1 ⟨rfl,hk⟩;clear hb hc hd he;clear hf hg hh hi;replace hA:=hA.after hk;replace hB:=hB.after hk;replace hC:=hC.after hk;obtain⟨hb,hc,hd,he⟩:=hA.x2;obtain⟨hf,hg,hh,hi⟩:=hB.x2;go_wp2_with fail
   refine (rdivmod_c n m _ HN.out HM.out H0.out).mono ?_;rintro e w2 ⟨rfl,hl⟩;clear hb hc hd he;clear hf hg hh hi;replace hA:=hA.after hl;replace hB:=hB.after hl;replace hC:=hC.after hl;obtain⟨hb,hc,hd,he⟩:=hA.x2;obtain⟨hf,hg,hh,hi⟩:=hB.x2;go_wp2_with fail
   refine (rmake_c true (n / m) z _ (by omega) HZ.out).mono ?_;rintro e w3 ⟨rfl,ht⟩;clear hb hc hd he;clear hf hg hh hi;replace hC:=hC.after ht;obtain⟨ho,hw,hp,hx⟩:=hC.x2;go_wp2;refine bodyPost_ret (v:=.tuple #[.agg #[.bool (sg (z)),.string (E (z).natAbs)],.string (E r),.int .i64 0]) ?_ rfl ⟨rfl,?_⟩
   ·rw[HR.out];simp[results,Tryz.results219,go_sem,ho,hp]
   ·exact ((bt (bt (bt (bt (b3 _ _ _ _) hj) hk) hl) ht).setCell (by simp;omega) _).setCell (by simp;omega) _
  ·have HR:Hid (r=m-n%m):=by rw[Hid,hr];simp[rAbs,hu]
   have HQ:Hid (q=n / m+1):=by rw[Hid,hq];simp[qAbs,hu]
   have HZ:Hid (z=if true then -((n / m+1:Nat):Int) else ((n / m+1:Nat):Int)):=by rw[Hid,hz,←HQ.out]
   have hI:=nzE (Nat.pos_of_ne_zero hu);have HF:=Kh (fits_div n m HN.out H0.out hu);have hE:(E (n / m+1)).size≤128:=sz _ HF.out;have hJ:=Kh (Nat.lt_of_le_of_lt (Nat.div_le_self n m) HN.out);clear hr hq hz hu;go_enter Tryz.func219,Tryz.ntmps219
   go_wp2_with fail
   refine (rivalidT_c true n _ HN.out HV.out).mono ?_;rintro e w0 ⟨rfl,hj⟩;replace hA:=hA.after hj;replace hB:=hB.after hj;replace hC:=hC.after hj;obtain⟨hb,hc,hd,he⟩:=hA.x2;obtain⟨hf,hg,hh,hi⟩:=hB.x2;go_wp2_with fail
   refine (rivalidT_c false m _ HM.out hD.out).mono ?_;rintro e w1 ⟨rfl,hk⟩;clear hb hc hd he;clear hf hg hh hi;replace hA:=hA.after hk;replace hB:=hB.after hk;replace hC:=hC.after hk;obtain⟨hb,hc,hd,he⟩:=hA.x2;obtain⟨hf,hg,hh,hi⟩:=hB.x2;go_wp2_with fail
   refine (rdivmod_c n m _ HN.out HM.out H0.out).mono ?_;rintro e w2 ⟨rfl,hl⟩;clear hb hc hd he;clear hf hg hh hi;replace hA:=hA.after hl;replace hB:=hB.after hl;replace hC:=hC.after hl;obtain⟨hb,hc,hd,he⟩:=hA.x2;obtain⟨hf,hg,hh,hi⟩:=hB.x2;go_wp2_with fail
   have hof:Calls Tryz.prog 28 #[.int .u64 1] w2 fun e w'=>e=.returned (.string (E 1))∧Bw w2 w':=rof_c 1 w2 (by decide)
   refine hof.mono ?_;clear hof;rintro e w3 ⟨rfl,ht⟩;clear hb hc hd he;clear hf hg hh hi;replace hA:=hA.after ht;replace hB:=hB.after ht;replace hC:=hC.after ht;obtain⟨hb,hc,hd,he⟩:=hA.x2;obtain⟨hf,hg,hh,hi⟩:=hB.x2;go_wp2_with fail
   refine (radd_c (n / m) 1 _ hJ.out (by decide) HF.out).mono ?_;rintro e w4 ⟨rfl,hb4⟩;clear hb hc hd he;clear hf hg hh hi;replace hA:=hA.after hb4;replace hB:=hB.after hb4;replace hC:=hC.after hb4;obtain⟨hb,hc,hd,he⟩:=hA.x2;obtain⟨hf,hg,hh,hi⟩:=hB.x2;go_wp2_with fail
   refine (rsub_c m (n%m) _ HM.out (Nat.le_of_lt hG.out)).mono ?_;rintro e w5 ⟨rfl,hy⟩;clear hb hc hd he;clear hf hg hh hi;replace hA:=hA.after hy;replace hB:=hB.after hy;replace hC:=hC.after hy;obtain⟨hb,hc,hd,he⟩:=hA.x2;obtain⟨hf,hg,hh,hi⟩:=hB.x2;go_wp2_with fail
   refine (rmake_c true (n / m+1) z _ (by omega) HZ.out).mono ?_;rintro e w6 ⟨rfl,hF⟩;clear hb hc hd he;clear hf hg hh hi;replace hC:=hC.after hF;obtain⟨ho,hw,hp,hx⟩:=hC.x2;go_wp2;refine bodyPost_ret (v:=.tuple #[.agg #[.bool (sg (z)),.string (E (z).natAbs)],.string (E r),.int .i64 0]) ?_ rfl ⟨rfl,?_⟩
   ·rw[HR.out];simp[results,Tryz.results219,go_sem,ho,hp]
   ·exact ((bt (bt (bt (bt (bt (bt (bt (b3 _ _ _ _) hj) hk) hl) ht) hb4) hy) hF).setCell (by simp;omega) _).setCell (by simp;omega) _
theorem ediv_if (z:Int) (m:Nat) (hm:0<m):z / (m:Int)=if sg z then -(qAbs (sg z) z.natAbs m:Int) else (qAbs (sg z) z.natAbs m:Int):=by
 have hd:=Int.mul_ediv_add_emod z (m:Int);have hb:(0:Int)<(m:Int):=by omega
 have he:=Int.emod_nonneg z (Int.ne_of_gt hb);have hf:=Int.emod_lt_of_pos z hb;by_cases h:z<0
 ·rw[sg_of_neg h];simp only[if_true];unfold qAbs;have hn:=Nat.div_add_mod z.natAbs m;have hc:=Nat.mod_lt z.natAbs hm;have hE:=emod_if z m hm;rw[sg_of_neg h]at hE;by_cases hr:z.natAbs%m=0
  ·rw[if_neg (fun h=>h.2 hr)]at hE ⊢;rw[hr]at hE hn;have e0:z%(m:Int)=0:=by omega
   rw[e0,Int.add_zero]at hd
   have e1:(m:Int)*(z / (m:Int))=(m:Int)*(-((z.natAbs / m:Nat):Int)):=by
    rw[hd,Int.mul_neg];omega
   exact Int.eq_of_mul_eq_mul_left (Int.ne_of_gt hb) e1
  ·rw[if_pos ⟨rfl,hr⟩]at hE ⊢;have e0:z%(m:Int)=((m-z.natAbs%m:Nat):Int):=by omega
   have e1:(m:Int)*(z / (m:Int))=(m:Int)*(-((z.natAbs / m+1:Nat):Int)):=by
    rw[Int.mul_neg,Int.natCast_add,Int.mul_add];simp only[Int.natCast_one,Int.mul_one];have:(m:Int)*((z.natAbs / m:Nat):Int)=((m*(z.natAbs / m):Nat):Int):=by rw[Int.natCast_mul]
    omega
   exact Int.eq_of_mul_eq_mul_left (Int.ne_of_gt hb) e1
 ·rw[sg_of_nonneg (by omega)];simp only[Bool.false_eq_true,if_false];unfold qAbs;rw[if_neg (fun h=>Bool.noConfusion h.1)];have e:z=(z.natAbs:Int):=by omega
  conv=>lhs;rw[e]
  rw[Int.natCast_ediv]
theorem ridivmod_c (z:Int) (m:Nat) (w:World) (hz:z.natAbs<256^128) (hm:m<256^128) (h0:0<m) :
  Calls Tryz.prog 219 #[.agg #[.bool (sg (z)),.string (E (z).natAbs)],.agg #[.bool (sg (m:Int)),.string (E m)]] w fun e w'=>e=.returned (.tuple #[.agg #[.bool (sg (z / (m:Int))),.string (E (z / (m:Int)).natAbs)],.string (E (z%(m:Int)).toNat),.int .i64 0])∧Bw w w':=by
 rw[sg_nat m];exact ridivmod_aux (sg z) z.natAbs m _ w hz hm h0 (ivB_I z hz) _ _ rfl (by rw[emod_if z m h0];rfl) (ediv_if z m h0)
theorem rifromS_c (n:Nat) (w:World) (hn:n<256^128) :
  Calls Tryz.prog 220 #[.string (E n)] w fun e w'=>e=.returned (.agg #[.bool (sg (n:Int)),.string (E n)])∧Bw w w':=by
 have:=rifrom_c n w hn;rwa [Int.natAbs_natCast]at this
theorem rimod_c (z:Int) (m:Nat) (w:World) (hz:z.natAbs<256^128) (hm:m<256^128) (h0:0<m) :
  Calls Tryz.prog 210 #[.agg #[.bool (sg (z)),.string (E (z).natAbs)],.string (E m)] w fun e w'=>e=.returned (.tuple #[.string (E (z%(m:Int)).toNat),.int .i64 0])∧Bw w w':=by
 have HZ:=Kh hz;have HM:=Kh hm;have H0:=Kh h0;have hA:=Blk.new w #[Value.bool (sg z),Value.string (E z.natAbs)] 28;clear hz hm h0;go_enter Tryz.func210,Tryz.ntmps210
 go_wp2_with fail
 refine (rivalidI_c z _ HZ.out).mono ?_;rintro e w0 ⟨rfl,hd⟩;replace hA:=hA.after hd;obtain⟨he,hf,hg,hh⟩:=hA.x2;go_wp2_with fail
 refine (rvalidE_c m _ HM.out).mono ?_;rintro e w' ⟨rfl,rfl⟩;go_wp2_with fail
 have hi:w.heap.size<w0.heap.size:=hA.lt;go_region_with (first | (go_at_call 220;refine (rifromS_c m _ HM.out).mono ?_;rintro e wf ⟨rfl,hb⟩;have hc:Blk wf w.heap.size 28 [Value.bool (sg z),Value.string (E z.natAbs)]:=(by first | exact hA.drew.after hb | exact (hA.alloc _).drew.after hb);have af0:=hc.cell 0;have af1:=hc.cell 1;have hj:w.heap.size<wf.heap.size:=hc.lt) | (go_at_call 219;refine (ridivmod_c z m _ HZ.out HM.out H0.out).mono ?_;rintro e wd ⟨rfl,hbd⟩;have hld:w.heap.size<wd.heap.size:=(by have h5:=hbd.size;(try simp at h5);omega);(try (have kA:=((Blk.new w0 #[Value.bool false,Value.string { data:=#[] }] 28).drew.after hb).after hbd;have kA0:=kA.cell 0;have kA1:=kA.cell 1;have kA2:=kA.free 0;have kA3:=kA.free 1));(try (have kB:=(Blk.new wf #[Value.bool false,Value.string { data:=#[] }] 28).after hbd;have kB0:=kB.cell 0;have kB1:=kB.cell 1;have kB2:=kB.free 0;have kB3:=kB.free 1))))
 all_goals go_wp2
 all_goals
  go_ret2
  refine⟨rfl,?_⟩;repeat (first | exact bt (b1 _ _) hd | (refine ba ?_ _) | (refine Below.setCell ?_ (by first | omega | (dsimp only;omega) | (simp;omega) | simp) _) | (refine Below.drew ?_) | (refine bt ?_ hbd) | (refine bt ?_ hb))
end
section
open Go.RowKit
def bz:Nat→Nat→Nat→Int × Int
 | 0,_,_=>(1,0)
 | f+1,a,b=>if b=0 then (1,0) else ((bz f b (a%b)).2,(bz f b (a%b)).1-((a / b:Nat):Int)*(bz f b (a%b)).2)
theorem bz_zero (f a:Nat):bz f a 0=(1,0):=by cases f <;> simp[bz]
theorem bz_spec (f:Nat):∀a b:Nat,b≤f→(a:Int)*(bz f a b).1+(b:Int)*(bz f a b).2=(Nat.gcd a b:Int)∧(bz f a b).1.natAbs≤max 1 b∧(bz f a b).2.natAbs≤max 1 a:=by
 induction f with
 | zero =>
  intro a b hb;obtain rfl:b=0:=by omega
  simp[bz]
 | succ f ih =>
  intro a b hb;by_cases h0:b=0
  ·subst h0;simp[bz]
  ·have hr:=Nat.mod_lt a (show 0<b by omega);obtain⟨h1,h2,h3⟩:=ih b (a%b) (by omega);have hd:=Nat.div_add_mod a b;simp only[bz,if_neg h0];have hg:Nat.gcd a b=Nat.gcd b (a%b):=by rw[Nat.gcd_comm a b,Nat.gcd_rec b a,Nat.gcd_comm]
   have hz:a%b=0→bz f b (a%b)=(1,0):=fun h=>by rw[h];exact bz_zero f b
   generalize bz f b (a%b)=p at *;obtain⟨x,y⟩:=p;simp only at *;refine⟨?_,by omega,?_⟩
   ·rw[hg,←h1]
    have e:(a:Int)=(b:Int)*((a / b:Nat):Int)+((a%b:Nat):Int):=by
     rw[←Int.natCast_mul];omega
    rw[Int.mul_sub,Int.sub_eq_add_neg]
    have e2:(a:Int)*y=(b:Int)*(((a / b:Nat):Int)*y)+((a%b:Nat):Int)*y:=by
     conv=>lhs;rw[e]
     rw[Int.add_mul,Int.mul_assoc]
    omega
   ·rcases Nat.eq_zero_or_pos (a%b) with hc | hc
    ·have:=hz hc;simp only[Prod.mk.injEq]at this;rw[this.1,this.2];simp;omega
    ·have he:y.natAbs≤b:=by omega
     have hx1:x.natAbs≤a%b:=by omega
     have hq:(((a / b:Nat):Int)*y).natAbs≤a / b*b:=by
      rw[Int.natAbs_mul,Int.natAbs_natCast];exact Nat.mul_le_mul_left _ he
     have:a / b*b+a%b=a:=by rw[Nat.mul_comm];exact hd
     omega
theorem bz_prod (f a b:Nat) (hb:b≤f+1) (h0:b≠0):a / b*(bz f b (a%b)).2.natAbs≤a:=by
 have hr:=Nat.mod_lt a (show 0<b by omega);have h3:=(bz_spec f b (a%b) (by omega)).2.2;have hc:(bz f b (a%b)).2.natAbs≤b:=by omega
 exact Nat.le_trans (Nat.mul_le_mul_left _ hc) (Nat.div_mul_le_self a b)
structure Boxes (w:World) (bx by':Nat) (x y:Int) (wx:World):Prop where
 r1:Blk wx w.heap.size 28 [Value.bool false,Value.string { data:=#[] }]
 r2:Blk wx (w.heap.size+1) 28 [Value.bool false,Value.string { data:=#[] }]
 x:Blk wx bx 28 [Value.bool (sg x),Value.string (E x.natAbs)]
 y:Blk wx by' 28 [Value.bool (sg y),Value.string (E y.natAbs)]
 below:Bw w wx
theorem Boxes.after {w wx wy:World} {bx b2:Nat} {x y:Int} (h:Boxes w bx b2 x y wx) (hb:Bw wx wy):Boxes w bx b2 x y wy:=
 ⟨h.r1.after hb,h.r2.after hb,h.x.after hb,h.y.after hb,bt h.below hb⟩
theorem Boxes.drew {w wx:World} {bx b2:Nat} {x y:Int} (h:Boxes w bx b2 x y wx):Boxes w bx b2 x y wx.drew:=
 ⟨h.r1.drew,h.r2.drew,h.x.drew,h.y.drew,h.below.drew⟩
theorem Boxes.alloc {w wx:World} {bx b2:Nat} {x y:Int} (h:Boxes w bx b2 x y wx) (o:Obj):Boxes w bx b2 x y (wx.alloc o):=
 h.after (b1 _ _)
theorem Boxes.set {w wx:World} {bx b2:Nat} {x y:Int} (h:Boxes w bx b2 x y wx) (g j:Nat) (v:Value) (h1:w.heap.size+1<g) (h2:bx≠g) (h3:b2≠g):Boxes w bx b2 x y (wx.setCell ⟨g,j,none⟩ v):=
 ⟨h.r1.other _ _ (by simp;omega),h.r2.other _ _ (by simp;omega),h.x.other _ _ h2,h.y.other _ _ h3,h.below.setCell (by simp;omega) _⟩
end
section
open Go.RowKit
theorem rimulN_c (n:Nat) (y:Int) (w:World) (hn:n<256^128) (hy:y.natAbs<256^128) (hb:n*y.natAbs<256^128) (p:Int) (hp:(n:Int)*y=p) :
  Calls Tryz.prog 67 #[.agg #[.bool (sg (n:Int)),.string (E n)],.agg #[.bool (sg (y)),.string (E (y).natAbs)]] w fun e w'=>e=.returned (.tuple #[.agg #[.bool (sg (p)),.string (E (p).natAbs)],.int .i64 0])∧Bw w w':=by
 have:=rimul_c (n:Int) y w (by simpa using hn) hy (by simpa using hb);rw[Int.natAbs_natCast,hp]at this;exact this
def PBox (w:World) (bx b2:Nat) (x y p:Int) (s:Value) (wx:World):Prop:=
 ∃gp:Nat,s=.pointer (some ⟨gp,0,none⟩)∧Blk wx gp 28 [Value.bool (sg p),Value.string (E p.natAbs)]∧w.heap.size+1<gp∧bx≠gp∧b2≠gp∧Boxes w bx b2 x y wx
theorem PBox.of_set {w wx:World} {bx b2 g:Nat} {x y p:Int} {u v:Value} (h:Boxes w bx b2 x y wx) (k:Blk wx g 28 [u,v]) (h1:w.heap.size+1<g) (h2:bx≠g) (h3:b2≠g) :
  PBox w bx b2 x y p (.pointer (some ⟨g,0,none⟩)) ((wx.setCell ⟨g,0,none⟩ (.bool (sg p))).setCell ⟨g,1,none⟩ (.string (E p.natAbs))):=
 ⟨g,rfl,(k.set 0 _).set 1 _,h1,h2,h3,(h.set g 0 _ h1 h2 h3).set g 1 _ h1 h2 h3⟩
theorem PBox.of_alloc {w wx:World} {bx b2:Nat} {x y p:Int} (h:Boxes w bx b2 x y wx) :
  PBox w bx b2 x y p (.pointer (some ⟨wx.heap.size,0,none⟩)) (wx.alloc (.cells #[.bool (sg p),.string (E p.natAbs)] 28)):=
 ⟨wx.heap.size,rfl,Blk.new _ _ _,h.r2.lt,Nat.ne_of_lt h.x.lt,Nat.ne_of_lt h.y.lt,h.alloc _⟩
theorem rbez_body (a b g:Nat) (x y p:Int) (w:World) (ha:a<256^128) (hb:b<256^128) (h0:0<b)
  (hx:x.natAbs<256^128) (hy:y.natAbs<256^128) (hL:a / b*y.natAbs<256^128) (hp:((a / b:Nat):Int)*y=p) (hM:p.natAbs<256^128) (hd:(x-p).natAbs<256^128)
  (ih:∀w,Calls Tryz.prog 218 #[.string (E b),.string (E (a%b))] w fun e w'=>e=.returned (.tuple #[.string (E g),.agg #[.bool (sg (x)),.string (E (x).natAbs)],.agg #[.bool (sg (y)),.string (E (y).natAbs)]])∧Bw w w') :
  Calls Tryz.prog 218 #[.string (E a),.string (E b)] w fun e w'=>e=.returned (.tuple #[.string (E g),.agg #[.bool (sg (y)),.string (E (y).natAbs)],.agg #[.bool (sg (x-p)),.string (E (x-p).natAbs)]])∧Bw w w':=by
 have HA:=Kh ha;have HB:=Kh hb;have H0:=Kh h0;have HX:=Kh hx;have HY:=Kh hy;have hT:=Kh hL;have HP:=Kh hp;have hU:=Kh hM;have HD:=Kh hd;have IH:=Kh ih;have HQ:=Kh (Nat.lt_of_le_of_lt (Nat.div_le_self a b) ha);have hz:=nzE h0;clear ha hb h0 hx hy hL hp hM hd ih;have hA:=blk2a w #[Value.bool false,Value.string { data:=#[] }] #[Value.bool false,Value.string { data:=#[] }] 28 28;have hB:=blk2b w #[Value.bool false,Value.string { data:=#[] }] #[Value.bool false,Value.string { data:=#[] }] 28 28;go_enter Tryz.func218,Tryz.ntmps218
 go_wp2_with fail
 refine (rdivmod_c a b _ HA.out HB.out H0.out).mono ?_;rintro e w1 ⟨rfl,hn⟩;replace hA:=hA.after hn;replace hB:=hB.after hn;go_wp2_with fail
 refine (IH.out _).mono ?_;rintro e w2 ⟨rfl,ho⟩;replace hA:=hA.after ho;replace hB:=hB.after ho;have hN:w.heap.size+1<w2.heap.size:=hB.lt;go_upto_region 5 with fail
 have he:Boxes w w2.heap.size (w2.heap.size+1) x y ((w2.alloc (.cells #[.bool (sg x),.string (E x.natAbs)] 28)).alloc (.cells #[.bool (sg y),.string (E y.natAbs)] 28)):=
  ⟨(hA.alloc _).alloc _,(hB.alloc _).alloc _,blk2a _ _ _ _ _,blk2b _ _ _ _ _,ba (ba (bt (bt (b2 _ _ _) hn) ho) _) _⟩
 generalize ((w2.alloc (.cells #[.bool (sg x),.string (E x.natAbs)] 28)).alloc (.cells #[.bool (sg y),.string (E y.natAbs)] 28))=w3 at he;obtain⟨bx,hq⟩:∃bx,w2.heap.size=bx:=⟨_,rfl⟩;have hV:=Kh hq;rw[hq]at he ⊢;have hr:=Kh hN;clear hq hA hB hN;have hy0:=he.y.cell 0;have hy1:=he.y.cell 1;have h7:bx+1<w3.heap.size:=he.y.lt;go_cut [13] (fun s13 wx=>PBox w bx (bx+1) x y p s13 wx)
 case first =>
  go_region_with (first | (go_at_call 220;refine (rifromS_c (a / b) _ HQ.out).mono ?_;rintro e wf ⟨rfl,ht⟩;have hc:Boxes w bx (bx+1) x y wf:=(by first | exact he.drew.after ht | exact (he.alloc _).drew.after ht);have yf0:=hc.y.cell 0;have yf1:=hc.y.cell 1;have h8:bx+1<wf.heap.size:=hc.y.lt) | (go_at_call 67;refine (rimulN_c (a / b) y _ HQ.out HY.out hT.out p HP.out).mono ?_;rintro e wd ⟨rfl,hbd⟩;have hg:Boxes w bx (bx+1) x y wd:=(by first | exact hc.after hbd | exact (hc.alloc _).after hbd);(try (have kA:=((Blk.new w3 #[Value.bool false,Value.string { data:=#[] }] 28).drew.after ht).after hbd;have kA0:=kA.cell 0;have kA1:=kA.cell 1;have kA2:=kA.free 0;have kA3:=kA.free 1));(try (have kB:=(Blk.new wf #[Value.bool false,Value.string { data:=#[] }] 28).after hbd;have kB0:=kB.cell 0;have kB1:=kB.cell 1;have kB2:=kB.free 0;have kB3:=kB.free 1))))
  all_goals
   go_wp2_with fail
   go_meet
   first | exact PBox.of_alloc hg | exact PBox.of_set hg kA (by have:=he.r2.lt;omega) (by omega) (by omega) | exact PBox.of_set hg kB (by have:=hc.r2.lt;omega) (by omega) (by omega)
 case rest =>
  obtain⟨gp,rfl,hP,h9,Ha,Hb,hi⟩:=hcut;have hX:=hi.x;obtain⟨hu,hv,hw,hC⟩:=hX.x2;obtain⟨hD,hE,hF,hG⟩:=hP.x2;go_wp2_with fail
  refine (risub_c x p _ HX.out hU.out HD.out).mono ?_;rintro e w4 ⟨rfl,hb4⟩;clear hu hv hw hC;clear hD hE hF hG;have hh:=hi.after hb4;have hZ:=Blk.new w4 #[Value.bool (sg (x-p)),Value.string (E (x-p).natAbs)] 28;have hf:=hh.alloc (.cells #[Value.bool (sg (x-p)),Value.string (E (x-p).natAbs)] 28);have hY:=hf.y;have hW:=hf.r1;have h2:=hf.r2;have Hc:w.heap.size+1<w4.heap.size:=hh.r2.lt;have Hd:bx+1<w4.heap.size:=hh.y.lt;have He:w.heap.size+1<bx:=by rw[←hV.out];exact hr.out
  obtain⟨hH,h3,hI,h4⟩:=hY.x2;obtain⟨hJ,h5,hK,h6⟩:=hZ.x2;obtain⟨hj,hO,hk,hQ⟩:=hW.x2;obtain⟨hl,hR,hm,hS⟩:=h2.x2;go_wp2_with fail
  go_region;go_wp2;refine bodyPost_ret (v:=.tuple #[.string (E g),.agg #[.bool (sg (y)),.string (E (y).natAbs)],.agg #[.bool (sg (x-p)),.string (E (x-p).natAbs)]]) ?_ rfl ⟨rfl,?_⟩
  ·simp[results,Tryz.results218,go_sem,hj,hk,hl,hm,hH,hI,hJ,hK]
  ·repeat (first | exact hf.below | (refine Below.drew ?_) | (refine Below.setCell ?_ (by first | omega | (dsimp only;omega) | (simp;done)) _))
theorem rbez_zero (a:Nat) (w:World) :
  Calls Tryz.prog 218 #[.string (E a),.string (E 0)] w fun e w'=>e=.returned (.tuple #[.string (E a),.agg #[.bool (sg ((1:Int))),.string (E ((1:Int)).natAbs)],.agg #[.bool (sg ((0:Int))),.string (E ((0:Int)).natAbs)]])∧Bw w w':=by
 have hz:=zE (n:=0) rfl;have hA:=blk2a w #[Value.bool false,Value.string { data:=#[] }] #[Value.bool false,Value.string { data:=#[] }] 28 28;have hB:=blk2b w #[Value.bool false,Value.string { data:=#[] }] #[Value.bool false,Value.string { data:=#[] }] 28 28;have HO:=Kh (fun w=>riof_c 1 w (by decide) (by decide));have hh:=Kh (fun w=>riof_c 0 w (by decide) (by decide));go_enter Tryz.func218,Tryz.ntmps218
 go_wp2_with fail
 refine (HO.out _).mono ?_;rintro e w1 ⟨rfl,hb⟩;replace hA:=hA.after hb;replace hB:=hB.after hb;go_wp2_with fail
 refine (hh.out _).mono ?_;rintro e w2 ⟨rfl,hc⟩;replace hA:=hA.after hc;replace hB:=hB.after hc;obtain⟨hd,hi,he,hj⟩:=hA.x2;obtain⟨hf,hk,hg,hl⟩:=hB.x2;go_wp2;refine bodyPost_ret (v:=.tuple #[.string (E a),.agg #[.bool (sg ((1:Int))),.string (E ((1:Int)).natAbs)],.agg #[.bool (sg ((0:Int))),.string (E ((0:Int)).natAbs)]]) ?_ rfl ⟨rfl,?_⟩
 ·simp[results,Tryz.results218,go_sem,hd,he,hf,hg]
 ·exact ((((bt (bt (b2 _ _ _) hb) hc).setCell (Nat.le_refl _) _).setCell (Nat.le_refl _) _).setCell (by simp) _).setCell (by simp) _
theorem rbezout_c (f:Nat):∀(a b:Nat) (w:World),b≤f→a<256^128→b<256^128 →
  Calls Tryz.prog 218 #[.string (E a),.string (E b)] w fun e w'=>e=.returned (.tuple #[.string (E (Nat.gcd a b)),.agg #[.bool (sg ((bz f a b).1)),.string (E ((bz f a b).1).natAbs)],.agg #[.bool (sg ((bz f a b).2)),.string (E ((bz f a b).2).natAbs)]])∧Bw w w':=by
 induction f with
 | zero =>
  intro a b w hb ha hc;obtain rfl:b=0:=by omega
  rw[bz_zero,Nat.gcd_zero_right];exact rbez_zero a w
 | succ f ih =>
  intro a b w hb ha hc;by_cases h0:b=0
  ·subst h0;rw[bz_zero,Nat.gcd_zero_right];exact rbez_zero a w
  ·have hr:=Nat.mod_lt a (show 0<b by omega);have hs:=bz_spec f b (a%b) (by omega);have hd:=(bz_spec (f+1) a b hb).2;have hpr:=bz_prod f a b hb h0;have hg:Nat.gcd a b=Nat.gcd b (a%b):=by rw[Nat.gcd_comm a b,Nat.gcd_rec b a,Nat.gcd_comm]
   have e1:bz (f+1) a b=((bz f b (a%b)).2,(bz f b (a%b)).1-((a / b:Nat):Int)*(bz f b (a%b)).2):=by rw[bz,if_neg h0]
   have ihc:=fun w=>ih b (a%b) w (by omega) hc (by omega)
   rw[e1]at hd ⊢;rw[hg];generalize bz f b (a%b)=q at *;obtain⟨x,y⟩:=q;simp only at *;refine rbez_body a b _ x y _ w ha hc (by omega) (by omega) (by omega) (by omega) rfl ?_ ?_ ihc
   ·rw[Int.natAbs_mul,Int.natAbs_natCast];omega
   ·omega
end
end Go.Proofs.YtdgddpnjkinciaaGreatDoor
