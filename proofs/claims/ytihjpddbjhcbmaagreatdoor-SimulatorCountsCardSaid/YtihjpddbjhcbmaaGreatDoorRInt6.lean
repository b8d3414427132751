import Derived.Test.YtihjpddbjhcbmaaGreatDoorRInt2
import Derived.Test.YtihjpddbjhcbmaaGreatDoorRegion
import Derived.Deep.RegionHeld3
import Derived.Deep.DeepCutAuto
set_option linter.unusedVariables false
set_option linter.unusedSimpArgs false
set_option maxRecDepth 100000
set_option maxHeartbeats 16000000
namespace Go.Proofs.YtihjpddbjhcbmaaGreatDoor
section
open Go.RowKit
theorem rivalidT_c (b:Bool) (n:Nat) (w:World) (hn:n<256^128) (h:ivB b (E n)=true) :
  Calls Tryz.prog 162 #[.agg #[.bool b,.string (E n)]] w fun e w'=>e=.returned (.bool true)∧Bw w w':=by
 have:=rivalid_c b (E n) w (by have:=sz n hn;omega);rw[h]at this;exact this
theorem ivB_false (n:Nat) (h:n<256^128):ivB false (E n)=true:=by
 unfold ivB;rw[vldB_E n h];rfl
theorem fits_div (n m:Nat) (hn:n<256^128) (h0:0<m) (hr:n%m≠0):n / m+1<256^128:=by
 have h1:m≠1:=by intro e;subst e;simp[Nat.mod_one]at hr
 have h2:0<n:=by
  rcases Nat.eq_zero_or_pos n with h | h
  ·subst h;simp at hr
  ·exact h
 have h3:n / m<n:=Nat.div_lt_self h2 (by omega);omega
def qAbs (b:Bool) (n m:Nat):Nat:=if b=true∧n%m≠0 then n / m+1 else n / m
def rAbs (b:Bool) (n m:Nat):Nat:=if b=true∧n%m≠0 then m-n%m else n%m
theorem ridivmod_aux (b:Bool) (n m:Nat) (z:Int) (w:World) (hn:n<256^128) (hm:m<256^128) (h0:0<m) (hv:ivB b (E n)=true) (q r:Nat) (hq:q=qAbs b n m) (hr:r=rAbs b n m) (hz:z=if b then -(q:Int) else (q:Int)) :
  Calls Tryz.prog 346 #[.agg #[.bool b,.string (E n)],.agg #[.bool false,.string (E m)]] w fun e w'=>e=.returned (.tuple #[.agg #[.bool (sg (z)),.string (E (z).natAbs)],.string (E r),.int .i64 0])∧Bw w w':=by
 have HN:=Kh hn;have HM:=Kh hm;have H0:=Kh h0;have HV:=Kh hv;have hD:=Kh (ivB_false m hm);have hK:=nzE h0;have hG:=Kh (Nat.mod_lt n h0);have hH:(E (n / m)).size≤128:=sz _ (Nat.lt_of_le_of_lt (Nat.div_le_self _ _) hn);have hA:=blk3a w #[Value.bool b,Value.string (E n)] #[Value.bool false,Value.string (E m)] #[Value.bool false,Value.string { data:=#[] }] 74 74 74;have hB:=blk3b w #[Value.bool b,Value.string (E n)] #[Value.bool false,Value.string (E m)] #[Value.bool false,Value.string { data:=#[] }] 74 74 74;have hC:=blk3c w #[Value.bool b,Value.string (E n)] #[Value.bool false,Value.string (E m)] #[Value.bool false,Value.string { data:=#[] }] 74 74 74;clear hn hm h0 hv;cases b
 ·have HR:Hid (r=n%m):=by rw[Hid,hr];simp[rAbs]
  have HQ:Hid (q=n / m):=by rw[Hid,hq];simp[qAbs]
  have HZ:Hid (z=if false then -((n / m:Nat):Int) else ((n / m:Nat):Int)):=by rw[Hid,hz,←HQ.out]
  clear hr hq hz;go_enter Tryz.func346,Tryz.ntmps346
  go_wp2_with fail
  refine (rivalidT_c false n _ HN.out HV.out).mono ?_;rintro e w0 ⟨rfl,hj⟩;replace hA:=hA.after hj;replace hB:=hB.after hj;replace hC:=hC.after hj;obtain⟨hb,hc,hd,he⟩:=hA.x2;obtain⟨hf,hg,hh,hi⟩:=hB.x2;go_wp2_with fail
  refine (rivalidT_c false m _ HM.out hD.out).mono ?_;rintro e w1 ⟨rfl,hk⟩;clear hb hc hd he;clear hf hg hh hi;replace hA:=hA.after hk;replace hB:=hB.after hk;replace hC:=hC.after hk;obtain⟨hb,hc,hd,he⟩:=hA.x2;obtain⟨hf,hg,hh,hi⟩:=hB.x2;go_wp2_with fail
  refine (rdivmod_c n m _ HN.out HM.out H0.out).mono ?_;rintro e w2 ⟨rfl,hl⟩;clear hb hc hd he;clear hf hg hh hi;replace hA:=hA.after hl;replace hB:=hB.after hl;replace hC:=hC.after hl;obtain⟨hb,hc,hd,he⟩:=hA.x2;obtain⟨hf,hg,hh,hi⟩:=hB.x2;go_wp2_with fail
  refine (rmake_c false (n / m) z _ (by omega) HZ.out).mono ?_;rintro e w3 ⟨rfl,ht⟩;clear hb hc hd he;clear hf hg hh hi;replace hC:=hC.after ht;obtain⟨ho,hw,hp,hx⟩:=hC.x2;go_wp2;refine bodyPost_ret (v:=.tuple #[.agg #[.bool (sg (z)),.string (E (z).natAbs)],.string (E r),.int .i64 0]) ?_ rfl ⟨rfl,?_⟩
  ·rw[HR.out];simp[results,Tryz.results346,go_sem,ho,hp]
  ·exact ((bt (bt (bt (bt (b3 _ _ _ _) hj) hk) hl) ht).setCell (by simp;omega) _).setCell (by simp;omega) _
 ·by_cases hu:n%m=0
  ·have HR:Hid (r=n%m):=by rw[Hid,hr];simp[rAbs,hu]
   have HQ:Hid (q=n / m):=by rw[Hid,hq];simp[qAbs,hu]
   have HZ:Hid (z=if true then -((n / m:Nat):Int) else ((n / m:Nat):Int)):=by rw[Hid,hz,←HQ.out]
   have hI:=zE hu;clear hr hq hz hu;go_enter Tryz.func346,Tryz.ntmps346
   go_wp2_with fail
   refine (rivalidT_c true n _ HN.out HV.out).mono ?_;rintro e w0 ⟨rfl,hj⟩;replace hA:=hA.after hj;replace hB:=hB.after hj;replace hC:=hC.after hj;obtain⟨hb,hc,hd,he⟩:=hA.x2;obtain⟨hf,hg,hh,hi⟩:=hB.x2;go_wp2_with fail
   refine (rivalidT_c false m _ HM.out hD.out).mono ?_;rintro e w1 ⟨rfl,hk⟩;clear hb hc hd he;clear hf hg hh hi;replace hA:=hA.after hk;replace hB:=hB.after hk;replace hC:=hC.after hk;obtain⟨hb,hc,hd,he⟩:=hA.x2;obtain⟨hf,hg,hh,hi⟩:=hB.x2;go_wp2_with fail
   refine (rdivmod_c n m _ HN.out HM.out H0.out).mono ?_;rintro e w2 ⟨rfl,hl⟩;clear hb hc hd he;clear hf hg hh hi;replace hA:=hA.after hl;replace hB:=hB.after hl;replace hC:=hC.after hl;obtain⟨hb,hc,hd,he⟩:=hA.x2;obtain⟨hf,hg,hh,hi⟩:=hB.x2;go_wp2_with fail
   refine (rmake_c true (n / m) z _ (by omega) HZ.out).mono ?_;rintro e w3 ⟨rfl,ht⟩;clear hb hc hd he;clear hf hg hh hi;replace hC:=hC.after ht;obtain⟨ho,hw,hp,hx⟩:=hC.x2;go_wp2;refine bodyPost_ret (v:=.tuple #[.agg #[.bool (sg (z)),.string (E (z).natAbs)],.string (E r),.int .i64 0]) ?_ rfl ⟨rfl,?_⟩
   ·rw[HR.out];simp[results,Tryz.results346,go_sem,ho,hp]
   ·exact ((bt (bt (bt (bt (b3 _ _ _ _) hj) hk) hl) ht).setCell (by simp;omega) _).setCell (by simp;omega) _
  ·have HR:Hid (r=m-n%m):=by rw[Hid,hr];simp[rAbs,hu]
   have HQ:Hid (q=n / m+1):=by rw[Hid,hq];simp[qAbs,hu]
   have HZ:Hid (z=if true then -((n / m+1:Nat):Int) else ((n / m+1:Nat):Int)):=by rw[Hid,hz,←HQ.out]
   have hI:=nzE (Nat.pos_of_ne_zero hu);have HF:=Kh (fits_div n m HN.out H0.out hu);have hE:(E (n / m+1)).size≤128:=sz _ HF.out;have hJ:=Kh (Nat.lt_of_le_of_lt (Nat.div_le_self n m) HN.out);clear hr hq hz hu;go_enter Tryz.func346,Tryz.ntmps346
   go_wp2_with fail
   refine (rivalidT_c true n _ HN.out HV.out).mono ?_;rintro e w0 ⟨rfl,hj⟩;replace hA:=hA.after hj;replace hB:=hB.after hj;replace hC:=hC.after hj;obtain⟨hb,hc,hd,he⟩:=hA.x2;obtain⟨hf,hg,hh,hi⟩:=hB.x2;go_wp2_with fail
   refine (rivalidT_c false m _ HM.out hD.out).mono ?_;rintro e w1 ⟨rfl,hk⟩;clear hb hc hd he;clear hf hg hh hi;replace hA:=hA.after hk;replace hB:=hB.after hk;replace hC:=hC.after hk;obtain⟨hb,hc,hd,he⟩:=hA.x2;obtain⟨hf,hg,hh,hi⟩:=hB.x2;go_wp2_with fail
   refine (rdivmod_c n m _ HN.out HM.out H0.out).mono ?_;rintro e w2 ⟨rfl,hl⟩;clear hb hc hd he;clear hf hg hh hi;replace hA:=hA.after hl;replace hB:=hB.after hl;replace hC:=hC.after hl;obtain⟨hb,hc,hd,he⟩:=hA.x2;obtain⟨hf,hg,hh,hi⟩:=hB.x2;go_wp2_with fail
   have hof:Calls Tryz.prog 153 #[.int .u64 1] w2 fun e w'=>e=.returned (.string (E 1))∧Bw w2 w':=rof_c 1 w2 (by decide)
   refine hof.mono ?_;clear hof;rintro e w3 ⟨rfl,ht⟩;clear hb hc hd he;clear hf hg hh hi;replace hA:=hA.after ht;replace hB:=hB.after ht;replace hC:=hC.after ht;obtain⟨hb,hc,hd,he⟩:=hA.x2;obtain⟨hf,hg,hh,hi⟩:=hB.x2;go_wp2_with fail
   refine (radd_c (n / m) 1 _ hJ.out (by decide) HF.out).mono ?_;rintro e w4 ⟨rfl,hb4⟩;clear hb hc hd he;clear hf hg hh hi;replace hA:=hA.after hb4;replace hB:=hB.after hb4;replace hC:=hC.after hb4;obtain⟨hb,hc,hd,he⟩:=hA.x2;obtain⟨hf,hg,hh,hi⟩:=hB.x2;go_wp2_with fail
   refine (rsub_c m (n%m) _ HM.out (Nat.le_of_lt hG.out)).mono ?_;rintro e w5 ⟨rfl,hy⟩;clear hb hc hd he;clear hf hg hh hi;replace hA:=hA.after hy;replace hB:=hB.after hy;replace hC:=hC.after hy;obtain⟨hb,hc,hd,he⟩:=hA.x2;obtain⟨hf,hg,hh,hi⟩:=hB.x2;go_wp2_with fail
   refine (rmake_c true (n / m+1) z _ (by omega) HZ.out).mono ?_;rintro e w6 ⟨rfl,hF⟩;clear hb hc hd he;clear hf hg hh hi;replace hC:=hC.after hF;obtain⟨ho,hw,hp,hx⟩:=hC.x2;go_wp2;refine bodyPost_ret (v:=.tuple #[.agg #[.bool (sg (z)),.string (E (z).natAbs)],.string (E r),.int .i64 0]) ?_ rfl ⟨rfl,?_⟩
   ·rw[HR.out];simp[results,Tryz.results346,go_sem,ho,hp]
   ·exact ((bt (bt (bt (bt (bt (bt (bt (b3 _ _ _ _) hj) hk) hl) ht) hb4) hy) hF).setCell (by simp;omega) _).setCell (by simp;omega) _
theorem ediv_if (z:Int) (m:Nat) (hm:0<m):z / (m:Int)=if sg z then -(qAbs (sg z) z.natAbs m:Int) else (qAbs (sg z) z.natAbs m:Int):=by
 have hd:=Int.mul_ediv_add_emod z (m:Int);have hb:(0:Int)<(m:Int):=by omega
 have he:=Int.emod_nonneg z (Int.ne_of_gt hb);have hf:=Int.emod_lt_of_pos z hb;by_cases h:z<0
 ·rw[sg_of_neg h];simp only[if_true];unfold qAbs;have hn:=Nat.div_add_mod z.natAbs m;have hc:=Nat.mod_lt z.natAbs hm;have hE:=emod_if z m hm;rw[sg_of_neg h]at hE;by_cases hr:z.natAbs%m=0
  ·rw[if_neg (fun h=>h.2 hr)]at hE ⊢;rw[hr]at hE hn;have e0:z%(m:Int)=0:=by omega
   rw[e0,Int.add_zero]at hd
   have e1:(m:Int)*(z / (m:Int))=(m:Int)*(-((z.natAbs / m:Nat):Int)):=by
    rw[hd,Int.mul_neg];omega
   exact Int.eq_of_mul_eq_mul_left (Int.ne_of_gt hb) e1
  ·rw[if_pos ⟨rfl,hr⟩]at hE ⊢;have e0:z%(m:Int)=((m-z.natAbs%m:Nat):Int):=by omega
   have e1:(m:Int)*(z / (m:Int))=(m:Int)*(-((z.natAbs / m+1:Nat):Int)):=by
    rw[Int.mul_neg,Int.natCast_add,Int.mul_add];simp only[Int.natCast_one,Int.mul_one];have:(m:Int)*((z.natAbs / m:Nat):Int)=((m*(z.natAbs / m):Nat):Int):=by rw[Int.natCast_mul]
    omega
   exact Int.eq_of_mul_eq_mul_left (Int.ne_of_gt hb) e1
 ·rw[sg_of_nonneg (by omega)];simp only[Bool.false_eq_true,if_false];unfold qAbs;rw[if_neg (fun h=>Bool.noConfusion h.1)];have e:z=(z.natAbs:Int):=by omega
  conv=>lhs;rw[e]
  rw[Int.natCast_ediv]
theorem ridivmod_c (z:Int) (m:Nat) (w:World) (hz:z.natAbs<256^128) (hm:m<256^128) (h0:0<m) :
  Calls Tryz.prog 346 #[.agg #[.bool (sg (z)),.string (E (z).natAbs)],.agg #[.bool (sg (m:Int)),.string (E m)]] w fun e w'=>e=.returned (.tuple #[.agg #[.bool (sg (z / (m:Int))),.string (E (z / (m:Int)).natAbs)],.string (E (z%(m:Int)).toNat),.int .i64 0])∧Bw w w':=by
 rw[sg_nat m];exact ridivmod_aux (sg z) z.natAbs m _ w hz hm h0 (ivB_I z hz) _ _ rfl (by rw[emod_if z m h0];rfl) (ediv_if z m h0)
theorem rifromS_c (n:Nat) (w:World) (hn:n<256^128) :
  Calls Tryz.prog 145 #[.string (E n)] w fun e w'=>e=.returned (.agg #[.bool (sg (n:Int)),.string (E n)])∧Bw w w':=by
 have:=rifrom_c n w hn;rwa [Int.natAbs_natCast]at this
theorem rimod_c (z:Int) (m:Nat) (w:World) (hz:z.natAbs<256^128) (hm:m<256^128) (h0:0<m) :
  Calls Tryz.prog 330 #[.agg #[.bool (sg (z)),.string (E (z).natAbs)],.string (E m)] w fun e w'=>e=.returned (.tuple #[.string (E (z%(m:Int)).toNat),.int .i64 0])∧Bw w w':=by
 have HZ:=Kh hz;have HM:=Kh hm;have H0:=Kh h0;have hA:=Blk.new w #[Value.bool (sg z),Value.string (E z.natAbs)] 74;clear hz hm h0;go_enter Tryz.func330,Tryz.ntmps330
 go_wp2_with fail
 refine (rivalidI_c z _ HZ.out).mono ?_;rintro e w0 ⟨rfl,hd⟩;replace hA:=hA.after hd;obtain⟨he,hf,hg,hh⟩:=hA.x2;go_wp2_with fail
 refine (rvalidE_c m _ HM.out).mono ?_;rintro e w' ⟨rfl,rfl⟩;go_wp2_with fail
 have hi:w.heap.size<w0.heap.size:=hA.lt;go_region_with (first | (go_at_call 145;refine (rifromS_c m _ HM.out).mono ?_;rintro e wf ⟨rfl,hb⟩;have hc:Blk wf w.heap.size 74 [Value.bool (sg z),Value.string (E z.natAbs)]:=(by first | exact hA.drew.after hb | exact (hA.alloc _).drew.after hb);have af0:=hc.cell 0;have af1:=hc.cell 1;have hj:w.heap.size<wf.heap.size:=hc.lt) | (go_at_call 346;refine (ridivmod_c z m _ HZ.out HM.out H0.out).mono ?_;rintro e wd ⟨rfl,hbd⟩;have hk:w.heap.size<wd.heap.size:=(by have h5:=hbd.size;(try simp at h5);omega);(try (have kA:=((Blk.new w0 #[Value.bool false,Value.string { data:=#[] }] 74).drew.after hb).after hbd;have kA0:=kA.cell 0;have kA1:=kA.cell 1;have kA2:=kA.free 0;have kA3:=kA.free 1));(try (have kB:=(Blk.new wf #[Value.bool false,Value.string { data:=#[] }] 74).after hbd;have kB0:=kB.cell 0;have kB1:=kB.cell 1;have kB2:=kB.free 0;have kB3:=kB.free 1))))
 all_goals go_wp2
 all_goals
  go_ret2
  refine⟨rfl,?_⟩;repeat (first | exact bt (b1 _ _) hd | (refine ba ?_ _) | (refine Below.setCell ?_ (by first | omega | (dsimp only;omega) | (simp;omega) | simp) _) | (refine Below.drew ?_) | (refine bt ?_ hbd) | (refine bt ?_ hb))
end
section
open Go.RowKit
def bz:Nat→Nat→Nat→Int × Int
 | 0,_,_=>(1,0)
 | f+1,a,b=>if b=0 then (1,0) else ((bz f b (a%b)).2,(bz f b (a%b)).1-((a / b:Nat):Int)*(bz f b (a%b)).2)
theorem bz_zero (f a:Nat):bz f a 0=(1,0):=by cases f <;> simp[bz]
theorem bz_spec (f:Nat):∀a b:Nat,b≤f→(a:Int)*(bz f a b).1+(b:Int)*(bz f a b).2=(Nat.gcd a b:Int)∧(bz f a b).1.natAbs≤max 1 b∧(bz f a b).2.natAbs≤max 1 a:=by
 induction f with
 | zero =>
  intro a b hb;obtain rfl:b=0:=by omega
  simp[bz]
 | succ f ih =>
  intro a b hb;by_cases h0:b=0
  ·subst h0;simp[bz]
  ·have hr:=Nat.mod_lt a (show 0<b by omega);obtain⟨h1,h2,h3⟩:=ih b (a%b) (by omega);have hd:=Nat.div_add_mod a b;simp only[bz,if_neg h0];have hg:Nat.gcd a b=Nat.gcd b (a%b):=by rw[Nat.gcd_comm a b,Nat.gcd_rec b a,Nat.gcd_comm]
   have hz:a%b=0→bz f b (a%b)=(1,0):=fun h=>by rw[h];exact bz_zero f b
   generalize bz f b (a%b)=p at *;obtain⟨x,y⟩:=p;simp only at *;refine⟨?_,by omega,?_⟩
   ·rw[hg,←h1]
    have e:(a:Int)=(b:Int)*((a / b:Nat):Int)+((a%b:Nat):Int):=by
     rw[←Int.natCast_mul];omega
    rw[Int.mul_sub,Int.sub_eq_add_neg]
    have e2:(a:Int)*y=(b:Int)*(((a / b:Nat):Int)*y)+((a%b:Nat):Int)*y:=by
     conv=>lhs;rw[e]
     rw[Int.add_mul,Int.mul_assoc]
    omega
   ·rcases Nat.eq_zero_or_pos (a%b) with hc | hc
    ·have:=hz hc;simp only[Prod.mk.injEq]at this;rw[this.1,this.2];simp;omega
    ·have he:y.natAbs≤b:=by omega
     have hx1:x.natAbs≤a%b:=by omega
     have hq:(((a / b:Nat):Int)*y).natAbs≤a / b*b:=by
      rw[Int.natAbs_mul,Int.natAbs_natCast];exact Nat.mul_le_mul_left _ he
     have:a / b*b+a%b=a:=by rw[Nat.mul_comm];exact hd
     omega
theorem bz_prod (f a b:Nat) (hb:b≤f+1) (h0:b≠0):a / b*(bz f b (a%b)).2.natAbs≤a:=by
 have hr:=Nat.mod_lt a (show 0<b by omega);have h3:=(bz_spec f b (a%b) (by omega)).2.2;have hc:(bz f b (a%b)).2.natAbs≤b:=by omega
 exact Nat.le_trans (Nat.mul_le_mul_left _ hc) (Nat.div_mul_le_self a b)
structure Boxes (w:World) (bx by':Nat) (x y:Int) (wx:World):Prop where
 r1:Blk wx w.heap.size 74 [Value.bool false,Value.string { data:=#[] }]
 r2:Blk wx (w.heap.size+1) 74 [Value.bool false,Value.string { data:=#[] }]
 x:Blk wx bx 74 [Value.bool (sg x),Value.string (E x.natAbs)]
 y:Blk wx by' 74 [Value.bool (sg y),Value.string (E y.natAbs)]
 below:Bw w wx
theorem Boxes.after {w wx wy:World} {bx b2:Nat} {x y:Int} (h:Boxes w bx b2 x y wx) (hb:Bw wx wy):Boxes w bx b2 x y wy:=
 ⟨h.r1.after hb,h.r2.after hb,h.x.after hb,h.y.after hb,bt h.below hb⟩
theorem Boxes.drew {w wx:World} {bx b2:Nat} {x y:Int} (h:Boxes w bx b2 x y wx):Boxes w bx b2 x y wx.drew:=
 ⟨h.r1.drew,h.r2.drew,h.x.drew,h.y.drew,h.below.drew⟩
theorem Boxes.alloc {w wx:World} {bx b2:Nat} {x y:Int} (h:Boxes w bx b2 x y wx) (o:Obj):Boxes w bx b2 x y (wx.alloc o):=
 h.after (b1 _ _)
theorem Boxes.set {w wx:World} {bx b2:Nat} {x y:Int} (h:Boxes w bx b2 x y wx) (g j:Nat) (v:Value) (h1:w.heap.size+1<g) (h2:bx≠g) (h3:b2≠g):Boxes w bx b2 x y (wx.setCell ⟨g,j,none⟩ v):=
 ⟨h.r1.other _ _ (by simp;omega),h.r2.other _ _ (by simp;omega),h.x.other _ _ h2,h.y.other _ _ h3,h.below.setCell (by simp;omega) _⟩
end
section
open Go.RowKit
theorem rimulN_c (n:Nat) (y:Int) (w:World) (hn:n<256^128) (hy:y.natAbs<256^128) (hb:n*y.natAbs<256^128) (p:Int) (hp:(n:Int)*y=p) :
  Calls Tryz.prog 67 #[.agg #[.bool (sg (n:Int)),.string (E n)],.agg #[.bool (sg (y)),.string (E (y).natAbs)]] w fun e w'=>e=.returned (.tuple #[.agg #[.bool (sg (p)),.string (E (p).natAbs)],.int .i64 0])∧Bw w w':=by
 have:=rimul_c (n:Int) y w (by simpa using hn) hy (by simpa using hb);rw[Int.natAbs_natCast,hp]at this;exact this
def PBox (w:World) (bx b2:Nat) (x y p:Int) (s:Value) (wx:World):Prop:=
 ∃gp:Nat,s=.pointer (some ⟨gp,0,none⟩)∧Blk wx gp 74 [Value.bool (sg p),Value.string (E p.natAbs)]∧w.heap.size+1<gp∧bx≠gp∧b2≠gp∧Boxes w bx b2 x y wx
theorem PBox.of_set {w wx:World} {bx b2 g:Nat} {x y p:Int} {u v:Value} (h:Boxes w bx b2 x y wx) (k:Blk wx g 74 [u,v]) (h1:w.heap.size+1<g) (h2:bx≠g) (h3:b2≠g) :
  PBox w bx b2 x y p (.pointer (some ⟨g,0,none⟩)) ((wx.setCell ⟨g,0,none⟩ (.bool (sg p))).setCell ⟨g,1,none⟩ (.string (E p.natAbs))):=
 ⟨g,rfl,(k.set 0 _).set 1 _,h1,h2,h3,(h.set g 0 _ h1 h2 h3).set g 1 _ h1 h2 h3⟩
theorem PBox.of_alloc {w wx:World} {bx b2:Nat} {x y p:Int} (h:Boxes w bx b2 x y wx) :
  PBox w bx b2 x y p (.pointer (some ⟨wx.heap.size,0,none⟩)) (wx.alloc (.cells #[.bool (sg p),.string (E p.natAbs)] 74)):=
 ⟨wx.heap.size,rfl,Blk.new _ _ _,h.r2.lt,Nat.ne_of_lt h.x.lt,Nat.ne_of_lt h.y.lt,h.alloc _⟩
theorem rbez_body (a b g:Nat) (x y p:Int) (w:World) (ha:a<256^128) (hb:b<256^128) (h0:0<b)
  (hx:x.natAbs<256^128) (hy:y.natAbs<256^128) (hL:a / b*y.natAbs<256^128) (hp:((a / b:Nat):Int)*y=p) (hM:p.natAbs<256^128) (hd:(x-p).natAbs<256^128)
  (ih:∀w,Calls Tryz.prog 345 #[.string (E b),.string (E (a%b))] w fun e w'=>e=.returned (.tuple #[.string (E g),.agg #[.bool (sg (x)),.string (E (x).natAbs)],.agg #[.bool (sg (y)),.string (E (y).natAbs)]])∧Bw w w') :
  Calls Tryz.prog 345 #[.string (E a),.string (E b)] w fun e w'=>e=.returned (.tuple #[.string (E g),.agg #[.bool (sg (y)),.string (E (y).natAbs)],.agg #[.bool (sg (x-p)),.string (E (x-p).natAbs)]])∧Bw w w':=by
 have HA:=Kh ha;have HB:=Kh hb;have H0:=Kh h0;have HX:=Kh hx;have HY:=Kh hy;have hT:=Kh hL;have HP:=Kh hp;have hU:=Kh hM;have HD:=Kh hd;have IH:=Kh ih;have HQ:=Kh (Nat.lt_of_le_of_lt (Nat.div_le_self a b) ha);have hz:=nzE h0;clear ha hb h0 hx hy hL hp hM hd ih;have hA:=blk2a w #[Value.bool false,Value.string { data:=#[] }] #[Value.bool false,Value.string { data:=#[] }] 74 74;have hB:=blk2b w #[Value.bool false,Value.string { data:=#[] }] #[Value.bool false,Value.string { data:=#[] }] 74 74;go_enter Tryz.func345,Tryz.ntmps345
 go_wp2_with fail
 refine (rdivmod_c a b _ HA.out HB.out H0.out).mono ?_;rintro e w1 ⟨rfl,hn⟩;replace hA:=hA.after hn;replace hB:=hB.after hn;go_wp2_with fail
 refine (IH.out _).mono ?_;rintro e w2 ⟨rfl,ho⟩;replace hA:=hA.after ho;replace hB:=hB.after ho;have hN:w.heap.size+1<w2.heap.size:=hB.lt;go_upto_region 5 with fail
 have he:Boxes w w2.heap.size (w2.heap.size+1) x y ((w2.alloc (.cells #[.bool (sg x),.string (E x.natAbs)] 74)).alloc (.cells #[.bool (sg y),.string (E y.natAbs)] 74)):=
  ⟨(hA.alloc _).alloc _,(hB.alloc _).alloc _,blk2a _ _ _ _ _,blk2b _ _ _ _ _,ba (ba (bt (bt (b2 _ _ _) hn) ho) _) _⟩
 generalize ((w2.alloc (.cells #[.bool (sg x),.string (E x.natAbs)] 74)).alloc (.cells #[.bool (sg y),.string (E y.natAbs)] 74))=w3 at he;obtain⟨bx,hq⟩:∃bx,w2.heap.size=bx:=⟨_,rfl⟩;have hV:=Kh hq;rw[hq]at he ⊢;have hr:=Kh hN;clear hq hA hB hN;have hy0:=he.y.cell 0;have hy1:=he.y.cell 1;have h6:bx+1<w3.heap.size:=he.y.lt;go_cut [13] (fun s13 wx=>PBox w bx (bx+1) x y p s13 wx)
 case first =>
  go_region_with (first | (go_at_call 145;refine (rifromS_c (a / b) _ HQ.out).mono ?_;rintro e wf ⟨rfl,ht⟩;have hc:Boxes w bx (bx+1) x y wf:=(by first | exact he.drew.after ht | exact (he.alloc _).drew.after ht);have yf0:=hc.y.cell 0;have yf1:=hc.y.cell 1;have h7:bx+1<wf.heap.size:=hc.y.lt) | (go_at_call 67;refine (rimulN_c (a / b) y _ HQ.out HY.out hT.out p HP.out).mono ?_;rintro e wd ⟨rfl,hbd⟩;have hg:Boxes w bx (bx+1) x y wd:=(by first | exact hc.after hbd | exact (hc.alloc _).after hbd);(try (have kA:=((Blk.new w3 #[Value.bool false,Value.string { data:=#[] }] 74).drew.after ht).after hbd;have kA0:=kA.cell 0;have kA1:=kA.cell 1;have kA2:=kA.free 0;have kA3:=kA.free 1));(try (have kB:=(Blk.new wf #[Value.bool false,Value.string { data:=#[] }] 74).after hbd;have kB0:=kB.cell 0;have kB1:=kB.cell 1;have kB2:=kB.free 0;have kB3:=kB.free 1))))
  all_goals
   go_wp2_with fail
   go_meet
   first | exact PBox.of_alloc hg | exact PBox.of_set hg kA (by have:=he.r2.lt;omega) (by omega) (by omega) | exact PBox.of_set hg kB (by have:=hc.r2.lt;omega) (by omega) (by omega)
 case rest =>
  obtain⟨gp,rfl,hP,h8,h9,Ha,hi⟩:=hcut;have hX:=hi.x;obtain⟨hu,hv,hw,hC⟩:=hX.x2;obtain⟨hD,hE,hF,hG⟩:=hP.x2;go_wp2_with fail
  refine (risub_c x p _ HX.out hU.out HD.out).mono ?_;rintro e w4 ⟨rfl,hb4⟩;clear hu hv hw hC;clear hD hE hF hG;have hh:=hi.after hb4;have hZ:=Blk.new w4 #[Value.bool (sg (x-p)),Value.string (E (x-p).natAbs)] 74;have hf:=hh.alloc (.cells #[Value.bool (sg (x-p)),Value.string (E (x-p).natAbs)] 74);have hY:=hf.y;have hW:=hf.r1;have h1:=hf.r2;have Hb:w.heap.size+1<w4.heap.size:=hh.r2.lt;have Hc:bx+1<w4.heap.size:=hh.y.lt;have Hd:w.heap.size+1<bx:=by rw[←hV.out];exact hr.out
  obtain⟨hH,h2,hI,h3⟩:=hY.x2;obtain⟨hJ,h4,hK,h5⟩:=hZ.x2;obtain⟨hj,hO,hk,hQ⟩:=hW.x2;obtain⟨hl,hR,hm,hS⟩:=h1.x2;go_wp2_with fail
  go_region;go_wp2;refine bodyPost_ret (v:=.tuple #[.string (E g),.agg #[.bool (sg (y)),.string (E (y).natAbs)],.agg #[.bool (sg (x-p)),.string (E (x-p).natAbs)]]) ?_ rfl ⟨rfl,?_⟩
  ·simp[results,Tryz.results345,go_sem,hj,hk,hl,hm,hH,hI,hJ,hK]
  ·repeat (first | exact hf.below | (refine Below.drew ?_) | (refine Below.setCell ?_ (by first | omega | (dsimp only;omega) | (simp;done)) _))
theorem rbez_zero (a:Nat) (w:World) :
  Calls Tryz.prog 345 #[.string (E a),.string (E 0)] w fun e w'=>e=.returned (.tuple #[.string (E a),.agg #[.bool (sg ((1:Int))),.string (E ((1:Int)).natAbs)],.agg #[.bool (sg ((0:Int))),.string (E ((0:Int)).natAbs)]])∧Bw w w':=by
 have hz:=zE (n:=0) rfl;have hA:=blk2a w #[Value.bool false,Value.string { data:=#[] }] #[Value.bool false,Value.string { data:=#[] }] 74 74;have hB:=blk2b w #[Value.bool false,Value.string { data:=#[] }] #[Value.bool false,Value.string { data:=#[] }] 74 74;have HO:=Kh (fun w=>riof_c 1 w (by decide) (by decide));have hh:=Kh (fun w=>riof_c 0 w (by decide) (by decide));go_enter Tryz.func345,Tryz.ntmps345
 go_wp2_with fail
 refine (HO.out _).mono ?_;rintro e w1 ⟨rfl,hb⟩;replace hA:=hA.after hb;replace hB:=hB.after hb;go_wp2_with fail
 refine (hh.out _).mono ?_;rintro e w2 ⟨rfl,hc⟩;replace hA:=hA.after hc;replace hB:=hB.after hc;obtain⟨hd,hi,he,hj⟩:=hA.x2;obtain⟨hf,hk,hg,hl⟩:=hB.x2;go_wp2;refine bodyPost_ret (v:=.tuple #[.string (E a),.agg #[.bool (sg ((1:Int))),.string (E ((1:Int)).natAbs)],.agg #[.bool (sg ((0:Int))),.string (E ((0:Int)).natAbs)]]) ?_ rfl ⟨rfl,?_⟩
 ·simp[results,Tryz.results345,go_sem,hd,he,hf,hg]
 ·exact ((((bt (bt (b2 _ _ _) hb) hc).setCell (Nat.le_refl _) _).setCell (Nat.le_refl _) _).setCell (by simp) _).setCell (by simp) _
theorem rbezout_c (f:Nat):∀(a b:Nat) (w:World),b≤f→a<256^128→b<256^128 →
  Calls Tryz.prog 345 #[.string (E a),.string (E b)] w fun e w'=>e=.returned (.tuple #[.string (E (Nat.gcd a b)),.agg #[.bool (sg ((bz f a b).1)),.string (E ((bz f a b).1).natAbs)],.agg #[.bool (sg ((bz f a b).2)),.string (E ((bz f a b).2).natAbs)]])∧Bw w w':=by
 induction f with
 | zero =>
  intro a b w hb ha hc;obtain rfl:b=0:=by omega
  rw[bz_zero,Nat.gcd_zero_right];exact rbez_zero a w
 | succ f ih =>
  intro a b w hb ha hc;by_cases h0:b=0
  ·subst h0;rw[bz_zero,Nat.gcd_zero_right];exact rbez_zero a w
  ·have hr:=Nat.mod_lt a (show 0<b by omega);have hs:=bz_spec f b (a%b) (by omega);have hd:=(bz_spec (f+1) a b hb).2;have hpr:=bz_prod f a b hb h0;have hg:Nat.gcd a b=Nat.gcd b (a%b):=by rw[Nat.gcd_comm a b,Nat.gcd_rec b a,Nat.gcd_comm]
   have e1:bz (f+1) a b=((bz f b (a%b)).2,(bz f b (a%b)).1-((a / b:Nat):Int)*(bz f b (a%b)).2):=by rw[bz,if_neg h0]
   have ihc:=fun w=>ih b (a%b) w (by omega) hc (by omega)
   rw[e1]at hd ⊢;rw[hg];generalize bz f b (a%b)=q at *;obtain⟨x,y⟩:=q;simp only at *;refine rbez_body a b _ x y _ w ha hc (by omega) (by omega) (by omega) (by omega) rfl ?_ ?_ ihc
   ·rw[Int.natAbs_mul,Int.natAbs_natCast];omega
   ·omega
end
section
open Go.RowKit
theorem ridivmodP_c (z:Int) (m:Nat) (w:World) (hz:z.natAbs<256^128) (hm:m<256^128) (h0:0<m) (q:Int) (r:Nat) (hq:z / (m:Int)=q) (hr:(z%(m:Int)).toNat=r) :
  Calls Tryz.prog 346 #[.agg #[.bool (sg (z)),.string (E (z).natAbs)],.agg #[.bool (sg (m:Int)),.string (E m)]] w fun e w'=>e=.returned (.tuple #[.agg #[.bool (sg (q)),.string (E (q).natAbs)],.string (E r),.int .i64 0])∧Bw w w':=by
 have:=ridivmod_c z m w hz hm h0;rw[hq,hr]at this;exact this
theorem rimulR_c (q:Int) (n:Nat) (w:World) (hq:q.natAbs<256^128) (hn:n<256^128) (hb:q.natAbs*n<256^128) (p:Int) (hp:q*(n:Int)=p) :
  Calls Tryz.prog 67 #[.agg #[.bool (sg (q)),.string (E (q).natAbs)],.agg #[.bool (sg (n:Int)),.string (E n)]] w fun e w'=>e=.returned (.tuple #[.agg #[.bool (sg (p)),.string (E (p).natAbs)],.int .i64 0])∧Bw w w':=by
 have:=rimul_c q (n:Int) w hq (by simpa using hn) (by simpa using hb);rw[Int.natAbs_natCast,hp]at this;exact this
theorem Boxes.setY {w wx:World} {bx b2:Nat} {x y z:Int} (h:Boxes w bx b2 x y wx) (h1:w.heap.size+1<b2) (h2:bx≠b2):Boxes w bx b2 x z ((wx.setCell ⟨b2,0,none⟩ (.bool (sg z))).setCell ⟨b2,1,none⟩ (.string (E z.natAbs))):=
 ⟨(h.r1.other _ _ (by simp;omega)).other _ _ (by simp;omega),(h.r2.other _ _ (by simp;omega)).other _ _ (by simp;omega),(h.x.other _ _ h2).other _ _ h2,(h.y.set 0 _).set 1 _,(h.below.setCell (by simp;omega) _).setCell (by simp;omega) _⟩
theorem rext_body (a b g m k:Nat) (x y q p:Int) (r:Nat) (w:World) (ha:a<256^128) (hb:b<256^128) (h0:0<b) (hO:0<g) (hg:g<256^128)
  (hm:b / g=m) (hk:a / g=k) (hR:0<m) (hS:m<256^128) (hT:k<256^128) (hx:x.natAbs<256^128) (hy:y.natAbs<256^128)
  (hq:x / (m:Int)=q) (hr:(x%(m:Int)).toNat=r) (hU:q.natAbs<256^128) (hV:q.natAbs*k<256^128) (hp:q*(k:Int)=p) (hW:p.natAbs<256^128) (hZ:(y+p).natAbs<256^128) (h1:r<256^128)
  (h2:∀w,Calls Tryz.prog 345 #[.string (E a),.string (E b)] w fun e w'=>e=.returned (.tuple #[.string (E g),.agg #[.bool (sg (x)),.string (E (x).natAbs)],.agg #[.bool (sg (y)),.string (E (y).natAbs)]])∧Bw w w') :
  Calls Tryz.prog 329 #[.string (E a),.string (E b)] w fun e w'=>e=.returned (.tuple #[.string (E g),.agg #[.bool (sg (r:Int)),.string (E r)],.agg #[.bool (sg (y+p)),.string (E (y+p).natAbs)],.int .i64 0])∧Bw w w':=by
 have HA:=Kh ha;have HB:=Kh hb;have h3:=Kh hO;have HG:=Kh hg;have Hh:=Kh hR;have h4:=Kh hS;have h5:=Kh hT;have HX:=Kh hx;have HY:=Kh hy;have HQ:=Kh hq;have HR:=Kh hr;have Hi:=Kh hU;have Hj:=Kh hV;have HP:=Kh hp;have Hk:=Kh hW;have Hl:=Kh hZ;have Hm:=Kh h1;have Hn:=Kh h2;have HM:=Kh hm;have HK:=Kh hk;have hz:=nzE h0;clear ha hb h0 hO hg hR hS hT hx hy hq hr hU hV hp hW hZ h1 h2 hm hk;have hA:=blk2a w #[Value.bool false,Value.string { data:=#[] }] #[Value.bool false,Value.string { data:=#[] }] 74 74;have hB:=blk2b w #[Value.bool false,Value.string { data:=#[] }] #[Value.bool false,Value.string { data:=#[] }] 74 74;go_enter Tryz.func329,Tryz.ntmps329
 go_wp2_with fail
 refine (rvalidE_c a _ HA.out).mono ?_;rintro e w' ⟨rfl,rfl⟩;go_wp2_with fail
 refine (rvalidE_c b _ HB.out).mono ?_;rintro e w' ⟨rfl,rfl⟩;go_wp2_with fail
 refine (Hn.out _).mono ?_;rintro e w1 ⟨rfl,hE⟩;replace hA:=hA.after hE;replace hB:=hB.after hE;have h6:w.heap.size+1<w1.heap.size:=hB.lt;go_wp2_with fail
 have hd:Boxes w w1.heap.size (w1.heap.size+1) x y ((w1.alloc (.cells #[.bool (sg x),.string (E x.natAbs)] 74)).alloc (.cells #[.bool (sg y),.string (E y.natAbs)] 74)):=
  ⟨(hA.alloc _).alloc _,(hB.alloc _).alloc _,blk2a _ _ _ _ _,blk2b _ _ _ _ _,ba (ba (bt (b2 _ _ _) hE) _) _⟩
 generalize ((w1.alloc (.cells #[.bool (sg x),.string (E x.natAbs)] 74)).alloc (.cells #[.bool (sg y),.string (E y.natAbs)] 74))=w2 at hd;obtain⟨bx,h7⟩:∃bx,w1.heap.size=bx:=⟨_,rfl⟩;rw[h7]at hd h6 ⊢;clear h7 hA hB;refine (rdivmod_c b g _ HB.out HG.out h3.out).mono ?_;rintro e w3 ⟨rfl,Ho⟩;replace hd:=hd.after Ho;rw[HM.out];go_wp2_with fail
 refine (rdivmod_c a g _ HA.out HG.out h3.out).mono ?_;rintro e w4 ⟨rfl,hb4⟩;replace hd:=hd.after hb4;rw[HK.out];go_upto_region 8 with fail
 have hX:=hd.x;obtain⟨hF,hG,hH,hI⟩:=hX.x2;have HE:bx+1<w4.heap.size:=hd.y.lt;have Hp:bx<w4.heap.size:=hd.x.lt;go_cut [17,18] (fun s17 s18 wx=>s18=.string (E r)∧PBox w bx (bx+1) x y q s17 wx)
 case first =>
  go_region_with (first | (go_at_call 145;refine (rifromS_c m _ h4.out).mono ?_;rintro e wf ⟨rfl,hi⟩;have hc:Boxes w bx (bx+1) x y wf:=(by first | exact hd.drew.after hi | exact (hd.alloc _).drew.after hi);have yf0:=hc.x.cell 0;have yf1:=hc.x.cell 1;have Hq:bx+1<wf.heap.size:=hc.y.lt;have Hr:bx<wf.heap.size:=hc.x.lt) | (go_at_call 346;refine (ridivmodP_c x m _ HX.out h4.out Hh.out q r HQ.out HR.out).mono ?_;rintro e wd ⟨rfl,hbd⟩;have he:Boxes w bx (bx+1) x y wd:=(by first | exact hc.after hbd | exact (hc.alloc _).after hbd);(try (have kA:=((Blk.new w4 #[Value.bool false,Value.string { data:=#[] }] 74).drew.after hi).after hbd;have kA0:=kA.cell 0;have kA1:=kA.cell 1;have kA2:=kA.free 0;have kA3:=kA.free 1));(try (have kB:=(Blk.new wf #[Value.bool false,Value.string { data:=#[] }] 74).after hbd;have kB0:=kB.cell 0;have kB1:=kB.cell 1;have kB2:=kB.free 0;have kB3:=kB.free 1))))
  all_goals
   go_wp2_with fail
   go_meet
   refine⟨rfl,?_⟩;first | exact PBox.of_alloc he | exact PBox.of_set he kA (by have:=hd.r2.lt;omega) (by omega) (by omega) | exact PBox.of_set he kB (by have:=hc.r2.lt;omega) (by omega) (by omega)
 case rest =>
  obtain⟨rfl,gq,rfl,hQ,HF,HH,HI,hh⟩:=hcut;clear hF hG hH hI;clear hX;obtain⟨Hs,Ht,Hu,Hv⟩:=hQ.x2;have HJ:bx+1<wc.heap.size:=hh.y.lt;have Hw:gq<wc.heap.size:=hQ.lt;obtain⟨wq,Hx⟩:∃wq,wq=wc:=⟨_,rfl⟩;subst Hx;go_upto_region 9 with fail
  go_cut [20] (fun s20 wx=>PBox w bx (bx+1) x y p s20 wx)
  case first =>
   go_region_with (first | (go_at_call 145;refine (rifromS_c k _ h5.out).mono ?_;rintro e wf ⟨rfl,hi⟩;have hJ:Blk wf gq 74 [Value.bool (sg q),Value.string (E q.natAbs)]:=(by first | exact hQ.drew.after hi | exact (hQ.alloc _).drew.after hi);have hc:Boxes w bx (bx+1) x y wf:=(by first | exact hh.drew.after hi | exact (hh.alloc _).drew.after hi);have yf0:=hJ.cell 0;have yf1:=hJ.cell 1;have Hq:bx+1<wf.heap.size:=hc.y.lt;have Hy:gq<wf.heap.size:=hJ.lt) | (go_at_call 67;refine (rimulR_c q k _ Hi.out h5.out Hj.out p HP.out).mono ?_;rintro e wd ⟨rfl,hbd⟩;have he:Boxes w bx (bx+1) x y wd:=(by first | exact hc.after hbd | exact (hc.alloc _).after hbd);(try (have kA:=((Blk.new wq #[Value.bool false,Value.string { data:=#[] }] 74).drew.after hi).after hbd;have kA0:=kA.cell 0;have kA1:=kA.cell 1;have kA2:=kA.free 0;have kA3:=kA.free 1));(try (have kB:=(Blk.new wf #[Value.bool false,Value.string { data:=#[] }] 74).after hbd;have kB0:=kB.cell 0;have kB1:=kB.cell 1;have kB2:=kB.free 0;have kB3:=kB.free 1))))
   all_goals
    go_wp2_with fail
    go_meet
    first | exact PBox.of_alloc he | exact PBox.of_set he kA (by have:=hh.r2.lt;omega) (by omega) (by omega) | exact PBox.of_set he kB (by have:=hc.r2.lt;omega) (by omega) (by omega)
  case rest =>
   obtain⟨gp,rfl,hP,HL,HN,HO,hj⟩:=hcut;have hY:=hj.y;obtain⟨hn,ho,ht,hu⟩:=hY.x2;obtain⟨hK,hL,hM,hN⟩:=hP.x2;go_wp2_with fail
   refine (riadd_c y p _ HY.out Hk.out Hl.out).mono ?_;rintro e w6 ⟨rfl,Hz⟩;clear hn ho ht hu;clear hK hL hM hN;have hl:=hj.after Hz;have h8:=hl.y;obtain⟨hv,hw,hC,hD⟩:=h8.x2;go_wp2_with fail
   have hf:=hl.setY (z:=y+p) (by omega) (by omega);clear hv hw hC hD;clear h8 hY;generalize ((w6.setCell ⟨bx+1,0,none⟩ (.bool (sg (y+p)))).setCell ⟨bx+1,1,none⟩ (.string (E (y+p).natAbs)))=w8 at hf;have hY:=hf.y;have HC:=hf.r1;have HD:=hf.r2;obtain⟨hn,ho,ht,hu⟩:=hY.x2;obtain⟨h9,Ha,Hb,Hc⟩:=HC.x2;obtain⟨Hd,He,Hf,Hg⟩:=HD.x2;have HS:w.heap.size+1<bx:=h6;go_region_with (first | (go_at_call 145;refine (rifromS_c r _ Hm.out).mono ?_;rintro e wf ⟨rfl,hi⟩;have hc:Boxes w bx (bx+1) x (y+p) wf:=(by exact hf.drew.after hi);have yf0:=hc.y.cell 0;have yf1:=hc.y.cell 1;have rf0:=hc.r1.cell 0;have rf1:=hc.r1.cell 1;have sf0:=hc.r2.cell 0;have sf1:=hc.r2.cell 1;have tf0:=hc.r1.free 0;have tf1:=hc.r1.free 1;have vf0:=hc.r2.free 0;have vf1:=hc.r2.free 1))
   all_goals go_wp2
   all_goals
    refine bodyPost_ret (v:=.tuple #[.string (E g),.agg #[.bool (sg (r:Int)),.string (E r)],.agg #[.bool (sg (y+p)),.string (E (y+p).natAbs)],.int .i64 0]) ?_ rfl ⟨rfl,?_⟩
    ·simp[results,Tryz.results329,go_sem,yf0,yf1,rf0,rf1,sf0,sf1]
    ·repeat (first | exact hc.below | (refine Below.drew ?_) | (refine Below.setCell ?_ (by first | omega | (dsimp only;omega) | (simp;done)) _))
def invR (a b:Nat):Nat:=((bz b a b).1%((b / Nat.gcd a b:Nat):Int)).toNat
def extY (a b:Nat):Int:=(bz b a b).2+(bz b a b).1 / ((b / Nat.gcd a b:Nat):Int)*((a / Nat.gcd a b:Nat):Int)
theorem natAbs_ediv_le (z:Int) (m:Nat):(z / (m:Int)).natAbs≤z.natAbs:=Int.natAbs_ediv_le_natAbs z m
theorem rext_c (a b:Nat) (w:World) (ha:a<256^32) (hb:b<256^32) (h0:0<b) :
  Calls Tryz.prog 329 #[.string (E a),.string (E b)] w fun e w'=>e=.returned (.tuple #[.string (E (Nat.gcd a b)),.agg #[.bool (sg (invR a b:Int)),.string (E (invR a b))],.agg #[.bool (sg (extY a b)),.string (E (extY a b).natAbs)],.int .i64 0])∧Bw w w':=by
 have hd:0<Nat.gcd a b:=Nat.gcd_pos_of_pos_right a h0;have he:Nat.gcd a b≤b:=Nat.gcd_le_right a h0;have hf:0<b / Nat.gcd a b:=Nat.div_pos he hd;have hi:b / Nat.gcd a b≤b:=Nat.div_le_self _ _;have hj:a / Nat.gcd a b≤a:=Nat.div_le_self _ _;obtain⟨_,hx,hy⟩:=bz_spec b a b (Nat.le_refl _);have hk:(256:Nat)^32*256^96=256^128:=by rw[←Nat.pow_add]
 have hg:0<(256:Nat)^96:=Nat.pow_pos (by decide)
 have hc:∀n,n<256^32→n<256^128:=fun n hn=>by
  have:256^32*1≤(256:Nat)^32*256^96:=Nat.mul_le_mul_left _ hg;omega
 have hq:=natAbs_ediv_le (bz b a b).1 (b / Nat.gcd a b);have hr:=Int.emod_lt_of_pos (bz b a b).1 (show (0:Int)<((b / Nat.gcd a b:Nat):Int) by omega);have hl:=Int.emod_nonneg (bz b a b).1 (show ((b / Nat.gcd a b:Nat):Int)≠0 by omega);have h1:(1:Nat)<256^32:=by decide
 have hh:((bz b a b).1 / ((b / Nat.gcd a b:Nat):Int)).natAbs*(a / Nat.gcd a b)<256^64:=by
  have:(256:Nat)^64=256^32*256^32:=by rw[←Nat.pow_add]
  rw[this];exact Nat.mul_lt_mul'' (by omega) (by omega)
 have hm:(256:Nat)^64<256^128:=by decide
 have ho:(256:Nat)^32+256^64<256^128:=by decide
 have hp:((bz b a b).1 / ((b / Nat.gcd a b:Nat):Int)*((a / Nat.gcd a b:Nat):Int)).natAbs<256^64:=by
  rw[Int.natAbs_mul,Int.natAbs_natCast];exact hh
 have q1:((bz b a b).1 / ((b / Nat.gcd a b:Nat):Int)).natAbs<256^128:=hc _ (by omega);have q2:((bz b a b).1%((b / Nat.gcd a b:Nat):Int)).toNat<256^128:=hc _ (by omega);have q3:(bz b a b).1.natAbs<256^128:=hc _ (by omega);have q4:(bz b a b).2.natAbs<256^128:=hc _ (by omega)
 have q5:((bz b a b).2+(bz b a b).1 / ((b / Nat.gcd a b:Nat):Int)*((a / Nat.gcd a b:Nat):Int)).natAbs<256^128:=by
  have:=Int.natAbs_add_le (bz b a b).2 ((bz b a b).1 / ((b / Nat.gcd a b:Nat):Int)*((a / Nat.gcd a b:Nat):Int));omega
 exact rext_body a b (Nat.gcd a b) _ _ (bz b a b).1 (bz b a b).2 _ _ _ w (hc a ha) (hc b hb) h0 hd (hc _ (by omega)) rfl rfl hf (hc _ (by omega)) (hc _ (by omega)) q3 q4 rfl rfl q1 (by omega) rfl (by omega) q5 q2 (fun w=>rbezout_c b a b w (Nat.le_refl _) (hc a ha) (hc b hb))
end
end Go.Proofs.YtihjpddbjhcbmaaGreatDoor
