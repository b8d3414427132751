import Derived.Test.YtdoacbdkbbpamaaGreatDoorRInt5
set_option linter.unusedVariables false
set_option linter.unusedSimpArgs false
set_option maxRecDepth 100000
set_option maxHeartbeats 16000000
namespace Go.Proofs.YtdoacbdkbbpamaaGreatDoor
open Go.RowKit
theorem ridivmodP_c (z:Int) (m:Nat) (w:World) (hz:z.natAbs<256^128) (hm:m<256^128) (h0:0<m) (q:Int) (r:Nat) (hq:z / (m:Int)=q) (hr:(z%(m:Int)).toNat=r) :
  Calls Tryz.prog 43 #[.agg #[.bool (sg (z)),.string (E (z).natAbs)],.agg #[.bool (sg (m:Int)),.string (E m)]] w fun e w'=>e=.returned (.tuple #[.agg #[.bool (sg (q)),.string (E (q).natAbs)],.string (E r),.int .i64 0])∧Below w.heap.size w w':=by
 have:=ridivmod_c z m w hz hm h0;rw [hq,hr] at this;exact this
theorem rimulR_c (q:Int) (n:Nat) (w:World) (hq:q.natAbs<256^128) (hn:n<256^128) (hxy:q.natAbs*n<256^128) (p:Int) (hp:q*(n:Int)=p) :
  Calls Tryz.prog 92 #[.agg #[.bool (sg (q)),.string (E (q).natAbs)],.agg #[.bool (sg (n:Int)),.string (E n)]] w fun e w'=>e=.returned (.tuple #[.agg #[.bool (sg (p)),.string (E (p).natAbs)],.int .i64 0])∧Below w.heap.size w w':=by
 have:=rimul_c q (n:Int) w hq (by simpa using hn) (by simpa using hxy);rw [Int.natAbs_natCast,hp] at this;exact this
theorem Boxes.setY {w wx:World} {bx b2:Nat} {x y z:Int} (h:Boxes w bx b2 x y wx) (h1:w.heap.size+1<b2) (h2:bx≠b2):Boxes w bx b2 x z ((wx.setCell ⟨b2,0,none⟩ (.bool (sg z))).setCell ⟨b2,1,none⟩ (.string (E z.natAbs))):=
 ⟨(h.r1.other _ _ (by simp;omega)).other _ _ (by simp;omega),(h.r2.other _ _ (by simp;omega)).other _ _ (by simp;omega),(h.x.other _ _ h2).other _ _ h2,(h.y.set 0 _).set 1 _,(h.below.setCell (by simp;omega) _).setCell (by simp;omega) _⟩
theorem rext_body (a b g m k:Nat) (x y q p:Int) (r:Nat) (w:World) (ha:a<256^128) (hb:b<256^128) (h0:0<b) (hg0:0<g) (hg:g<256^128)
  (hm:b / g=m) (hk:a / g=k) (hm0:0<m) (hmb:m<256^128) (hkb:k<256^128) (hx:x.natAbs<256^128) (hy:y.natAbs<256^128)
  (hq:x / (m:Int)=q) (hr:(x%(m:Int)).toNat=r) (hqb:q.natAbs<256^128) (hqk:q.natAbs*k<256^128) (hp:q*(k:Int)=p) (hpb:p.natAbs<256^128) (hyp:(y+p).natAbs<256^128) (hrb:r<256^128)
  (hbz:∀w,Calls Tryz.prog 218 #[.string (E a),.string (E b)] w fun e w'=>e=.returned (.tuple #[.string (E g),.agg #[.bool (sg (x)),.string (E (x).natAbs)],.agg #[.bool (sg (y)),.string (E (y).natAbs)]])∧Below w.heap.size w w') :
  Calls Tryz.prog 207 #[.string (E a),.string (E b)] w fun e w'=>e=.returned (.tuple #[.string (E g),.agg #[.bool (sg (r:Int)),.string (E r)],.agg #[.bool (sg (y+p)),.string (E (y+p).natAbs)],.int .i64 0])∧Below w.heap.size w w':=by
 have HA:=Lib.hid ha;have HB:=Lib.hid hb;have HG0:=Lib.hid hg0;have HG:=Lib.hid hg;have HM0:=Lib.hid hm0;have HMB:=Lib.hid hmb;have HKB:=Lib.hid hkb;have HX:=Lib.hid hx;have HY:=Lib.hid hy;have HQ:=Lib.hid hq;have HR:=Lib.hid hr;have HQB:=Lib.hid hqb;have HQK:=Lib.hid hqk;have HP:=Lib.hid hp;have HPB:=Lib.hid hpb;have HYP:=Lib.hid hyp;have HRB:=Lib.hid hrb;have HBZ:=Lib.hid hbz;have HM:=Lib.hid hm;have HK:=Lib.hid hk;have hz:=nzE h0;clear ha hb h0 hg0 hg hm0 hmb hkb hx hy hq hr hqb hqk hp hpb hyp hrb hbz hm hk;have hA:=blk2a w #[Value.bool false,Value.string { data:=#[] }] #[Value.bool false,Value.string { data:=#[] }] 37 37;have hB:=blk2b w #[Value.bool false,Value.string { data:=#[] }] #[Value.bool false,Value.string { data:=#[] }] 37 37;go_enter Tryz.func207,Tryz.ntmps207
 go_wp2_with fail
 refine (rvalidE_c a _ HA.out).mono ?_;rintro e w' ⟨rfl,rfl⟩;go_wp2_with fail
 refine (rvalidE_c b _ HB.out).mono ?_;rintro e w' ⟨rfl,rfl⟩;go_wp2_with fail
 refine (HBZ.out _).mono ?_;rintro e w1 ⟨rfl,hb1⟩;replace hA:=hA.after hb1;replace hB:=hB.after hb1;have hl1:w.heap.size+1<w1.heap.size:=hB.lt;go_wp2_with fail
 have hbox:Boxes w w1.heap.size (w1.heap.size+1) x y ((w1.alloc (.cells #[.bool (sg x),.string (E x.natAbs)] 37)).alloc (.cells #[.bool (sg y),.string (E y.natAbs)] 37)):=
  ⟨(hA.alloc _).alloc _,(hB.alloc _).alloc _,blk2a _ _ _ _ _,blk2b _ _ _ _ _,ba (ba (bt (b2 _ _ _) hb1) _) _⟩
 generalize ((w1.alloc (.cells #[.bool (sg x),.string (E x.natAbs)] 37)).alloc (.cells #[.bool (sg y),.string (E y.natAbs)] 37))=w2 at hbox;obtain ⟨bx,hbx⟩:∃bx,w1.heap.size=bx:=⟨_,rfl⟩;rw [hbx] at hbox hl1 ⊢;clear hbx hA hB;refine (rdivmod_c b g _ HB.out HG.out HG0.out).mono ?_;rintro e w3 ⟨rfl,hb3⟩;replace hbox:=hbox.after hb3;rw [HM.out];go_wp2_with fail
 refine (rdivmod_c a g _ HA.out HG.out HG0.out).mono ?_;rintro e w4 ⟨rfl,hb4⟩;replace hbox:=hbox.after hb4;rw [HK.out];go_upto_region 8 with fail
 have hX:=hbox.x;obtain ⟨hXc0,hXf0,hXc1,hXf1⟩:=hX.x2;have hl4:bx+1<w4.heap.size:=hbox.y.lt;have hl4x:bx<w4.heap.size:=hbox.x.lt;go_cut [17,18] (fun s17 s18 wx=>s18=.string (E r)∧PBox w bx (bx+1) x y q s17 wx)
 case first =>
  go_region_with (first | (go_at_call 44;refine (rifromS_c m _ HMB.out).mono ?_;rintro e wf ⟨rfl,hbf⟩;have hboxf:Boxes w bx (bx+1) x y wf:=(by first | exact hbox.drew.after hbf | exact (hbox.alloc _).drew.after hbf);have yf0:=hboxf.x.cell 0;have yf1:=hboxf.x.cell 1;have hlf:bx+1<wf.heap.size:=hboxf.y.lt;have hlfx:bx<wf.heap.size:=hboxf.x.lt) | (go_at_call 43;refine (ridivmodP_c x m _ HX.out HMB.out HM0.out q r HQ.out HR.out).mono ?_;rintro e wd ⟨rfl,hbd⟩;have hboxd:Boxes w bx (bx+1) x y wd:=(by first | exact hboxf.after hbd | exact (hboxf.alloc _).after hbd);(try (have kA:=((Blk.new w4 #[Value.bool false,Value.string { data:=#[] }] 37).drew.after hbf).after hbd;have kA0:=kA.cell 0;have kA1:=kA.cell 1;have kA2:=kA.free 0;have kA3:=kA.free 1));(try (have kB:=(Blk.new wf #[Value.bool false,Value.string { data:=#[] }] 37).after hbd;have kB0:=kB.cell 0;have kB1:=kB.cell 1;have kB2:=kB.free 0;have kB3:=kB.free 1))))
  all_goals
   go_wp2_with fail
   go_meet
   refine ⟨rfl,?_⟩;first | exact PBox.of_alloc hboxd | exact PBox.of_set hboxd kA (by have:=hbox.r2.lt;omega) (by omega) (by omega) | exact PBox.of_set hboxd kB (by have:=hboxf.r2.lt;omega) (by omega) (by omega)
 case rest =>
  obtain ⟨rfl,gq,rfl,hQ,hg1,hg2,hg3,hbox5⟩:=hcut;clear hXc0 hXf0 hXc1 hXf1;clear hX;obtain ⟨hQc0,hQf0,hQc1,hQf1⟩:=hQ.x2;have hl5:bx+1<wc.heap.size:=hbox5.y.lt;have hl5q:gq<wc.heap.size:=hQ.lt;obtain ⟨wq,hwq⟩:∃wq,wq=wc:=⟨_,rfl⟩;subst hwq;go_upto_region 9 with fail
  go_cut [20] (fun s20 wx=>PBox w bx (bx+1) x y p s20 wx)
  case first =>
   go_region_with (first | (go_at_call 44;refine (rifromS_c k _ HKB.out).mono ?_;rintro e wf ⟨rfl,hbf⟩;have hQf:Blk wf gq 37 [Value.bool (sg q),Value.string (E q.natAbs)]:=(by first | exact hQ.drew.after hbf | exact (hQ.alloc _).drew.after hbf);have hboxf:Boxes w bx (bx+1) x y wf:=(by first | exact hbox5.drew.after hbf | exact (hbox5.alloc _).drew.after hbf);have yf0:=hQf.cell 0;have yf1:=hQf.cell 1;have hlf:bx+1<wf.heap.size:=hboxf.y.lt;have hlfq:gq<wf.heap.size:=hQf.lt) | (go_at_call 92;refine (rimulR_c q k _ HQB.out HKB.out HQK.out p HP.out).mono ?_;rintro e wd ⟨rfl,hbd⟩;have hboxd:Boxes w bx (bx+1) x y wd:=(by first | exact hboxf.after hbd | exact (hboxf.alloc _).after hbd);(try (have kA:=((Blk.new wq #[Value.bool false,Value.string { data:=#[] }] 37).drew.after hbf).after hbd;have kA0:=kA.cell 0;have kA1:=kA.cell 1;have kA2:=kA.free 0;have kA3:=kA.free 1));(try (have kB:=(Blk.new wf #[Value.bool false,Value.string { data:=#[] }] 37).after hbd;have kB0:=kB.cell 0;have kB1:=kB.cell 1;have kB2:=kB.free 0;have kB3:=kB.free 1))))
   all_goals
    go_wp2_with fail
    go_meet
    first | exact PBox.of_alloc hboxd | exact PBox.of_set hboxd kA (by have:=hbox5.r2.lt;omega) (by omega) (by omega) | exact PBox.of_set hboxd kB (by have:=hboxf.r2.lt;omega) (by omega) (by omega)
  case rest =>
   obtain ⟨gp,rfl,hP,hh1,hh2,hh3,hbox6⟩:=hcut;have hY:=hbox6.y;obtain ⟨hYc0,hYf0,hYc1,hYf1⟩:=hY.x2;obtain ⟨hPc0,hPf0,hPc1,hPf1⟩:=hP.x2;go_wp2_with fail
   refine (riadd_c y p _ HY.out HPB.out HYP.out).mono ?_;rintro e w6 ⟨rfl,hb6⟩;clear hYc0 hYf0 hYc1 hYf1;clear hPc0 hPf0 hPc1 hPf1;have hbox7:=hbox6.after hb6;have hY7:=hbox7.y;obtain ⟨hY7c0,hY7f0,hY7c1,hY7f1⟩:=hY7.x2;go_wp2_with fail
   have hbox8:=hbox7.setY (z:=y+p) (by omega) (by omega);clear hY7c0 hY7f0 hY7c1 hY7f1;clear hY7 hY;generalize ((w6.setCell ⟨bx+1,0,none⟩ (.bool (sg (y+p)))).setCell ⟨bx+1,1,none⟩ (.string (E (y+p).natAbs)))=w8 at hbox8;have hY:=hbox8.y;have hR1:=hbox8.r1;have hR2:=hbox8.r2;obtain ⟨hYc0,hYf0,hYc1,hYf1⟩:=hY.x2;obtain ⟨hR1c0,hR1f0,hR1c1,hR1f1⟩:=hR1.x2;obtain ⟨hR2c0,hR2f0,hR2c1,hR2f1⟩:=hR2.x2;have hlr:w.heap.size+1<bx:=hl1;go_region_with (first | (go_at_call 44;refine (rifromS_c r _ HRB.out).mono ?_;rintro e wf ⟨rfl,hbf⟩;have hboxf:Boxes w bx (bx+1) x (y+p) wf:=(by exact hbox8.drew.after hbf);have yf0:=hboxf.y.cell 0;have yf1:=hboxf.y.cell 1;have rf0:=hboxf.r1.cell 0;have rf1:=hboxf.r1.cell 1;have sf0:=hboxf.r2.cell 0;have sf1:=hboxf.r2.cell 1;have tf0:=hboxf.r1.free 0;have tf1:=hboxf.r1.free 1;have vf0:=hboxf.r2.free 0;have vf1:=hboxf.r2.free 1))
   all_goals go_wp2
   all_goals
    refine bodyPost_ret (v:=.tuple #[.string (E g),.agg #[.bool (sg (r:Int)),.string (E r)],.agg #[.bool (sg (y+p)),.string (E (y+p).natAbs)],.int .i64 0]) ?_ rfl ⟨rfl,?_⟩
    ·simp [results,Tryz.results207,go_sem,yf0,yf1,rf0,rf1,sf0,sf1]
    ·repeat (first | exact hboxf.below | (refine Below.drew ?_) | (refine Below.setCell ?_ (by first | omega | (dsimp only;omega) | (simp;done)) _))
def invR (a b:Nat):Nat:=((bz b a b).1%((b / Nat.gcd a b:Nat):Int)).toNat
def extY (a b:Nat):Int:=(bz b a b).2+(bz b a b).1 / ((b / Nat.gcd a b:Nat):Int)*((a / Nat.gcd a b:Nat):Int)
theorem natAbs_ediv_le (z:Int) (m:Nat):(z / (m:Int)).natAbs≤z.natAbs:=Int.natAbs_ediv_le_natAbs z m
theorem rext_c (a b:Nat) (w:World) (ha:a<256^32) (hb:b<256^32) (h0:0<b) :
  Calls Tryz.prog 207 #[.string (E a),.string (E b)] w fun e w'=>e=.returned (.tuple #[.string (E (Nat.gcd a b)),.agg #[.bool (sg (invR a b:Int)),.string (E (invR a b))],.agg #[.bool (sg (extY a b)),.string (E (extY a b).natAbs)],.int .i64 0])∧Below w.heap.size w w':=by
 have hg0:0<Nat.gcd a b:=Nat.gcd_pos_of_pos_right a h0;have hgb:Nat.gcd a b≤b:=Nat.gcd_le_right a h0;have hm0:0<b / Nat.gcd a b:=Nat.div_pos hgb hg0;have hmb:b / Nat.gcd a b≤b:=Nat.div_le_self _ _;have hka:a / Nat.gcd a b≤a:=Nat.div_le_self _ _;obtain ⟨_,hx,hy⟩:=bz_spec b a b (Nat.le_refl _);have h32:(256:Nat)^32*256^96=256^128:=by rw [←Nat.pow_add]
 have h96:0<(256:Nat)^96:=Nat.pow_pos (by decide)
 have hsm:∀n,n<256^32→n<256^128:=fun n hn=>by
  have:256^32*1≤(256:Nat)^32*256^96:=Nat.mul_le_mul_left _ h96;omega
 have hq:=natAbs_ediv_le (bz b a b).1 (b / Nat.gcd a b);have hr:=Int.emod_lt_of_pos (bz b a b).1 (show (0:Int)<((b / Nat.gcd a b:Nat):Int) by omega);have hr0:=Int.emod_nonneg (bz b a b).1 (show ((b / Nat.gcd a b:Nat):Int)≠0 by omega);have h1:(1:Nat)<256^32:=by decide
 have hqk:((bz b a b).1 / ((b / Nat.gcd a b:Nat):Int)).natAbs*(a / Nat.gcd a b)<256^64:=by
  have:(256:Nat)^64=256^32*256^32:=by rw [←Nat.pow_add]
  rw [this];exact Nat.mul_lt_mul'' (by omega) (by omega)
 have h64:(256:Nat)^64<256^128:=by decide
 have h65:(256:Nat)^32+256^64<256^128:=by decide
 have hpa:((bz b a b).1 / ((b / Nat.gcd a b:Nat):Int)*((a / Nat.gcd a b:Nat):Int)).natAbs<256^64:=by
  rw [Int.natAbs_mul,Int.natAbs_natCast];exact hqk
 have q1:((bz b a b).1 / ((b / Nat.gcd a b:Nat):Int)).natAbs<256^128:=hsm _ (by omega);have q2:((bz b a b).1%((b / Nat.gcd a b:Nat):Int)).toNat<256^128:=hsm _ (by omega);have q3:(bz b a b).1.natAbs<256^128:=hsm _ (by omega);have q4:(bz b a b).2.natAbs<256^128:=hsm _ (by omega)
 have q5:((bz b a b).2+(bz b a b).1 / ((b / Nat.gcd a b:Nat):Int)*((a / Nat.gcd a b:Nat):Int)).natAbs<256^128:=by
  have:=Int.natAbs_add_le (bz b a b).2 ((bz b a b).1 / ((b / Nat.gcd a b:Nat):Int)*((a / Nat.gcd a b:Nat):Int));omega
 exact rext_body a b (Nat.gcd a b) _ _ (bz b a b).1 (bz b a b).2 _ _ _ w (hsm a ha) (hsm b hb) h0 hg0 (hsm _ (by omega)) rfl rfl hm0 (hsm _ (by omega)) (hsm _ (by omega)) q3 q4 rfl rfl q1 (by omega) rfl (by omega) q5 q2 (fun w=>rbezout_c b a b w (Nat.le_refl _) (hsm a ha) (hsm b hb))
end Go.Proofs.YtdoacbdkbbpamaaGreatDoor
