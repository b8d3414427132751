import Derived.Test.YtdgddpnjkinciaaGreatDoorLdvl
set_option linter.all false
set_option maxRecDepth 100000
set_option maxHeartbeats 16000000
namespace Go.Proofs.YtdgddpnjkinciaaGreatDoor
section
open Go.RowKit
theorem ifromS_c (n:Nat) (w:World) (hn:n<256^128) :
  Calls Tryz.prog 42 #[.string (E n)] w fun e w'=>e=.returned (.agg #[.bool (sg (n:Int)),.string (E n)])∧Bw w w':=by
 have:=ifrom_c n w hn;rwa [Int.natAbs_natCast]at this
theorem imulN_c (n:Nat) (y:Int) (w:World) (hn:n<256^8) (hy:y.natAbs<256^8) (hb:n*y.natAbs<256^8) (p:Int) (hp:(n:Int)*y=p) :
  Calls Tryz.prog 54 #[.agg #[.bool (sg (n:Int)),.string (E n)],.agg #[.bool (sg (y)),.string (E (y).natAbs)]] w fun e w'=>e=.returned (.tuple #[.agg #[.bool (sg (p)),.string (E (p).natAbs)],.int .i64 0])∧Bw w w':=by
 have:=imul_small (n:Int) y w (by simpa using hn) hy (by simpa using hb);rw[Int.natAbs_natCast,hp]at this;exact this
structure EBox (w:World) (bq q:Nat) (x0 x1:Int) (wx:World):Prop where
 a:Blk wx w.heap.size 235 [.bool (sg x0),.string (E x0.natAbs),.bool (sg x1),.string (E x1.natAbs)]
 r:Blk wx (w.heap.size+1) 235 [.bool false,.string { data:=#[] },.bool false,.string { data:=#[] }]
 q:Blk wx bq 22 [.string (E q)]
 below:Bw w wx
theorem EBox.after {w wx wy:World} {bq q:Nat} {x0 x1:Int} (h:EBox w bq q x0 x1 wx) (hb:Bw wx wy):EBox w bq q x0 x1 wy:=
 ⟨h.a.after hb,h.r.after hb,h.q.after hb,bt h.below hb⟩
theorem EBox.alloc {w wx:World} {bq q:Nat} {x0 x1:Int} (h:EBox w bq q x0 x1 wx) (o:Obj):EBox w bq q x0 x1 (wx.alloc o):=h.after (b1 _ _)
theorem EBox.drew {w wx:World} {bq q:Nat} {x0 x1:Int} (h:EBox w bq q x0 x1 wx):EBox w bq q x0 x1 wx.drew:=h.after Br.drew
theorem EBox.set {w wx:World} {bq q:Nat} {x0 x1:Int} (h:EBox w bq q x0 x1 wx) (g i:Nat) (v:Value) (h1:w.heap.size+1<g) (h2:bq≠g):EBox w bq q x0 x1 (wx.setCell ⟨g,i,none⟩ v):=
 ⟨h.a.other _ _ (by simp;omega),h.r.other _ _ (by simp;omega),h.q.other _ _ (by simpa using h2),h.below.setCell (by simp;omega) _⟩
def EP (w:World) (bq q:Nat) (x0 x1 p:Int) (s:Value) (wx:World):Prop:=
 ∃gp:Nat,s=.pointer (some ⟨gp,0,none⟩)∧Blk wx gp 28 [Value.bool (sg p),Value.string (E p.natAbs)]∧w.heap.size+1<gp∧EBox w bq q x0 x1 wx
theorem EP.of_set {w wx:World} {bq q g:Nat} {x0 x1 p:Int} {u v:Value} (h:EBox w bq q x0 x1 wx) (k:Blk wx g 28 [u,v]) (h1:w.heap.size+1<g) (h2:bq≠g) :
  EP w bq q x0 x1 p (.pointer (some ⟨g,0,none⟩)) ((wx.setCell ⟨g,0,none⟩ (.bool (sg p))).setCell ⟨g,1,none⟩ (.string (E p.natAbs))):=
 ⟨g,rfl,(k.set 0 _).set 1 _,h1,(h.set g 0 _ h1 h2).set g 1 _ h1 h2⟩
theorem EP.of_alloc {w wx:World} {bq q:Nat} {x0 x1 p:Int} (h:EBox w bq q x0 x1 wx) :
  EP w bq q x0 x1 p (.pointer (some ⟨wx.heap.size,0,none⟩)) (wx.alloc (.cells #[.bool (sg p),.string (E p.natAbs)] 28)):=
 ⟨wx.heap.size,rfl,Blk.new _ _ _,h.r.lt,h.alloc _⟩
theorem ext1_c (q bq:Nat) (x0 x1 p:Int) (w:World) (hq:q<256^8) (hx0:x0.natAbs<256^128) (hx1:x1.natAbs<256^8) (hm:q*x1.natAbs<256^8) (hp:(q:Int)*x1=p) (hD:p.natAbs<256^128) (hd:(x0-p).natAbs<256^128) (hQ:Blk w bq 22 [.string (E q)]) :
  Calls Tryz.prog 199 #[.agg #[.bool (sg x0),.string (E x0.natAbs),.bool (sg x1),.string (E x1.natAbs)],.pointer (some ⟨bq,0,none⟩)] w fun e w'=>e=.returned (.agg #[.bool (sg x1),.string (E x1.natAbs),.bool (sg (x0-p)),.string (E (x0-p).natAbs)])∧Bw w w':=by
 have hF:=Kh hq;have hG:=Kh (lt128 hq);have hH:=Kh hx0;have hI:=Kh hx1;have HM:=Kh hm;have HP:=Kh hp;have hJ:=Kh hD;have HD:=Kh hd;have Hc:=hQ.lt;clear hq hx0 hx1 hm hp hD hd;go_enter Tryz.func199,Tryz.ntmps199
 go_upto_region 1 with fail
 have hc:EBox w bq q x0 x1 ((w.alloc (.cells #[.bool (sg x0),.string (E x0.natAbs),.bool (sg x1),.string (E x1.natAbs)] 235)).alloc (.cells #[.bool false,.string { data:=#[] },.bool false,.string { data:=#[] }] 235)):=
  ⟨blk2a _ _ _ _ _,blk2b _ _ _ _ _,(hQ.alloc _).alloc _,b2 _ _ _⟩
 generalize ((w.alloc (.cells #[.bool (sg x0),.string (E x0.natAbs),.bool (sg x1),.string (E x1.natAbs)] 235)).alloc (.cells #[.bool false,.string { data:=#[] },.bool false,.string { data:=#[] }] 235))=w3 at hc;have hy0:=hc.a.cell 2;have hy1:=hc.a.cell 3;have Hd:=hc.q.cell 0;have He:w.heap.size+1<w3.heap.size:=hc.r.lt;have hK:w.heap.size<w3.heap.size:=hc.a.lt;have hL:bq<w3.heap.size:=hc.q.lt;go_cut [4] (fun s4 wx=>EP w bq q x0 x1 p s4 wx)
 case first =>
  go_region_with (first | (go_at_call 42;refine (ifromS_c q _ hG.out).mono ?_;rintro e wf ⟨rfl,hh⟩;have hb:EBox w bq q x0 x1 wf:=(by first | exact hc.drew.after hh | exact (hc.alloc _).drew.after hh);have yf0:=hb.a.cell 2;have yf1:=hb.a.cell 3;have Hf:w.heap.size+1<wf.heap.size:=hb.r.lt;have hM:w.heap.size<wf.heap.size:=hb.a.lt;have hN:bq<wf.heap.size:=hb.q.lt) | (go_at_call 54;refine (imulN_c q x1 _ hF.out hI.out HM.out p HP.out).mono ?_;rintro e wd ⟨rfl,hbd⟩;have hf:EBox w bq q x0 x1 wd:=(by first | exact hb.after hbd | exact (hb.alloc _).after hbd);(try (have kA:=((Blk.new w3 #[Value.bool false,Value.string { data:=#[] }] 28).drew.after hh).after hbd;have kA0:=kA.cell 0;have kA1:=kA.cell 1;have kA2:=kA.free 0;have kA3:=kA.free 1));(try (have kB:=(Blk.new wf #[Value.bool false,Value.string { data:=#[] }] 28).after hbd;have kB0:=kB.cell 0;have kB1:=kB.cell 1;have kB2:=kB.free 0;have kB3:=kB.free 1))))
  all_goals
   go_wp2_with fail
   go_meet
   first | exact EP.of_alloc hf | exact EP.of_set hf kA (by have:=hc.r.lt;omega) (by omega) | exact EP.of_set hf kB (by have:=hb.r.lt;omega) (by omega)
 case rest =>
  obtain⟨gp,rfl,hP,Hg,hg⟩:=hcut;have hX:=hg.a;obtain⟨hi,hj,hk,hl,hn,ho,hr,ht⟩:=hX.x4;obtain⟨hu,hv,hw,hx⟩:=hP.x2;go_wp2_with fail
  refine (isub_c x0 p _ hH.out hJ.out HD.out).mono ?_;rintro e w4 ⟨rfl,hb4⟩;clear hi hj hk hl hn ho hr ht;clear hu hv hw hx;have he:=hg.after hb4;have hZ:=Blk.new w4 #[Value.bool (sg (x0-p)),Value.string (E (x0-p).natAbs)] 28;have hE:=he.alloc (.cells #[Value.bool (sg (x0-p)),Value.string (E (x0-p).natAbs)] 28);have hY:=he.a;have hR:=he.r;have hO:w.heap.size+1<w4.heap.size:=he.r.lt;have hy:w.heap.size<w4.heap.size:=he.a.lt;obtain⟨hS,hT,hU,hV,hW,h0,h2,h3⟩:=hY.x4;obtain⟨hz,h4,hA,h5,hB,h6,hC,h7⟩:=hR.x4;obtain⟨h8,h9,Ha,Hb⟩:=hZ.x2;go_wp2;refine bodyPost_ret (v:=.agg #[.bool (sg x1),.string (E x1.natAbs),.bool (sg (x0-p)),.string (E (x0-p).natAbs)]) ?_ rfl ⟨rfl,?_⟩
  ·simp[results,Tryz.results199,go_sem,hz,hA,hB,hC,hO,hy]
  ·repeat (first | exact he.below | (refine ba ?_ _) | (refine Below.setCell ?_ (by first | omega | (dsimp only;omega) | (simp;done)) _))
end
section
open Go.RowKit
structure XBox (w:World) (br bx by_:Nat) (r0 r1:Nat) (x0 x1 y0 y1:Int) (wx:World):Prop where
 a:Blk wx w.heap.size 28 [.bool false,.string { data:=#[] }]
 b:Blk wx (w.heap.size+1) 28 [.bool false,.string { data:=#[] }]
 r:Blk wx br 234 [.string (E r0),.string (E r1)]
 x:Blk wx bx 235 [.bool (sg x0),.string (E x0.natAbs),.bool (sg x1),.string (E x1.natAbs)]
 y:Blk wx by_ 235 [.bool (sg y0),.string (E y0.natAbs),.bool (sg y1),.string (E y1.natAbs)]
 below:Bw w wx
theorem XBox.after {w wx wy:World} {br bx by_ r0 r1:Nat} {x0 x1 y0 y1:Int} (h:XBox w br bx by_ r0 r1 x0 x1 y0 y1 wx) (hb:Bw wx wy):XBox w br bx by_ r0 r1 x0 x1 y0 y1 wy:=
 ⟨h.a.after hb,h.b.after hb,h.r.after hb,h.x.after hb,h.y.after hb,bt h.below hb⟩
theorem XBox.alloc {w wx:World} {br bx by_ r0 r1:Nat} {x0 x1 y0 y1:Int} (h:XBox w br bx by_ r0 r1 x0 x1 y0 y1 wx) (o:Obj):XBox w br bx by_ r0 r1 x0 x1 y0 y1 (wx.alloc o):=h.after (b1 _ _)
theorem XBox.drew {w wx:World} {br bx by_ r0 r1:Nat} {x0 x1 y0 y1:Int} (h:XBox w br bx by_ r0 r1 x0 x1 y0 y1 wx):XBox w br bx by_ r0 r1 x0 x1 y0 y1 wx.drew:=h.after Br.drew
def XAt (w:World) (br bx by_:Nat):Prop:=w.heap.size+1<br∧br<bx∧bx<by_
theorem XBox.setR {w wx:World} {br bx by_ r0 r1:Nat} {x0 x1 y0 y1:Int} (h:XBox w br bx by_ r0 r1 x0 x1 y0 y1 wx) (hb:XAt w br bx by_) (s0 s1:Nat) :
  XBox w br bx by_ s0 s1 x0 x1 y0 y1 ((wx.setCell ⟨br,0,none⟩ (.string (E s0))).setCell ⟨br,1,none⟩ (.string (E s1))):=by
 obtain⟨h1,h2,h3⟩:=hb;exact⟨(h.a.other _ _ (by simp;omega)).other _ _ (by simp;omega),(h.b.other _ _ (by simp;omega)).other _ _ (by simp;omega),(h.r.set 0 _).set 1 _,(h.x.other _ _ (by simp;omega)).other _ _ (by simp;omega),(h.y.other _ _ (by simp;omega)).other _ _ (by simp;omega),(h.below.setCell (by simp;omega) _).setCell (by simp;omega) _⟩
theorem XBox.setX {w wx:World} {br bx by_ r0 r1:Nat} {x0 x1 y0 y1:Int} (h:XBox w br bx by_ r0 r1 x0 x1 y0 y1 wx) (hb:XAt w br bx by_) (z0 z1:Int) :
  XBox w br bx by_ r0 r1 z0 z1 y0 y1 ((((wx.setCell ⟨bx,0,none⟩ (.bool (sg z0))).setCell ⟨bx,1,none⟩ (.string (E z0.natAbs))).setCell ⟨bx,2,none⟩ (.bool (sg z1))).setCell ⟨bx,3,none⟩ (.string (E z1.natAbs))):=by
 obtain⟨h1,h2,h3⟩:=hb;refine⟨?_,?_,?_,(((h.x.set 0 _).set 1 _).set 2 _).set 3 _,?_,?_⟩
 ·exact (((h.a.other _ _ (by simp;omega)).other _ _ (by simp;omega)).other _ _ (by simp;omega)).other _ _ (by simp;omega)
 ·exact (((h.b.other _ _ (by simp;omega)).other _ _ (by simp;omega)).other _ _ (by simp;omega)).other _ _ (by simp;omega)
 ·exact (((h.r.other _ _ (by simp;omega)).other _ _ (by simp;omega)).other _ _ (by simp;omega)).other _ _ (by simp;omega)
 ·exact (((h.y.other _ _ (by simp;omega)).other _ _ (by simp;omega)).other _ _ (by simp;omega)).other _ _ (by simp;omega)
 ·exact (((h.below.setCell (by simp;omega) _).setCell (by simp;omega) _).setCell (by simp;omega) _).setCell (by simp;omega) _
theorem XBox.setY {w wx:World} {br bx by_ r0 r1:Nat} {x0 x1 y0 y1:Int} (h:XBox w br bx by_ r0 r1 x0 x1 y0 y1 wx) (hb:XAt w br bx by_) (z0 z1:Int) :
  XBox w br bx by_ r0 r1 x0 x1 z0 z1 ((((wx.setCell ⟨by_,0,none⟩ (.bool (sg z0))).setCell ⟨by_,1,none⟩ (.string (E z0.natAbs))).setCell ⟨by_,2,none⟩ (.bool (sg z1))).setCell ⟨by_,3,none⟩ (.string (E z1.natAbs))):=by
 obtain⟨h1,h2,h3⟩:=hb;refine⟨?_,?_,?_,?_,(((h.y.set 0 _).set 1 _).set 2 _).set 3 _,?_⟩
 ·exact (((h.a.other _ _ (by simp;omega)).other _ _ (by simp;omega)).other _ _ (by simp;omega)).other _ _ (by simp;omega)
 ·exact (((h.b.other _ _ (by simp;omega)).other _ _ (by simp;omega)).other _ _ (by simp;omega)).other _ _ (by simp;omega)
 ·exact (((h.r.other _ _ (by simp;omega)).other _ _ (by simp;omega)).other _ _ (by simp;omega)).other _ _ (by simp;omega)
 ·exact (((h.x.other _ _ (by simp;omega)).other _ _ (by simp;omega)).other _ _ (by simp;omega)).other _ _ (by simp;omega)
 ·exact (((h.below.setCell (by simp;omega) _).setCell (by simp;omega) _).setCell (by simp;omega) _).setCell (by simp;omega) _
theorem XBox.setX0 {w wx:World} {br bx by_ r0 r1:Nat} {x0 x1 y0 y1:Int} (h:XBox w br bx by_ r0 r1 x0 x1 y0 y1 wx) (hb:XAt w br bx by_) (z0:Int) :
  XBox w br bx by_ r0 r1 z0 x1 y0 y1 ((wx.setCell ⟨bx,0,none⟩ (.bool (sg z0))).setCell ⟨bx,1,none⟩ (.string (E z0.natAbs))):=by
 obtain⟨h1,h2,h3⟩:=hb;exact⟨(h.a.other _ _ (by simp;omega)).other _ _ (by simp;omega),(h.b.other _ _ (by simp;omega)).other _ _ (by simp;omega),(h.r.other _ _ (by simp;omega)).other _ _ (by simp;omega),(h.x.set 0 _).set 1 _,(h.y.other _ _ (by simp;omega)).other _ _ (by simp;omega),(h.below.setCell (by simp;omega) _).setCell (by simp;omega) _⟩
theorem XBox.setY0 {w wx:World} {br bx by_ r0 r1:Nat} {x0 x1 y0 y1:Int} (h:XBox w br bx by_ r0 r1 x0 x1 y0 y1 wx) (hb:XAt w br bx by_) (z0:Int) :
  XBox w br bx by_ r0 r1 x0 x1 z0 y1 ((wx.setCell ⟨by_,0,none⟩ (.bool (sg z0))).setCell ⟨by_,1,none⟩ (.string (E z0.natAbs))):=by
 obtain⟨h1,h2,h3⟩:=hb;exact⟨(h.a.other _ _ (by simp;omega)).other _ _ (by simp;omega),(h.b.other _ _ (by simp;omega)).other _ _ (by simp;omega),(h.r.other _ _ (by simp;omega)).other _ _ (by simp;omega),(h.x.other _ _ (by simp;omega)).other _ _ (by simp;omega),(h.y.set 0 _).set 1 _,(h.below.setCell (by simp;omega) _).setCell (by simp;omega) _⟩
def ExtPost (a b:Nat) (w:World) (e:Ending) (w':World):Prop:=
 ∃(x:Nat) (y:Int),(a:Int)*x+(b:Int)*y=(Nat.gcd a b:Nat)∧x<256^8 ∧
  e=.returned (.tuple #[.string (E (Nat.gcd a b)),.agg #[.bool (sg (x:Int)),.string (E x)],.agg #[.bool (sg (y)),.string (E (y).natAbs)],.int .i64 0])∧Bw w w'
def XRel (a b br bx by_:Nat) (w wr:World):Prop:=
 ∃(r0 r1:Nat) (x0 x1 y0 y1:Int) (u0 u1 v0 v1:Nat) (s:Int),Ext a b r0 r1 x0 x1 y0 y1 u0 u1 v0 v1 s∧r0<256^8∧r1<256^8∧(x0.natAbs<256^8∧y0.natAbs<256^8)∧XBox w br bx by_ r0 r1 x0 x1 y0 y1 wr
theorem ext_bounds {a b r0 r1:Nat} {x0 x1 y0 y1:Int} {u0 u1 v0 v1:Nat} {s:Int} (h:Ext a b r0 r1 x0 x1 y0 y1 u0 u1 v0 v1 s) (h0:0<r1) (ha:a<256^8) (hb:b<256^8) :
  x0.natAbs<256^128∧x1.natAbs<256^8∧r0 / r1*x1.natAbs<256^8∧(((r0 / r1:Nat):Int)*x1).natAbs<256^128∧(x0-((r0 / r1:Nat):Int)*x1).natAbs<256^128 ∧
  y0.natAbs<256^128∧y1.natAbs<256^8∧r0 / r1*y1.natAbs<256^8∧(((r0 / r1:Nat):Int)*y1).natAbs<256^128∧(y0-((r0 / r1:Nat):Int)*y1).natAbs<256^128:=by
 obtain⟨e0,e1,e2,e3⟩:=h.xle;obtain⟨f0,f1,f2,f3⟩:=(h.step h0).xle;have hc:=(h.step h0).bu;have hd:=(h.step h0).av
 have k1:u0+r0 / r1*u1≤b:=by
  have:(u0+r0 / r1*u1)*1≤(u0+r0 / r1*u1)*r1:=Nat.mul_le_mul_left _ h0;omega
 have k2:v0+r0 / r1*v1≤a:=by
  have:(v0+r0 / r1*v1)*1≤(v0+r0 / r1*v1)*r1:=Nat.mul_le_mul_left _ h0;omega
 have k3:=Int.natAbs_mul ((r0 / r1:Nat):Int) x1;have k4:=Int.natAbs_mul ((r0 / r1:Nat):Int) y1;rw[Int.natAbs_natCast,e1]at k3;rw[Int.natAbs_natCast,e3]at k4;have h8:(256:Nat)^8≤256^128:=Nat.pow_le_pow_right (by decide) (by decide)
 have u1b:u1≤b∨u1≤1:=by
  rcases h.mono with⟨_,_,h1,_⟩ | ⟨hu,hlt⟩
  ·right;omega
  ·left
   have:=h.bu;have:u1*1≤u1*r0:=Nat.mul_le_mul_left _ (by omega);omega
 have v1b:v1≤a∨v1≤1:=by
  rcases h.mono with⟨_,_,_,_,_,h1⟩ | ⟨hu,hlt⟩
  ·right;omega
  ·left
   have:=h.av;have:v1*1≤v1*r0:=Nat.mul_le_mul_left _ (by omega);omega
 have one8:(1:Nat)<256^8:=by decide
 rw[e0,e1,e2,e3,f1,f3,k3,k4];omega
theorem ExtPost.mk {a b r0 x:Nat} {y:Int} {w w':World} (hg:r0=Nat.gcd a b) (he:(a:Int)*x+(b:Int)*y=(r0:Nat)) (hx:x<256^8) (hB:Bw w w') :
  ExtPost a b w (.returned (.tuple #[.string (E r0),.agg #[.bool false,.string (E x)],.agg #[.bool (sg (y)),.string (E (y).natAbs)],.int .i64 0])) w':=by
 subst hg;exact⟨x,y,he,hx,by rw[sg_nat],hB⟩
theorem ext_end {a b r0:Nat} {x0 x1 y0 y1:Int} {u0 u1 v0 v1:Nat} {s:Int} (h:Ext a b r0 0 x0 x1 y0 y1 u0 u1 v0 v1 s) (hn:x0<0) :
  0<r0∧0≤x0+((b / r0:Nat):Int)∧(a:Int)*(x0+((b / r0:Nat):Int))+(b:Int)*(y0-((a / r0:Nat):Int))=(r0:Nat):=by
 have hg:=h.g;rw[Nat.gcd_zero_right]at hg
 obtain⟨hu,hlt⟩:u0≤u1∧0<r0:=by
  rcases h.mono with⟨h1,h2,_⟩ | h1
  ·have:=h.hx0;rw[h1,h2]at this;omega
  ·exact h1
 have hb:=h.bu;rw[Nat.mul_zero,Nat.zero_add]at hb;have e1:b / r0=u1:=by rw[←hb];exact Nat.mul_div_cancel _ hlt
 have ha:r0∣a:=by rw[hg];exact Nat.gcd_dvd_left a b
 have hx:=h.xle.1;refine⟨hlt,by rw[e1];omega,?_⟩;obtain⟨k,rfl⟩:=ha;have e2:r0*k / r0=k:=Nat.mul_div_cancel_left _ hlt;have e0:=h.e0;rw[e1,e2];have hc:(b:Int)=u1*r0:=by rw[←hb];push_cast;rfl
 rw[←e0,hc];push_cast
 grind
theorem iaddU_c (x:Int) (n:Nat) (w:World) (hx:x.natAbs<256^128) (hn:n<256^128) (hs:(x+(n:Int)).natAbs<256^128) :
  Calls Tryz.prog 82 #[.agg #[.bool (sg (x)),.string (E (x).natAbs)],.agg #[.bool (sg (n:Int)),.string (E n)]] w fun e w'=>e=.returned (.tuple #[.agg #[.bool (sg (x+(n:Int))),.string (E (x+(n:Int)).natAbs)],.int .i64 0])∧Bw w w':=by
 have:=iadd_c x (n:Int) w hx (by simpa using hn) hs;rwa [Int.natAbs_natCast]at this
theorem isubU_c (x:Int) (n:Nat) (w:World) (hx:x.natAbs<256^128) (hn:n<256^128) (hs:(x-(n:Int)).natAbs<256^128) :
  Calls Tryz.prog 48 #[.agg #[.bool (sg (x)),.string (E (x).natAbs)],.agg #[.bool (sg (n:Int)),.string (E n)]] w fun e w'=>e=.returned (.tuple #[.agg #[.bool (sg (x-(n:Int))),.string (E (x-(n:Int)).natAbs)],.int .i64 0])∧Bw w w':=by
 have:=isub_c x (n:Int) w hx (by simpa using hn) hs;rwa [Int.natAbs_natCast]at this
theorem iext_c (a b:Nat) (w:World) (ha:a<256^8) (hb:b<256^8) (h0:0<b) :
  Calls Tryz.prog 171 #[.string (E a),.string (E b)] w (ExtPost a b w):=by
 have HA:=Kh ha;have HB:=Kh hb;have jh:=Kh (lt128 ha);have ji:=Kh (lt128 hb);have hz:=nzE h0;have HI:=Kh (fun w=>iof_c 1 w (by decide) (by decide));have HJ:=Kh (fun w=>iof_c 0 w (by decide) (by decide));obtain⟨hA,hB,hR,HK⟩:=blk3 w #[Value.bool false,Value.string { data:=#[] }] #[Value.bool false,Value.string { data:=#[] }] #[Value.string (E a),Value.string (E b)] 28 28 234;clear ha hb h0;go_enter Tryz.func171,Tryz.ntmps171
 go_wp2_with fail
 refine (validE_c a _ jh.out).mono ?_;rintro e w' ⟨rfl,rfl⟩;go_wp2_with fail
 refine (validE_c b _ ji.out).mono ?_;rintro e w' ⟨rfl,rfl⟩;go_wp2_with fail
 refine (HI.out _).mono ?_;rintro e w1 ⟨rfl,Hb⟩;go_wp2_with fail
 refine (HJ.out _).mono ?_;rintro e w2 ⟨rfl,Hc⟩;go_wp2_with fail
 refine (HJ.out _).mono ?_;rintro e w3 ⟨rfl,Hd⟩;go_wp2_with fail
 refine (HI.out _).mono ?_;rintro e w4 ⟨rfl,hb4⟩;go_wp2_with fail
 replace hA:=hA.after Hb;replace hB:=hB.after Hb;replace hR:=hR.after Hb;replace hA:=hA.after Hc;replace hB:=hB.after Hc;replace hR:=hR.after Hc;replace hA:=hA.after Hd;replace hB:=hB.after Hd;replace hR:=hR.after Hd;replace hA:=hA.after hb4;replace hB:=hB.after hb4;replace hR:=hR.after hb4;have h9:XAt w (w.heap.size+1+1) w4.heap.size (w4.heap.size+1):=⟨by omega,hR.lt,by omega⟩
 have hc:XBox w (w.heap.size+1+1) w4.heap.size (w4.heap.size+1) a b 1 0 0 1 ((w4.alloc (.cells #[.bool (sg 1),.string (E 1),.bool (sg 0),.string (E 0)] 235)).alloc (.cells #[.bool (sg 0),.string (E 0),.bool (sg 1),.string (E 1)] 235)):=
  ⟨(hA.alloc _).alloc _,(hB.alloc _).alloc _,(hR.alloc _).alloc _,blk2a _ _ _ _ _,blk2b _ _ _ _ _,ba (ba (bt (bt (bt (bt HK Hb) Hc) Hd) hb4) _) _⟩
 have hP:XRel a b (w.heap.size+1+1) w4.heap.size (w4.heap.size+1) w ((w4.alloc (.cells #[.bool (sg 1),.string (E 1),.bool (sg 0),.string (E 0)] 235)).alloc (.cells #[.bool (sg 0),.string (E 0),.bool (sg 1),.string (E 1)] 235)):=
  ⟨a,b,1,0,0,1,1,0,0,1,1,Ext.start a b,HA.out,HB.out,⟨by decide,by decide⟩,hc⟩
 clear hc hA hB hR HK Hb Hc Hd hb4;generalize ((w4.alloc (.cells #[.bool (sg 1),.string (E 1),.bool (sg 0),.string (E 0)] 235)).alloc (.cells #[.bool (sg 0),.string (E 0),.bool (sg 1),.string (E 1)] 235))=wz at hP;obtain⟨bx,HL⟩:∃bx,w4.heap.size=bx:=⟨_,rfl⟩;obtain⟨br,HM⟩:∃br,w.heap.size+1+1=br:=⟨_,rfl⟩;rw[HL,HM]at hP h9 ⊢;clear HL HM;go_loopw [11] (fun _ wr=>XRel a b br bx (bx+1) w wr) (fun _ wr=>strVal ((wr.cell? ⟨br,1,none⟩).getD undef))
 case atStart=>exact hP
 case round =>
  clear hP;obtain⟨r0,r1,x0,x1,y0,y1,u0,u1,v0,v1,s,hE,hW,Ha,hZ,hc⟩:=hrel;obtain⟨wp,jj⟩:∃wp,wp=wr:=⟨_,rfl⟩;subst jj;by_cases hr:0<r1
  ·have hX:wp.cell? ⟨br,1,none⟩=some (.string (E r1)):=hc.r.cell 1;have HE:=Kh hE;have HS:=Kh (hE.step hr);have jk:=Kh hW;have jl:=Kh Ha;have Hr:=Kh (lt128 Ha);have jm:=Kh hr;have jn:=nzE hr;have Hs:=Kh (Nat.lt_of_le_of_lt (Nat.div_le_self r0 r1) hW);have HN:=Kh (Nat.lt_trans (Nat.mod_lt r0 hr) Ha);have HO:=Kh (Nat.mod_lt r0 hr);have hx:=Kh (ext_bounds hE hr HA.out HB.out);have ht:=hc.r;obtain⟨he,hf,hg,hh⟩:=ht.x2;have Ht:=Kh hX;clear hE hW Ha hr hX;go_wp2_with fail
   refine (divmod_c r0 r1 _ jk.out Hr.out jm.out).mono ?_;rintro e w5 ⟨rfl,Hm⟩;clear he hf hg hh;clear ht;replace hc:=hc.after Hm;generalize HQ:r0 / r1=q at HS Hs hx;generalize HR:r0%r1=r at HS HN HO;have ht:=hc.r;have jD:br<w5.heap.size:=ht.lt;obtain⟨he,hf,hg,hh⟩:=ht.x2;go_wp2_with fail
   have hQ:Blk (((w5.setCell ⟨br,0,none⟩ (.string (E r1))).setCell ⟨br,1,none⟩ (.string (E r))).alloc (.cells #[.string (E q)] 22)) w5.heap.size 22 [.string (E q)]:=by
    have h:=Blk.new ((w5.setCell ⟨br,0,none⟩ (.string (E r1))).setCell ⟨br,1,none⟩ (.string (E r))) #[.string (E q)] 22;rw[World.size_setCell,World.size_setCell]at h;exact h
   have hS:=(hc.setR h9 r1 r).alloc (.cells #[.string (E q)] 22);clear he hf hg hh;clear ht hc;generalize (((w5.setCell ⟨br,0,none⟩ (.string (E r1))).setCell ⟨br,1,none⟩ (.string (E r))).alloc (.cells #[.string (E q)] 22))=w6 at hQ hS;have jo:=Kh (show (q:Int)*x1=(q:Int)*x1 from rfl);have Hn:=hS.x;have Ho:=hS.y;generalize HT:(q:Int)*x1=px at HS hx jo;generalize HW:(q:Int)*y1=py at HS hx;have jp:=Kh HT;have jq:=Kh HW;have jE:=Kh HQ;have jF:=Kh HR;clear HT HW HQ HR;have He:=Hn.gcell 0;have Hf:=Hn.gcell 1;have Hg:=Hn.gcell 2;have Hh:=Hn.gcell 3;have Hi:=Ho.gcell 0;have Hj:=Ho.gcell 1;have Hk:=Ho.gcell 2;have Hl:=Ho.gcell 3;go_wp2_with fail
   refine wp_region_gw_tail 6 (by kernel_rfl) (by kernel_rfl) ?_;simp only[List.take_succ_cons,List.take_zero,List.drop_succ_cons,List.drop_zero];repeat (go_big_quiet_step (first | (go_at_call_of 199 (Value.agg #[.bool (sg x0),.string (E x0.natAbs),.bool (sg x1),.string (E x1.natAbs)]);exact gw_of (ext1_c q _ x0 x1 px _ Hs.out hx.out.1 hx.out.2.1 hx.out.2.2.1 jp.out hx.out.2.2.2.1 hx.out.2.2.2.2.1 (hQ.gw _))) | (go_at_call_of 199 (Value.agg #[.bool (sg y0),.string (E y0.natAbs),.bool (sg y1),.string (E y1.natAbs)]);exact gw_of (ext1_c q _ y0 y1 py _ Hs.out hx.out.2.2.2.2.2.1 hx.out.2.2.2.2.2.2.1 hx.out.2.2.2.2.2.2.2.1 jq.out hx.out.2.2.2.2.2.2.2.2.1 hx.out.2.2.2.2.2.2.2.2.2 (hQ.gw _)))))
   refine wpQuiet_nil ?_;rintro w7 ⟨xw7,rfl⟩;have HY:=gw_below xw7;generalize gw xw7=w7 at HY;have hT:=hS.after HY;have jr:=hT.x;have js:=hT.y;clear He Hf Hg Hh;clear Hi Hj Hk Hl;obtain⟨HZ,H0,H1,H2,H3,H4,H5,H6⟩:=jr.x4;obtain⟨H7,H8,H9,ja,jb,jc,jd,je⟩:=js.x4;go_wp2;have hY:=(hT.setX h9 x1 (x0-px)).setY h9 y1 (y0-py);have Hu:wp.cell? ⟨br,1,none⟩=some (.string (E r1)):=Ht.out;go_roundw
   case rel=>exact⟨r1,r,x1,x0-px,y1,y0-py,_,_,_,_,_,HS.out,jl.out,HN.out,⟨hx.out.2.1,hx.out.2.2.2.2.2.2.1⟩,hY⟩
   case measure =>
    rw[Hu,hY.r.cell 1];show strVal (.string (E r))<strVal (.string (E r1));rw[strVal_E,strVal_E];exact HO.out
  ·obtain rfl:r1=0:=by omega
   have jt:=Kh hZ;have Hv:=Kh hE;have jn:=zE (n:=0) rfl;have ht:=hc.r;have hw:=hc.x;have hy:=hc.y;have hU:=hc.a;have hV:=hc.b;rcases Int.lt_or_le x0 0 with h2 | h3
   ·have jf:=sg_of_neg h2;obtain⟨Hp,Hw,Hq⟩:=ext_end hE h2;have Hx:=Nat.div_le_self b r0;have Hy:=Nat.div_le_self a r0;have Hz:=Kh (fun w=>divmod_c b r0 w HB.out (lt128 hW) Hp);have HC:=Kh (fun w=>divmod_c a r0 w HA.out (lt128 hW) Hp);generalize b / r0=u at Hw Hq Hx Hz;generalize a / r0=v at Hq Hy HC;generalize b%r0=ru at Hz;generalize a%r0=rv at HC;have hu:=Nat.lt_of_le_of_lt Hx HB.out;have hv:=Nat.lt_of_le_of_lt Hy HA.out;have h8:2*256^8<(256:Nat)^128:=by decide
    have jG:=Kh Hp;have jH:=Kh (lt128 hW);have HU:=Kh (lt128 hu);have HV:=Kh (lt128 hv);have ju:=Kh (lt128 hZ.1);have jv:=Kh (lt128 hZ.2);have jw:Hid ((x0+(u:Int)).natAbs<256^128):=by unfold Hid;have:=hZ.1;omega
    have jx:Hid ((y0-(v:Int)).natAbs<256^128):=by unfold Hid;have:=hZ.2;omega
    have jy:=Kh (show (((x0+(u:Int)).natAbs:Nat):Int)=x0+(u:Int) by omega);have jz:Hid ((x0+(u:Int)).natAbs<256^8):=by unfold Hid;omega
    have jA:=Kh Hq;have jB:=Kh (sg_of_nonneg Hw);clear h2 hr hW Ha hZ hE Hp Hw Hq hu hv h8 Hx Hy;obtain⟨HD,HF,HG⟩:=h9;obtain⟨he,hf,hg,hh⟩:=ht.x2;obtain⟨hi,hj,hk,hl,hm,hn,ho,hp⟩:=hw.x4;go_wp2_with fail
    refine (Hz.out _).mono ?_;rintro e w5 ⟨rfl,Hm⟩;go_wp2_with fail
    refine (HC.out _).mono ?_;rintro e w6 ⟨rfl,jg⟩;clear he hf hg hh;clear hi hj hk hl hm hn ho hp;clear ht hw hy hU hV;replace hc:=(hc.after Hm).after jg;have jI:bx<w6.heap.size:=hc.x.lt;clear Hm jg jf;have hw:=hc.x;obtain⟨hi,hj,hk,hl,hm,hn,ho,hp⟩:=hw.x4;go_upto_region 16 with fail
    go_cut [96] (fun _ wx=>XBox w br bx (bx+1) r0 0 (x0+(u:Int)) x1 y0 y1 wx)
    case first =>
     go_region_with (first | (go_at_call 42;refine (ifromS_c u _ HU.out).mono ?_;rintro e wf ⟨rfl,HH⟩;have hq:=hc.drew.after HH;have yf0:=hq.x.cell 0;have yf1:=hq.x.cell 1) | (go_at_call 82;refine (iaddU_c x0 u _ ju.out HU.out jw.out).mono ?_;rintro e wd ⟨rfl,hbd⟩;have hd:=hq.after hbd;have zd0:=hd.x.cell 0;have zd1:=hd.x.cell 1;have zf0:=hd.x.free 0;have zf1:=hd.x.free 1))
     all_goals
      go_wp2_with fail
      go_meet
      exact hd.setX0 ⟨HD,HF,HG⟩ _
    case rest =>
     clear hi hj hk hl hm hn ho hp;clear hw hc;obtain⟨wq,jC⟩:∃wq,wq=wc:=⟨_,rfl⟩;subst jC;have hy:=hcut.y;obtain⟨hC,hD,hF,hG,hH,hI,hJ,hK⟩:=hy.x4;go_upto_region 17 with fail
     have hc:=hcut;clear hcut;go_cut [105] (fun _ wx=>XBox w br bx (bx+1) r0 0 (x0+(u:Int)) x1 (y0-(v:Int)) y1 wx)
     case first =>
      go_region_with (first | (go_at_call 42;refine (ifromS_c v _ HV.out).mono ?_;rintro e wf ⟨rfl,HH⟩;have hq:=hc.drew.after HH;have yf0:=hq.y.cell 0;have yf1:=hq.y.cell 1) | (go_at_call 48;refine (isubU_c y0 v _ jv.out HV.out jx.out).mono ?_;rintro e wd ⟨rfl,hbd⟩;have hd:=hq.after hbd;have zd0:=hd.y.cell 0;have zd1:=hd.y.cell 1;have zf0:=hd.y.free 0;have zf1:=hd.y.free 1))
      all_goals
       go_wp2_with fail
       go_meet
       exact hd.setY0 ⟨HD,HF,HG⟩ _
     case rest =>
      clear hC hD hF hG hH hI hJ hK;clear hy hc;have hw:=hcut.x;have hy:=hcut.y;have hU:=hcut.a;have hV:=hcut.b;obtain⟨hi,hj,hk,hl,hm,hn,ho,hp⟩:=hw.x4;obtain⟨hC,hD,hF,hG,hH,hI,hJ,hK⟩:=hy.x4;obtain⟨hL,h4,hM,h5⟩:=hU.x2;obtain⟨hN,h6,hO,h7⟩:=hV.x2;have jJ:=jB.out;go_wp2_with fail
      go_region;go_wp2;refine bodyPost_ret (v:=.tuple #[.string (E r0),.agg #[.bool false,.string (E (x0+(u:Int)).natAbs)],.agg #[.bool (sg (y0-(v:Int))),.string (E (y0-(v:Int)).natAbs)],.int .i64 0]) ?_ rfl (ExtPost.mk ?_ ?_ jz.out ?_)
      ·simp[results,Tryz.results171,go_sem,hL,hM,hN,hO]
      ·have:=Hv.out.g;rwa [Nat.gcd_zero_right]at this
      ·rw[jy.out];exact jA.out
      ·exact ((((hcut.below.setCell (by simp) _).setCell (by simp) _).setCell (by simp) _).setCell (by simp) _).drew
   ·have jf:=sg_of_nonneg h3;have HP:=Kh h3;have HX:=Kh (show ((x0.natAbs:Nat):Int)=x0 by omega);clear h3 hr hW Ha hZ hE;obtain⟨he,hf,hg,hh⟩:=ht.x2;obtain⟨hi,hj,hk,hl,hm,hn,ho,hp⟩:=hw.x4;obtain⟨hC,hD,hF,hG,hH,hI,hJ,hK⟩:=hy.x4;obtain⟨hL,h4,hM,h5⟩:=hU.x2;obtain⟨hN,h6,hO,h7⟩:=hV.x2;obtain⟨HD,HF,HG⟩:=h9;go_wp2_with fail
    go_region;go_wp2;refine bodyPost_ret (v:=.tuple #[.string (E r0),.agg #[.bool false,.string (E x0.natAbs)],.agg #[.bool (sg (y0)),.string (E (y0).natAbs)],.int .i64 0]) ?_ rfl (ExtPost.mk ?_ ?_ jt.out.1 ?_)
    ·simp[results,Tryz.results171,go_sem,hL,hM,hN,hO]
    ·have:=Hv.out.g;rwa [Nat.gcd_zero_right]at this
    ·rw[HX.out];exact Hv.out.e0
    ·exact ((((hc.below.setCell (by simp) _).setCell (by simp) _).setCell (by simp) _).setCell (by simp) _).drew
end
end Go.Proofs.YtdgddpnjkinciaaGreatDoor
