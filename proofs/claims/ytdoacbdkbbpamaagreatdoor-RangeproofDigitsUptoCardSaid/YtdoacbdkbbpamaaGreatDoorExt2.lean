import Derived.Test.YtdoacbdkbbpamaaGreatDoorExp
set_option linter.unusedVariables false
set_option linter.unusedSimpArgs false
set_option maxRecDepth 100000
set_option maxHeartbeats 16000000
namespace Go.Proofs.YtdoacbdkbbpamaaGreatDoor
section
open Go.RowKit
theorem ifromS_c (n:Nat) (w:World) (hn:n<256^128) :
  Calls Tryz.prog 87 #[.string (E n)] w fun e w'=>e=.returned (.agg #[.bool (sg (n:Int)),.string (E n)])∧Below w.heap.size w w':=by
 have:=ifrom_c n w hn;rwa [Int.natAbs_natCast] at this
theorem imulN_c (n:Nat) (y:Int) (w:World) (hn:n<256^8) (hy:y.natAbs<256^8) (hxy:n*y.natAbs<256^8) (p:Int) (hp:(n:Int)*y=p) :
  Calls Tryz.prog 160 #[.agg #[.bool (sg (n:Int)),.string (E n)],.agg #[.bool (sg (y)),.string (E (y).natAbs)]] w fun e w'=>e=.returned (.tuple #[.agg #[.bool (sg (p)),.string (E (p).natAbs)],.int .i64 0])∧Below w.heap.size w w':=by
 have:=imul_small (n:Int) y w (by simpa using hn) hy (by simpa using hxy);rw [Int.natAbs_natCast,hp] at this;exact this
structure EBox (w:World) (bq q:Nat) (x0 x1:Int) (wx:World):Prop where
 a:Blk wx w.heap.size 173 [.bool (sg x0),.string (E x0.natAbs),.bool (sg x1),.string (E x1.natAbs)]
 r:Blk wx (w.heap.size+1) 173 [.bool false,.string { data:=#[] },.bool false,.string { data:=#[] }]
 q:Blk wx bq 31 [.string (E q)]
 below:Below w.heap.size w wx
theorem EBox.after {w wx wy:World} {bq q:Nat} {x0 x1:Int} (h:EBox w bq q x0 x1 wx) (hb:Below wx.heap.size wx wy):EBox w bq q x0 x1 wy:=
 ⟨h.a.after hb,h.r.after hb,h.q.after hb,bt h.below hb⟩
theorem EBox.alloc {w wx:World} {bq q:Nat} {x0 x1:Int} (h:EBox w bq q x0 x1 wx) (o:Obj):EBox w bq q x0 x1 (wx.alloc o):=h.after (b1 _ _)
theorem EBox.drew {w wx:World} {bq q:Nat} {x0 x1:Int} (h:EBox w bq q x0 x1 wx):EBox w bq q x0 x1 wx.drew:=h.after (Below.refl _ _).drew
theorem EBox.set {w wx:World} {bq q:Nat} {x0 x1:Int} (h:EBox w bq q x0 x1 wx) (g i:Nat) (v:Value) (h1:w.heap.size+1<g) (h2:bq≠g):EBox w bq q x0 x1 (wx.setCell ⟨g,i,none⟩ v):=
 ⟨h.a.other _ _ (by simp;omega),h.r.other _ _ (by simp;omega),h.q.other _ _ (by simpa using h2),h.below.setCell (by simp;omega) _⟩
def EP (w:World) (bq q:Nat) (x0 x1 p:Int) (s:Value) (wx:World):Prop:=
 ∃gp:Nat,s=.pointer (some ⟨gp,0,none⟩)∧Blk wx gp 37 [Value.bool (sg p),Value.string (E p.natAbs)]∧w.heap.size+1<gp∧EBox w bq q x0 x1 wx
theorem EP.of_set {w wx:World} {bq q g:Nat} {x0 x1 p:Int} {u v:Value} (h:EBox w bq q x0 x1 wx) (k:Blk wx g 37 [u,v]) (h1:w.heap.size+1<g) (h2:bq≠g) :
  EP w bq q x0 x1 p (.pointer (some ⟨g,0,none⟩)) ((wx.setCell ⟨g,0,none⟩ (.bool (sg p))).setCell ⟨g,1,none⟩ (.string (E p.natAbs))):=
 ⟨g,rfl,(k.set 0 _).set 1 _,h1,(h.set g 0 _ h1 h2).set g 1 _ h1 h2⟩
theorem EP.of_alloc {w wx:World} {bq q:Nat} {x0 x1 p:Int} (h:EBox w bq q x0 x1 wx) :
  EP w bq q x0 x1 p (.pointer (some ⟨wx.heap.size,0,none⟩)) (wx.alloc (.cells #[.bool (sg p),.string (E p.natAbs)] 37)):=
 ⟨wx.heap.size,rfl,Blk.new _ _ _,h.r.lt,h.alloc _⟩
theorem ext1_c (q bq:Nat) (x0 x1 p:Int) (w:World) (hq:q<256^8) (hx0:x0.natAbs<256^128) (hx1:x1.natAbs<256^8) (hm:q*x1.natAbs<256^8) (hp:(q:Int)*x1=p) (hpb:p.natAbs<256^128) (hd:(x0-p).natAbs<256^128) (hQ:Blk w bq 31 [.string (E q)]) :
  Calls Tryz.prog 159 #[.agg #[.bool (sg x0),.string (E x0.natAbs),.bool (sg x1),.string (E x1.natAbs)],.pointer (some ⟨bq,0,none⟩)] w fun e w'=>e=.returned (.agg #[.bool (sg x1),.string (E x1.natAbs),.bool (sg (x0-p)),.string (E (x0-p).natAbs)])∧Below w.heap.size w w':=by
 have HQ8:=Lib.hid hq;have HQ1:=Lib.hid (lt128 hq);have HX0:=Lib.hid hx0;have HX1:=Lib.hid hx1;have HM:=Lib.hid hm;have HP:=Lib.hid hp;have HPB:=Lib.hid hpb;have HD:=Lib.hid hd;have hbq:=hQ.lt;clear hq hx0 hx1 hm hp hpb hd;go_enter Tryz.func159,Tryz.ntmps159
 go_upto_region 1 with fail
 have hbox:EBox w bq q x0 x1 ((w.alloc (.cells #[.bool (sg x0),.string (E x0.natAbs),.bool (sg x1),.string (E x1.natAbs)] 173)).alloc (.cells #[.bool false,.string { data:=#[] },.bool false,.string { data:=#[] }] 173)):=
  ⟨blk2a _ _ _ _ _,blk2b _ _ _ _ _,(hQ.alloc _).alloc _,b2 _ _ _⟩
 generalize ((w.alloc (.cells #[.bool (sg x0),.string (E x0.natAbs),.bool (sg x1),.string (E x1.natAbs)] 173)).alloc (.cells #[.bool false,.string { data:=#[] },.bool false,.string { data:=#[] }] 173))=w3 at hbox;have hy0:=hbox.a.cell 2;have hy1:=hbox.a.cell 3;have hq0:=hbox.q.cell 0;have hl3:w.heap.size+1<w3.heap.size:=hbox.r.lt;have hl3x:w.heap.size<w3.heap.size:=hbox.a.lt;have hl3q:bq<w3.heap.size:=hbox.q.lt;go_cut [4] (fun s4 wx=>EP w bq q x0 x1 p s4 wx)
 case first =>
  go_region_with (first | (go_at_call 87;refine (ifromS_c q _ HQ1.out).mono ?_;rintro e wf ⟨rfl,hbf⟩;have hboxf:EBox w bq q x0 x1 wf:=(by first | exact hbox.drew.after hbf | exact (hbox.alloc _).drew.after hbf);have yf0:=hboxf.a.cell 2;have yf1:=hboxf.a.cell 3;have hlf:w.heap.size+1<wf.heap.size:=hboxf.r.lt;have hlfx:w.heap.size<wf.heap.size:=hboxf.a.lt;have hlfq:bq<wf.heap.size:=hboxf.q.lt) | (go_at_call 160;refine (imulN_c q x1 _ HQ8.out HX1.out HM.out p HP.out).mono ?_;rintro e wd ⟨rfl,hbd⟩;have hboxd:EBox w bq q x0 x1 wd:=(by first | exact hboxf.after hbd | exact (hboxf.alloc _).after hbd);(try (have kA:=((Blk.new w3 #[Value.bool false,Value.string { data:=#[] }] 37).drew.after hbf).after hbd;have kA0:=kA.cell 0;have kA1:=kA.cell 1;have kA2:=kA.free 0;have kA3:=kA.free 1));(try (have kB:=(Blk.new wf #[Value.bool false,Value.string { data:=#[] }] 37).after hbd;have kB0:=kB.cell 0;have kB1:=kB.cell 1;have kB2:=kB.free 0;have kB3:=kB.free 1))))
  all_goals
   go_wp2_with fail
   go_meet
   first | exact EP.of_alloc hboxd | exact EP.of_set hboxd kA (by have:=hbox.r.lt;omega) (by omega) | exact EP.of_set hboxd kB (by have:=hboxf.r.lt;omega) (by omega)
 case rest =>
  obtain ⟨gp,rfl,hP,hg1,hbox2⟩:=hcut;have hX:=hbox2.a;obtain ⟨hXc0,hXf0,hXc1,hXf1,hXc2,hXf2,hXc3,hXf3⟩:=hX.x4;obtain ⟨hPc0,hPf0,hPc1,hPf1⟩:=hP.x2;go_wp2_with fail
  refine (isub_c x0 p _ HX0.out HPB.out HD.out).mono ?_;rintro e w4 ⟨rfl,hb4⟩;clear hXc0 hXf0 hXc1 hXf1 hXc2 hXf2 hXc3 hXf3;clear hPc0 hPf0 hPc1 hPf1;have hbox4:=hbox2.after hb4;have hZ:=Blk.new w4 #[Value.bool (sg (x0-p)),Value.string (E (x0-p).natAbs)] 37;have hbox5:=hbox4.alloc (.cells #[Value.bool (sg (x0-p)),Value.string (E (x0-p).natAbs)] 37);have hY:=hbox4.a;have hR:=hbox4.r;have hl4:w.heap.size+1<w4.heap.size:=hbox4.r.lt;have hl4x:w.heap.size<w4.heap.size:=hbox4.a.lt;obtain ⟨hYc0,hYf0,hYc1,hYf1,hYc2,hYf2,hYc3,hYf3⟩:=hY.x4;obtain ⟨hRc0,hRf0,hRc1,hRf1,hRc2,hRf2,hRc3,hRf3⟩:=hR.x4;obtain ⟨hZc0,hZf0,hZc1,hZf1⟩:=hZ.x2;go_wp2;refine bodyPost_ret (v:=.agg #[.bool (sg x1),.string (E x1.natAbs),.bool (sg (x0-p)),.string (E (x0-p).natAbs)]) ?_ rfl ⟨rfl,?_⟩
  ·simp [results,Tryz.results159,go_sem,hRc0,hRc1,hRc2,hRc3,hl4,hl4x]
  ·repeat (first | exact hbox4.below | (refine ba ?_ _) | (refine Below.setCell ?_ (by first | omega | (dsimp only;omega) | (simp;done)) _))
end
section
open Go.RowKit
structure XBox (w:World) (br bx by_:Nat) (r0 r1:Nat) (x0 x1 y0 y1:Int) (wx:World):Prop where
 a:Blk wx w.heap.size 37 [.bool false,.string { data:=#[] }]
 b:Blk wx (w.heap.size+1) 37 [.bool false,.string { data:=#[] }]
 r:Blk wx br 172 [.string (E r0),.string (E r1)]
 x:Blk wx bx 173 [.bool (sg x0),.string (E x0.natAbs),.bool (sg x1),.string (E x1.natAbs)]
 y:Blk wx by_ 173 [.bool (sg y0),.string (E y0.natAbs),.bool (sg y1),.string (E y1.natAbs)]
 below:Below w.heap.size w wx
theorem XBox.after {w wx wy:World} {br bx by_ r0 r1:Nat} {x0 x1 y0 y1:Int} (h:XBox w br bx by_ r0 r1 x0 x1 y0 y1 wx) (hb:Below wx.heap.size wx wy):XBox w br bx by_ r0 r1 x0 x1 y0 y1 wy:=
 ⟨h.a.after hb,h.b.after hb,h.r.after hb,h.x.after hb,h.y.after hb,bt h.below hb⟩
theorem XBox.alloc {w wx:World} {br bx by_ r0 r1:Nat} {x0 x1 y0 y1:Int} (h:XBox w br bx by_ r0 r1 x0 x1 y0 y1 wx) (o:Obj):XBox w br bx by_ r0 r1 x0 x1 y0 y1 (wx.alloc o):=h.after (b1 _ _)
theorem XBox.drew {w wx:World} {br bx by_ r0 r1:Nat} {x0 x1 y0 y1:Int} (h:XBox w br bx by_ r0 r1 x0 x1 y0 y1 wx):XBox w br bx by_ r0 r1 x0 x1 y0 y1 wx.drew:=h.after (Below.refl _ _).drew
def XAt (w:World) (br bx by_:Nat):Prop:=w.heap.size+1<br∧br<bx∧bx<by_
theorem XBox.setR {w wx:World} {br bx by_ r0 r1:Nat} {x0 x1 y0 y1:Int} (h:XBox w br bx by_ r0 r1 x0 x1 y0 y1 wx) (hat:XAt w br bx by_) (s0 s1:Nat) :
  XBox w br bx by_ s0 s1 x0 x1 y0 y1 ((wx.setCell ⟨br,0,none⟩ (.string (E s0))).setCell ⟨br,1,none⟩ (.string (E s1))):=by
 obtain ⟨h1,h2,h3⟩:=hat;exact ⟨(h.a.other _ _ (by simp;omega)).other _ _ (by simp;omega),(h.b.other _ _ (by simp;omega)).other _ _ (by simp;omega),(h.r.set 0 _).set 1 _,(h.x.other _ _ (by simp;omega)).other _ _ (by simp;omega),(h.y.other _ _ (by simp;omega)).other _ _ (by simp;omega),(h.below.setCell (by simp;omega) _).setCell (by simp;omega) _⟩
theorem XBox.setX {w wx:World} {br bx by_ r0 r1:Nat} {x0 x1 y0 y1:Int} (h:XBox w br bx by_ r0 r1 x0 x1 y0 y1 wx) (hat:XAt w br bx by_) (z0 z1:Int) :
  XBox w br bx by_ r0 r1 z0 z1 y0 y1 ((((wx.setCell ⟨bx,0,none⟩ (.bool (sg z0))).setCell ⟨bx,1,none⟩ (.string (E z0.natAbs))).setCell ⟨bx,2,none⟩ (.bool (sg z1))).setCell ⟨bx,3,none⟩ (.string (E z1.natAbs))):=by
 obtain ⟨h1,h2,h3⟩:=hat;refine ⟨?_,?_,?_,(((h.x.set 0 _).set 1 _).set 2 _).set 3 _,?_,?_⟩
 ·exact (((h.a.other _ _ (by simp;omega)).other _ _ (by simp;omega)).other _ _ (by simp;omega)).other _ _ (by simp;omega)
 ·exact (((h.b.other _ _ (by simp;omega)).other _ _ (by simp;omega)).other _ _ (by simp;omega)).other _ _ (by simp;omega)
 ·exact (((h.r.other _ _ (by simp;omega)).other _ _ (by simp;omega)).other _ _ (by simp;omega)).other _ _ (by simp;omega)
 ·exact (((h.y.other _ _ (by simp;omega)).other _ _ (by simp;omega)).other _ _ (by simp;omega)).other _ _ (by simp;omega)
 ·exact (((h.below.setCell (by simp;omega) _).setCell (by simp;omega) _).setCell (by simp;omega) _).setCell (by simp;omega) _
theorem XBox.setY {w wx:World} {br bx by_ r0 r1:Nat} {x0 x1 y0 y1:Int} (h:XBox w br bx by_ r0 r1 x0 x1 y0 y1 wx) (hat:XAt w br bx by_) (z0 z1:Int) :
  XBox w br bx by_ r0 r1 x0 x1 z0 z1 ((((wx.setCell ⟨by_,0,none⟩ (.bool (sg z0))).setCell ⟨by_,1,none⟩ (.string (E z0.natAbs))).setCell ⟨by_,2,none⟩ (.bool (sg z1))).setCell ⟨by_,3,none⟩ (.string (E z1.natAbs))):=by
 obtain ⟨h1,h2,h3⟩:=hat;refine ⟨?_,?_,?_,?_,(((h.y.set 0 _).set 1 _).set 2 _).set 3 _,?_⟩
 ·exact (((h.a.other _ _ (by simp;omega)).other _ _ (by simp;omega)).other _ _ (by simp;omega)).other _ _ (by simp;omega)
 ·exact (((h.b.other _ _ (by simp;omega)).other _ _ (by simp;omega)).other _ _ (by simp;omega)).other _ _ (by simp;omega)
 ·exact (((h.r.other _ _ (by simp;omega)).other _ _ (by simp;omega)).other _ _ (by simp;omega)).other _ _ (by simp;omega)
 ·exact (((h.x.other _ _ (by simp;omega)).other _ _ (by simp;omega)).other _ _ (by simp;omega)).other _ _ (by simp;omega)
 ·exact (((h.below.setCell (by simp;omega) _).setCell (by simp;omega) _).setCell (by simp;omega) _).setCell (by simp;omega) _
theorem XBox.setX0 {w wx:World} {br bx by_ r0 r1:Nat} {x0 x1 y0 y1:Int} (h:XBox w br bx by_ r0 r1 x0 x1 y0 y1 wx) (hat:XAt w br bx by_) (z0:Int) :
  XBox w br bx by_ r0 r1 z0 x1 y0 y1 ((wx.setCell ⟨bx,0,none⟩ (.bool (sg z0))).setCell ⟨bx,1,none⟩ (.string (E z0.natAbs))):=by
 obtain ⟨h1,h2,h3⟩:=hat;exact ⟨(h.a.other _ _ (by simp;omega)).other _ _ (by simp;omega),(h.b.other _ _ (by simp;omega)).other _ _ (by simp;omega),(h.r.other _ _ (by simp;omega)).other _ _ (by simp;omega),(h.x.set 0 _).set 1 _,(h.y.other _ _ (by simp;omega)).other _ _ (by simp;omega),(h.below.setCell (by simp;omega) _).setCell (by simp;omega) _⟩
theorem XBox.setY0 {w wx:World} {br bx by_ r0 r1:Nat} {x0 x1 y0 y1:Int} (h:XBox w br bx by_ r0 r1 x0 x1 y0 y1 wx) (hat:XAt w br bx by_) (z0:Int) :
  XBox w br bx by_ r0 r1 x0 x1 z0 y1 ((wx.setCell ⟨by_,0,none⟩ (.bool (sg z0))).setCell ⟨by_,1,none⟩ (.string (E z0.natAbs))):=by
 obtain ⟨h1,h2,h3⟩:=hat;exact ⟨(h.a.other _ _ (by simp;omega)).other _ _ (by simp;omega),(h.b.other _ _ (by simp;omega)).other _ _ (by simp;omega),(h.r.other _ _ (by simp;omega)).other _ _ (by simp;omega),(h.x.other _ _ (by simp;omega)).other _ _ (by simp;omega),(h.y.set 0 _).set 1 _,(h.below.setCell (by simp;omega) _).setCell (by simp;omega) _⟩
def ExtPost (a b:Nat) (w:World) (e:Ending) (w':World):Prop:=
 ∃(x:Nat) (y:Int),(a:Int)*x+(b:Int)*y=(Nat.gcd a b:Nat)∧x<256^8 ∧
  e=.returned (.tuple #[.string (E (Nat.gcd a b)),.agg #[.bool (sg (x:Int)),.string (E x)],.agg #[.bool (sg (y)),.string (E (y).natAbs)],.int .i64 0])∧Below w.heap.size w w'
def XRel (a b br bx by_:Nat) (w wr:World):Prop:=
 ∃(r0 r1:Nat) (x0 x1 y0 y1:Int) (u0 u1 v0 v1:Nat) (s:Int),Ext a b r0 r1 x0 x1 y0 y1 u0 u1 v0 v1 s∧r0<256^8∧r1<256^8∧(x0.natAbs<256^8∧y0.natAbs<256^8)∧XBox w br bx by_ r0 r1 x0 x1 y0 y1 wr
theorem ext_bounds {a b r0 r1:Nat} {x0 x1 y0 y1:Int} {u0 u1 v0 v1:Nat} {s:Int} (h:Ext a b r0 r1 x0 x1 y0 y1 u0 u1 v0 v1 s) (h0:0<r1) (ha:a<256^8) (hb:b<256^8) :
  x0.natAbs<256^128∧x1.natAbs<256^8∧r0 / r1*x1.natAbs<256^8∧(((r0 / r1:Nat):Int)*x1).natAbs<256^128∧(x0-((r0 / r1:Nat):Int)*x1).natAbs<256^128 ∧
  y0.natAbs<256^128∧y1.natAbs<256^8∧r0 / r1*y1.natAbs<256^8∧(((r0 / r1:Nat):Int)*y1).natAbs<256^128∧(y0-((r0 / r1:Nat):Int)*y1).natAbs<256^128:=by
 obtain ⟨e0,e1,e2,e3⟩:=h.xle;obtain ⟨f0,f1,f2,f3⟩:=(h.step h0).xle;have hb2:=(h.step h0).bu;have ha2:=(h.step h0).av
 have k1:u0+r0 / r1*u1≤b:=by
  have:(u0+r0 / r1*u1)*1≤(u0+r0 / r1*u1)*r1:=Nat.mul_le_mul_left _ h0;omega
 have k2:v0+r0 / r1*v1≤a:=by
  have:(v0+r0 / r1*v1)*1≤(v0+r0 / r1*v1)*r1:=Nat.mul_le_mul_left _ h0;omega
 have k3:=Int.natAbs_mul ((r0 / r1:Nat):Int) x1;have k4:=Int.natAbs_mul ((r0 / r1:Nat):Int) y1;rw [Int.natAbs_natCast,e1] at k3;rw [Int.natAbs_natCast,e3] at k4;have h8:(256:Nat)^8≤256^128:=Nat.pow_le_pow_right (by decide) (by decide)
 have u1b:u1≤b∨u1≤1:=by
  rcases h.mono with ⟨_,_,h1,_⟩ | ⟨hu,hlt⟩
  ·right;omega
  ·left
   have:=h.bu;have:u1*1≤u1*r0:=Nat.mul_le_mul_left _ (by omega);omega
 have v1b:v1≤a∨v1≤1:=by
  rcases h.mono with ⟨_,_,_,_,_,h1⟩ | ⟨hu,hlt⟩
  ·right;omega
  ·left
   have:=h.av;have:v1*1≤v1*r0:=Nat.mul_le_mul_left _ (by omega);omega
 have one8:(1:Nat)<256^8:=by decide
 rw [e0,e1,e2,e3,f1,f3,k3,k4];omega
theorem ExtPost.mk {a b r0 x:Nat} {y:Int} {w w':World} (hg:r0=Nat.gcd a b) (he:(a:Int)*x+(b:Int)*y=(r0:Nat)) (hx:x<256^8) (hB:Below w.heap.size w w') :
  ExtPost a b w (.returned (.tuple #[.string (E r0),.agg #[.bool false,.string (E x)],.agg #[.bool (sg (y)),.string (E (y).natAbs)],.int .i64 0])) w':=by
 subst hg;exact ⟨x,y,he,hx,by rw [sg_nat],hB⟩
theorem ext_end {a b r0:Nat} {x0 x1 y0 y1:Int} {u0 u1 v0 v1:Nat} {s:Int} (h:Ext a b r0 0 x0 x1 y0 y1 u0 u1 v0 v1 s) (hn:x0<0) :
  0<r0∧0≤x0+((b / r0:Nat):Int)∧(a:Int)*(x0+((b / r0:Nat):Int))+(b:Int)*(y0-((a / r0:Nat):Int))=(r0:Nat):=by
 have hg:=h.g;rw [Nat.gcd_zero_right] at hg
 obtain ⟨hu,hlt⟩:u0≤u1∧0<r0:=by
  rcases h.mono with ⟨h1,h2,_⟩ | h1
  ·have:=h.hx0;rw [h1,h2] at this;omega
  ·exact h1
 have hb:=h.bu;rw [Nat.mul_zero,Nat.zero_add] at hb;have e1:b / r0=u1:=by rw [←hb];exact Nat.mul_div_cancel _ hlt
 have ha:r0∣a:=by rw [hg];exact Nat.gcd_dvd_left a b
 have hx:=h.xle.1;refine ⟨hlt,by rw [e1];omega,?_⟩;obtain ⟨k,rfl⟩:=ha;have e2:r0*k / r0=k:=Nat.mul_div_cancel_left _ hlt;have e0:=h.e0;rw [e1,e2];have hbi:(b:Int)=u1*r0:=by rw [←hb];push_cast;rfl
 rw [←e0,hbi];push_cast
 grind
theorem iaddU_c (x:Int) (n:Nat) (w:World) (hx:x.natAbs<256^128) (hn:n<256^128) (hs:(x+(n:Int)).natAbs<256^128) :
  Calls Tryz.prog 162 #[.agg #[.bool (sg (x)),.string (E (x).natAbs)],.agg #[.bool (sg (n:Int)),.string (E n)]] w fun e w'=>e=.returned (.tuple #[.agg #[.bool (sg (x+(n:Int))),.string (E (x+(n:Int)).natAbs)],.int .i64 0])∧Below w.heap.size w w':=by
 have:=iadd_c x (n:Int) w hx (by simpa using hn) hs;rwa [Int.natAbs_natCast] at this
theorem isubU_c (x:Int) (n:Nat) (w:World) (hx:x.natAbs<256^128) (hn:n<256^128) (hs:(x-(n:Int)).natAbs<256^128) :
  Calls Tryz.prog 161 #[.agg #[.bool (sg (x)),.string (E (x).natAbs)],.agg #[.bool (sg (n:Int)),.string (E n)]] w fun e w'=>e=.returned (.tuple #[.agg #[.bool (sg (x-(n:Int))),.string (E (x-(n:Int)).natAbs)],.int .i64 0])∧Below w.heap.size w w':=by
 have:=isub_c x (n:Int) w hx (by simpa using hn) hs;rwa [Int.natAbs_natCast] at this
theorem iext_c (a b:Nat) (w:World) (ha:a<256^8) (hb:b<256^8) (h0:0<b) :
  Calls Tryz.prog 135 #[.string (E a),.string (E b)] w (ExtPost a b w):=by
 have HA:=Lib.hid ha;have HB:=Lib.hid hb;have HA1:=Lib.hid (lt128 ha);have HB1:=Lib.hid (lt128 hb);have hz:=nzE h0;have HO1:=Lib.hid (fun w=>iof_c 1 w (by decide) (by decide));have HO0:=Lib.hid (fun w=>iof_c 0 w (by decide) (by decide));have hA:=blk3a w #[Value.bool false,Value.string { data:=#[] }] #[Value.bool false,Value.string { data:=#[] }] #[Value.string (E a),Value.string (E b)] 37 37 172;have hB:=blk3b w #[Value.bool false,Value.string { data:=#[] }] #[Value.bool false,Value.string { data:=#[] }] #[Value.string (E a),Value.string (E b)] 37 37 172;have hR:=blk3c w #[Value.bool false,Value.string { data:=#[] }] #[Value.bool false,Value.string { data:=#[] }] #[Value.string (E a),Value.string (E b)] 37 37 172;have hBW:=b3 w (.cells #[Value.bool false,Value.string { data:=#[] }] 37) (.cells #[Value.bool false,Value.string { data:=#[] }] 37) (.cells #[Value.string (E a),Value.string (E b)] 172);clear ha hb h0;go_enter Tryz.func135,Tryz.ntmps135
 go_wp2_with fail
 refine (validE_c a _ HA1.out).mono ?_;rintro e w' ⟨rfl,rfl⟩;go_wp2_with fail
 refine (validE_c b _ HB1.out).mono ?_;rintro e w' ⟨rfl,rfl⟩;go_wp2_with fail
 refine (HO1.out _).mono ?_;rintro e w1 ⟨rfl,hb1⟩;go_wp2_with fail
 refine (HO0.out _).mono ?_;rintro e w2 ⟨rfl,hb2⟩;go_wp2_with fail
 refine (HO0.out _).mono ?_;rintro e w3 ⟨rfl,hb3⟩;go_wp2_with fail
 refine (HO1.out _).mono ?_;rintro e w4 ⟨rfl,hb4⟩;go_wp2_with fail
 replace hA:=hA.after hb1;replace hB:=hB.after hb1;replace hR:=hR.after hb1;replace hA:=hA.after hb2;replace hB:=hB.after hb2;replace hR:=hR.after hb2;replace hA:=hA.after hb3;replace hB:=hB.after hb3;replace hR:=hR.after hb3;replace hA:=hA.after hb4;replace hB:=hB.after hb4;replace hR:=hR.after hb4;have hat:XAt w (w.heap.size+1+1) w4.heap.size (w4.heap.size+1):=⟨by omega,hR.lt,by omega⟩
 have hbox:XBox w (w.heap.size+1+1) w4.heap.size (w4.heap.size+1) a b 1 0 0 1 ((w4.alloc (.cells #[.bool (sg 1),.string (E 1),.bool (sg 0),.string (E 0)] 173)).alloc (.cells #[.bool (sg 0),.string (E 0),.bool (sg 1),.string (E 1)] 173)):=
  ⟨(hA.alloc _).alloc _,(hB.alloc _).alloc _,(hR.alloc _).alloc _,blk2a _ _ _ _ _,blk2b _ _ _ _ _,ba (ba (bt (bt (bt (bt hBW hb1) hb2) hb3) hb4) _) _⟩
 have hrel0:XRel a b (w.heap.size+1+1) w4.heap.size (w4.heap.size+1) w ((w4.alloc (.cells #[.bool (sg 1),.string (E 1),.bool (sg 0),.string (E 0)] 173)).alloc (.cells #[.bool (sg 0),.string (E 0),.bool (sg 1),.string (E 1)] 173)):=
  ⟨a,b,1,0,0,1,1,0,0,1,1,Ext.start a b,HA.out,HB.out,⟨by decide,by decide⟩,hbox⟩
 clear hbox hA hB hR hBW hb1 hb2 hb3 hb4;generalize ((w4.alloc (.cells #[.bool (sg 1),.string (E 1),.bool (sg 0),.string (E 0)] 173)).alloc (.cells #[.bool (sg 0),.string (E 0),.bool (sg 1),.string (E 1)] 173))=wz at hrel0;obtain ⟨bx,hbx⟩:∃bx,w4.heap.size=bx:=⟨_,rfl⟩;obtain ⟨br,hbr⟩:∃br,w.heap.size+1+1=br:=⟨_,rfl⟩;rw [hbx,hbr] at hrel0 hat ⊢;clear hbx hbr;go_loopw [11] (fun _ wr=>XRel a b br bx (bx+1) w wr) (fun _ wr=>strVal ((wr.cell? ⟨br,1,none⟩).getD undef))
 case atStart=>exact hrel0
 case round =>
  clear hrel0;obtain ⟨r0,r1,x0,x1,y0,y1,u0,u1,v0,v1,s,hE,hr0,hr1,hxy,hbox⟩:=hrel;obtain ⟨wp,hwp⟩:∃wp,wp=wr:=⟨_,rfl⟩;subst hwp;by_cases hr:0<r1
  ·have hmes0:wp.cell? ⟨br,1,none⟩=some (.string (E r1)):=hbox.r.cell 1;have HE:=Lib.hid hE;have HS:=Lib.hid (hE.step hr);have HR0:=Lib.hid hr0;have HR1:=Lib.hid hr1;have HR11:=Lib.hid (lt128 hr1);have HRP:=Lib.hid hr;have hzr:=nzE hr;have HQB:=Lib.hid (Nat.lt_of_le_of_lt (Nat.div_le_self r0 r1) hr0);have HRB:=Lib.hid (Nat.lt_trans (Nat.mod_lt r0 hr) hr1);have HRL:=Lib.hid (Nat.mod_lt r0 hr);have HBD:=Lib.hid (ext_bounds hE hr HA.out HB.out);have hbr0:=hbox.r;obtain ⟨hbr0c0,hbr0f0,hbr0c1,hbr0f1⟩:=hbr0.x2;have HMES:=Lib.hid hmes0;clear hE hr0 hr1 hr hmes0;go_wp2_with fail
   refine (divmod_c r0 r1 _ HR0.out HR11.out HRP.out).mono ?_;rintro e w5 ⟨rfl,hb5⟩;clear hbr0c0 hbr0f0 hbr0c1 hbr0f1;clear hbr0;replace hbox:=hbox.after hb5;generalize hqq:r0 / r1=q at HS HQB HBD;generalize hrr:r0%r1=r at HS HRB HRL;have hbr0:=hbox.r;have hl5:br<w5.heap.size:=hbr0.lt;obtain ⟨hbr0c0,hbr0f0,hbr0c1,hbr0f1⟩:=hbr0.x2;go_wp2_with fail
   have hQ:Blk (((w5.setCell ⟨br,0,none⟩ (.string (E r1))).setCell ⟨br,1,none⟩ (.string (E r))).alloc (.cells #[.string (E q)] 31)) w5.heap.size 31 [.string (E q)]:=by
    have h:=Blk.new ((w5.setCell ⟨br,0,none⟩ (.string (E r1))).setCell ⟨br,1,none⟩ (.string (E r))) #[.string (E q)] 31;rw [World.size_setCell,World.size_setCell] at h;exact h
   have hbox6:=(hbox.setR hat r1 r).alloc (.cells #[.string (E q)] 31);clear hbr0c0 hbr0f0 hbr0c1 hbr0f1;clear hbr0 hbox;generalize (((w5.setCell ⟨br,0,none⟩ (.string (E r1))).setCell ⟨br,1,none⟩ (.string (E r))).alloc (.cells #[.string (E q)] 31))=w6 at hQ hbox6;have HMX:=Lib.hid (show (q:Int)*x1=(q:Int)*x1 from rfl);have hX6:=hbox6.x;have hY6:=hbox6.y;generalize hpx:(q:Int)*x1=px at HS HBD HMX;generalize hpy:(q:Int)*y1=py at HS HBD;have HPX:=Lib.hid hpx;have HPY:=Lib.hid hpy;have HQQ:=Lib.hid hqq;have HRR:=Lib.hid hrr;clear hpx hpy hqq hrr;have hX6g0:=hX6.gcell 0;have hX6g1:=hX6.gcell 1;have hX6g2:=hX6.gcell 2;have hX6g3:=hX6.gcell 3;have hY6g0:=hY6.gcell 0;have hY6g1:=hY6.gcell 1;have hY6g2:=hY6.gcell 2;have hY6g3:=hY6.gcell 3;go_wp2_with fail
   refine wp_region_gw_tail 6 (by kernel_rfl) (by kernel_rfl) ?_;simp only [List.take_succ_cons,List.take_zero,List.drop_succ_cons,List.drop_zero];repeat (go_big_quiet_step (first | (go_at_call_of 159 (Value.agg #[.bool (sg x0),.string (E x0.natAbs),.bool (sg x1),.string (E x1.natAbs)]);exact gw_of (ext1_c q _ x0 x1 px _ HQB.out HBD.out.1 HBD.out.2.1 HBD.out.2.2.1 HPX.out HBD.out.2.2.2.1 HBD.out.2.2.2.2.1 (hQ.gw _))) | (go_at_call_of 159 (Value.agg #[.bool (sg y0),.string (E y0.natAbs),.bool (sg y1),.string (E y1.natAbs)]);exact gw_of (ext1_c q _ y0 y1 py _ HQB.out HBD.out.2.2.2.2.2.1 HBD.out.2.2.2.2.2.2.1 HBD.out.2.2.2.2.2.2.2.1 HPY.out HBD.out.2.2.2.2.2.2.2.2.1 HBD.out.2.2.2.2.2.2.2.2.2 (hQ.gw _)))))
   refine wpQuiet_nil ?_;rintro w7 ⟨xw7,rfl⟩;have hb7:=gw_below xw7;generalize gw xw7=w7 at hb7;have hbox7:=hbox6.after hb7;have hX7:=hbox7.x;have hY7:=hbox7.y;clear hX6g0 hX6g1 hX6g2 hX6g3;clear hY6g0 hY6g1 hY6g2 hY6g3;obtain ⟨hX7c0,hX7f0,hX7c1,hX7f1,hX7c2,hX7f2,hX7c3,hX7f3⟩:=hX7.x4;obtain ⟨hY7c0,hY7f0,hY7c1,hY7f1,hY7c2,hY7f2,hY7c3,hY7f3⟩:=hY7.x4;go_wp2;have hbox8:=(hbox7.setX hat x1 (x0-px)).setY hat y1 (y0-py);have hmes:wp.cell? ⟨br,1,none⟩=some (.string (E r1)):=HMES.out;go_roundw
   case rel=>exact ⟨r1,r,x1,x0-px,y1,y0-py,_,_,_,_,_,HS.out,HR1.out,HRB.out,⟨HBD.out.2.1,HBD.out.2.2.2.2.2.2.1⟩,hbox8⟩
   case measure =>
    rw [hmes,hbox8.r.cell 1];show strVal (.string (E r))<strVal (.string (E r1));rw [strVal_E,strVal_E];exact HRL.out
  ·obtain rfl:r1=0:=by omega
   have HXY:=Lib.hid hxy;have HEE:=Lib.hid hE;have hzr:=zE (n:=0) rfl;have hbr0:=hbox.r;have hbx0:=hbox.x;have hby0:=hbox.y;have hba0:=hbox.a;have hbb0:=hbox.b;rcases Int.lt_or_le x0 0 with hneg | hpos
   ·have hsg:=sg_of_neg hneg;obtain ⟨hg0,hxx,hee⟩:=ext_end hE hneg;have hu0:=Nat.div_le_self b r0;have hv0:=Nat.div_le_self a r0;have HDB:=Lib.hid (fun w=>divmod_c b r0 w HB.out (lt128 hr0) hg0);have HDA:=Lib.hid (fun w=>divmod_c a r0 w HA.out (lt128 hr0) hg0);generalize b / r0=u at hxx hee hu0 HDB;generalize a / r0=v at hee hv0 HDA;generalize b%r0=ru at HDB;generalize a%r0=rv at HDA;have hu:=Nat.lt_of_le_of_lt hu0 HB.out;have hv:=Nat.lt_of_le_of_lt hv0 HA.out;have h8:2*256^8<(256:Nat)^128:=by decide
    have HG0:=Lib.hid hg0;have HGB:=Lib.hid (lt128 hr0);have HU:=Lib.hid (lt128 hu);have HV:=Lib.hid (lt128 hv);have HX0:=Lib.hid (lt128 hxy.1);have HY0:=Lib.hid (lt128 hxy.2);have HS1:Hid ((x0+(u:Int)).natAbs<256^128):=by unfold Hid;have:=hxy.1;omega
    have HS2:Hid ((y0-(v:Int)).natAbs<256^128):=by unfold Hid;have:=hxy.2;omega
    have HXN:=Lib.hid (show (((x0+(u:Int)).natAbs:Nat):Int)=x0+(u:Int) by omega);have HXL:Hid ((x0+(u:Int)).natAbs<256^8):=by unfold Hid;omega
    have HEQ:=Lib.hid hee;have HSX:=Lib.hid (sg_of_nonneg hxx);clear hneg hr hr0 hr1 hxy hE hg0 hxx hee hu hv h8 hu0 hv0;obtain ⟨ht1,ht2,ht3⟩:=hat;obtain ⟨hbr0c0,hbr0f0,hbr0c1,hbr0f1⟩:=hbr0.x2;obtain ⟨hbx0c0,hbx0f0,hbx0c1,hbx0f1,hbx0c2,hbx0f2,hbx0c3,hbx0f3⟩:=hbx0.x4;go_wp2_with fail
    refine (HDB.out _).mono ?_;rintro e w5 ⟨rfl,hb5⟩;go_wp2_with fail
    refine (HDA.out _).mono ?_;rintro e w6 ⟨rfl,hb6⟩;clear hbr0c0 hbr0f0 hbr0c1 hbr0f1;clear hbx0c0 hbx0f0 hbx0c1 hbx0f1 hbx0c2 hbx0f2 hbx0c3 hbx0f3;clear hbr0 hbx0 hby0 hba0 hbb0;replace hbox:=(hbox.after hb5).after hb6;have hl6:bx<w6.heap.size:=hbox.x.lt;clear hb5 hb6 hsg;have hbx0:=hbox.x;obtain ⟨hbx0c0,hbx0f0,hbx0c1,hbx0f1,hbx0c2,hbx0f2,hbx0c3,hbx0f3⟩:=hbx0.x4;go_upto_region 16 with fail
    go_cut [96] (fun _ wx=>XBox w br bx (bx+1) r0 0 (x0+(u:Int)) x1 y0 y1 wx)
    case first =>
     go_region_with (first | (go_at_call 87;refine (ifromS_c u _ HU.out).mono ?_;rintro e wf ⟨rfl,hbf⟩;have hboxf:=hbox.drew.after hbf;have yf0:=hboxf.x.cell 0;have yf1:=hboxf.x.cell 1) | (go_at_call 162;refine (iaddU_c x0 u _ HX0.out HU.out HS1.out).mono ?_;rintro e wd ⟨rfl,hbd⟩;have hboxd:=hboxf.after hbd;have zd0:=hboxd.x.cell 0;have zd1:=hboxd.x.cell 1;have zf0:=hboxd.x.free 0;have zf1:=hboxd.x.free 1))
     all_goals
      go_wp2_with fail
      go_meet
      exact hboxd.setX0 ⟨ht1,ht2,ht3⟩ _
    case rest =>
     clear hbx0c0 hbx0f0 hbx0c1 hbx0f1 hbx0c2 hbx0f2 hbx0c3 hbx0f3;clear hbx0 hbox;obtain ⟨wq,hwq⟩:∃wq,wq=wc:=⟨_,rfl⟩;subst hwq;have hby0:=hcut.y;obtain ⟨hby0c0,hby0f0,hby0c1,hby0f1,hby0c2,hby0f2,hby0c3,hby0f3⟩:=hby0.x4;go_upto_region 17 with fail
     have hbox:=hcut;clear hcut;go_cut [105] (fun _ wx=>XBox w br bx (bx+1) r0 0 (x0+(u:Int)) x1 (y0-(v:Int)) y1 wx)
     case first =>
      go_region_with (first | (go_at_call 87;refine (ifromS_c v _ HV.out).mono ?_;rintro e wf ⟨rfl,hbf⟩;have hboxf:=hbox.drew.after hbf;have yf0:=hboxf.y.cell 0;have yf1:=hboxf.y.cell 1) | (go_at_call 161;refine (isubU_c y0 v _ HY0.out HV.out HS2.out).mono ?_;rintro e wd ⟨rfl,hbd⟩;have hboxd:=hboxf.after hbd;have zd0:=hboxd.y.cell 0;have zd1:=hboxd.y.cell 1;have zf0:=hboxd.y.free 0;have zf1:=hboxd.y.free 1))
      all_goals
       go_wp2_with fail
       go_meet
       exact hboxd.setY0 ⟨ht1,ht2,ht3⟩ _
     case rest =>
      clear hby0c0 hby0f0 hby0c1 hby0f1 hby0c2 hby0f2 hby0c3 hby0f3;clear hby0 hbox;have hbx0:=hcut.x;have hby0:=hcut.y;have hba0:=hcut.a;have hbb0:=hcut.b;obtain ⟨hbx0c0,hbx0f0,hbx0c1,hbx0f1,hbx0c2,hbx0f2,hbx0c3,hbx0f3⟩:=hbx0.x4;obtain ⟨hby0c0,hby0f0,hby0c1,hby0f1,hby0c2,hby0f2,hby0c3,hby0f3⟩:=hby0.x4;obtain ⟨hba0c0,hba0f0,hba0c1,hba0f1⟩:=hba0.x2;obtain ⟨hbb0c0,hbb0f0,hbb0c1,hbb0f1⟩:=hbb0.x2;have hsx:=HSX.out;go_wp2_with fail
      go_region;go_wp2;refine bodyPost_ret (v:=.tuple #[.string (E r0),.agg #[.bool false,.string (E (x0+(u:Int)).natAbs)],.agg #[.bool (sg (y0-(v:Int))),.string (E (y0-(v:Int)).natAbs)],.int .i64 0]) ?_ rfl (ExtPost.mk ?_ ?_ HXL.out ?_)
      ·simp [results,Tryz.results135,go_sem,hba0c0,hba0c1,hbb0c0,hbb0c1]
      ·have:=HEE.out.g;rwa [Nat.gcd_zero_right] at this
      ·rw [HXN.out];exact HEQ.out
      ·exact ((((hcut.below.setCell (by simp) _).setCell (by simp) _).setCell (by simp) _).setCell (by simp) _).drew
   ·have hsg:=sg_of_nonneg hpos;have HP:=Lib.hid hpos;have HX:=Lib.hid (show ((x0.natAbs:Nat):Int)=x0 by omega);clear hpos hr hr0 hr1 hxy hE;obtain ⟨hbr0c0,hbr0f0,hbr0c1,hbr0f1⟩:=hbr0.x2;obtain ⟨hbx0c0,hbx0f0,hbx0c1,hbx0f1,hbx0c2,hbx0f2,hbx0c3,hbx0f3⟩:=hbx0.x4;obtain ⟨hby0c0,hby0f0,hby0c1,hby0f1,hby0c2,hby0f2,hby0c3,hby0f3⟩:=hby0.x4;obtain ⟨hba0c0,hba0f0,hba0c1,hba0f1⟩:=hba0.x2;obtain ⟨hbb0c0,hbb0f0,hbb0c1,hbb0f1⟩:=hbb0.x2;obtain ⟨ht1,ht2,ht3⟩:=hat;go_wp2_with fail
    go_region;go_wp2;refine bodyPost_ret (v:=.tuple #[.string (E r0),.agg #[.bool false,.string (E x0.natAbs)],.agg #[.bool (sg (y0)),.string (E (y0).natAbs)],.int .i64 0]) ?_ rfl (ExtPost.mk ?_ ?_ HXY.out.1 ?_)
    ·simp [results,Tryz.results135,go_sem,hba0c0,hba0c1,hbb0c0,hbb0c1]
    ·have:=HEE.out.g;rwa [Nat.gcd_zero_right] at this
    ·rw [HX.out];exact HEE.out.e0
    ·exact ((((hbox.below.setCell (by simp) _).setCell (by simp) _).setCell (by simp) _).setCell (by simp) _).drew
end
end Go.Proofs.YtdoacbdkbbpamaaGreatDoor
