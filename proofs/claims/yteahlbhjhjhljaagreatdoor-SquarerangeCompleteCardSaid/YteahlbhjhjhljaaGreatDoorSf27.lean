/- ref14.element and Shift. -/
import Derived.Test.YteahlbhjhjhljaaGreatDoorRinv
import Derived.Test.YteahlbhjhjhljaaGreatDoorLc27
import Derived.Test.YteahlbhjhjhljaaGreatDoorSet1
import Derived.Deep.RegionHeld3
import Derived.Deep.DrawnRows
import Derived.Test.YteahlbhjhjhljaaGreatDoorImg2
set_option linter.unusedVariables false
set_option linter.unusedSimpArgs false
set_option maxRecDepth 100000
set_option maxHeartbeats 16000000
namespace Go.Proofs.YteahlbhjhjhljaaGreatDoor
section
open Go.RowKit
end
section
open Go.RowKit
def shiftN (p c g:Nat) (z:Int):Nat:=pw (prs p [c,g] [1,z]) 0%p
theorem ints2 {w:World} {b:Nat} {x y:Int} {T:TypeId} (h:Blk w b T [.bool (sg x),.string (E x.natAbs),.bool (sg y),.string (E y.natAbs)]):IntsAt w b [x,y]:=by
 refine ⟨h.lt,fun j hj=>?_⟩;match j,hj with
 | 0,_=>exact ⟨h.cell 0,h.cell 1⟩
 | 1,_=>exact ⟨h.cell 2,h.cell 3⟩
theorem product2_c (p q c g:Nat) (z:Int) (bl bz:Nat) (w:World) (hp:p<256^8) (hq:q<256^128) (he:grpE p q=0) (hc:hasB p q c=true) (hg:hasB p q g=true) (hz:z.natAbs<256^128)
  (hL:Blk w bl 22 [.string (E c),.string (E g)]) (hZ:Blk w bz 28 [.bool (sg 1),.string (E 1),.bool (sg z),.string (E z.natAbs)]) :
  Calls Tryz.prog 146 #[.agg #[.string (E p),.string (E q)],.slice (some ⟨bl,0,none⟩) 2 2,.slice (some ⟨bz,0,none⟩) 2 2] w fun e w'=>e=.returned (.tuple #[.string (E (shiftN p c g z)),.int .i64 0])∧Below w.heap.size w w':=
 product_c p q bl bz 2 2 2 [c,g] [1,z] w hp hq he rfl rfl (by omega) (by omega) (by omega) (by omega) (by omega)
  (by intro x hx;simp at hx;rcases hx with rfl | rfl <;> assumption) (by intro y hy;simp at hy;rcases hy with rfl | rfl <;> first | decide | assumption) (nats2 hL) (ints2 (x:=1) hZ)
theorem shift_c (p q g h c:Nat) (z:Int) (w:World) (hp:p<256^8) (hq:q<256^128) (hgb:g<256^128) (hhb:h<256^128) (hcb:c<256^128) (hzb:z.natAbs<256^128)
  (he:pedE p q g h=0) (hc:hasB p q c=true) (hg:hasB p q g=true) :
  Calls Tryz.prog 118 #[.agg #[.string (E p),.string (E q),.string (E g),.string (E h)],.string (E c),.agg #[.bool (sg (z)),.string (E (z).natAbs)]] w fun e w'=>e=.returned (.tuple #[.string (E (shiftN p c g z)),.int .i64 0])∧Below w.heap.size w w':=by
 have HF:=Lib.hid (fun w=>pformedV_c (E p) (E q) (E g) (E h) true w (sz1000 (lt128 hp)) (sz1000 hq) (sz1000 hgb) (sz1000 hhb) (vl4_E (lt128 hp) hq hgb hhb));have HPC:=Lib.hid (fun w=>pedcheckV_c p q g h 0 w hp hq hgb hhb he);have HO:=Lib.hid (fun w=>iof_c 1 w (by decide) (by decide));have HCB:=Lib.hid hcb;have HZB:=Lib.hid hzb;have HPR:=Lib.hid (fun bl bz w=>product2_c p q c g z bl bz w hp hq (pedE_grp he) hc hg hzb);have hB:=blk2a w #[Value.string (E p),Value.string (E q),Value.string (E g),Value.string (E h)] #[.bool (sg z),.string (E z.natAbs)] 26 28;have hI:=blk2b w #[Value.string (E p),Value.string (E q),Value.string (E g),Value.string (E h)] #[.bool (sg z),.string (E z.natAbs)] 26 28;have hBW:=b2 w (.cells #[Value.string (E p),Value.string (E q),Value.string (E g),Value.string (E h)] 26) (.cells #[.bool (sg z),.string (E z.natAbs)] 28);clear hp hq hgb hhb hcb hzb he hc hg;obtain ⟨hBc0,hBf0,hBc1,hBf1,hBc2,hBf2,hBc3,hBf3⟩:=hB.x4;obtain ⟨hIc0,hIf0,hIc1,hIf1⟩:=hI.x2;go_enter Tryz.func118,Tryz.ntmps118
 go_wp2_with fail
 refine (HF.out _).mono ?_;rintro e w1 ⟨rfl,hb1⟩;clear hBc0 hBf0 hBc1 hBf1 hBc2 hBf2 hBc3 hBf3;clear hIc0 hIf0 hIc1 hIf1;replace hB:=hB.after hb1;replace hI:=hI.after hb1;replace hBW:=bt hBW hb1;obtain ⟨hBc0,hBf0,hBc1,hBf1,hBc2,hBf2,hBc3,hBf3⟩:=hB.x4;obtain ⟨hIc0,hIf0,hIc1,hIf1⟩:=hI.x2;go_wp2_with fail
 refine (validE_c c _ HCB.out).mono ?_;rintro e w' ⟨rfl,rfl⟩;go_wp2_with fail
 refine (ivalidI_c z _ HZB.out).mono ?_;rintro e w2 ⟨rfl,hb2⟩;clear hBc0 hBf0 hBc1 hBf1 hBc2 hBf2 hBc3 hBf3;clear hIc0 hIf0 hIc1 hIf1;replace hB:=hB.after hb2;replace hI:=hI.after hb2;replace hBW:=bt hBW hb2;obtain ⟨hBc0,hBf0,hBc1,hBf1,hBc2,hBf2,hBc3,hBf3⟩:=hB.x4;obtain ⟨hIc0,hIf0,hIc1,hIf1⟩:=hI.x2;go_wp2_with fail
 refine (HPC.out _).mono ?_;rintro e w3 ⟨rfl,hb3⟩;clear hBc0 hBf0 hBc1 hBf1 hBc2 hBf2 hBc3 hBf3;clear hIc0 hIf0 hIc1 hIf1;replace hB:=hB.after hb3;replace hI:=hI.after hb3;replace hBW:=bt hBW hb3;obtain ⟨hBc0,hBf0,hBc1,hBf1,hBc2,hBf2,hBc3,hBf3⟩:=hB.x4;obtain ⟨hIc0,hIf0,hIc1,hIf1⟩:=hI.x2;clear hb1 hb2 hb3;have hl3:w.heap.size<w3.heap.size:=hB.lt;have hl3':w.heap.size+1<w3.heap.size:=hI.lt;go_wp2_with fail
 go_region_held3 (fun w'=>w'.cell? ⟨w.heap.size,0,none⟩=some (.string (E p))∧w'.cell? ⟨w.heap.size,1,none⟩=some (.string (E q))∧w'.cell? ⟨w.heap.size,2,none⟩=some (.string (E g))∧w'.cell? ⟨w.heap.size+1,0,none⟩=some (.bool (sg z))∧w'.cell? ⟨w.heap.size+1,1,none⟩=some (.string (E z.natAbs))) (first | exact ⟨d0,d1,d2,j0,j1⟩ | exact ⟨f0,f1,f2,i0,i1⟩ | go_keep)
  (first | (go_at_call 106;refine (HO.out _).mono ?_;rintro e wf ⟨rfl,hbf⟩;have hBf:Blk wf w.heap.size 26 [Value.string (E p),Value.string (E q),Value.string (E g),Value.string (E h)]:=(by first | exact hB.drew.after hbf | exact (hB.alloc _).drew.after hbf);have hIf:Blk wf (w.heap.size+1) 28 [.bool (sg z),.string (E z.natAbs)]:=(by first | exact hI.drew.after hbf | exact (hI.alloc _).drew.after hbf);have hBWf:Below w.heap.size w wf:=(by first | exact bt hBW.drew hbf | exact bt (ba hBW _).drew hbf);have f0:=hBf.cell 0;have f1:=hBf.cell 1;have f2:=hBf.cell 2;have i0:=hIf.cell 0;have i1:=hIf.cell 1;have hlf:w.heap.size<wf.heap.size:=hBf.lt;have hlf':w.heap.size+1<wf.heap.size:=hIf.lt) | (go_at_call 146;refine (HPR.out _ _ _ (by first | exact ((Blk.new w3 _ _).drew.after hbf).alloc _ | exact blk2a _ _ _ _ _ | exact blk2b _ _ _ _ _ | exact ((Blk.new w3 _ _).drew.after hbf)) (by first | exact Blk.new _ _ _ | exact blk2a _ _ _ _ _ | exact blk2b _ _ _ _ _)).mono ?_;rintro e wd ⟨rfl,hbd⟩;have hBd:Blk wd w.heap.size 26 [Value.string (E p),Value.string (E q),Value.string (E g),Value.string (E h)]:=(by first | exact ((hBf.alloc _).alloc _).after hbd | exact (hBf.alloc _).after hbd);have hId:Blk wd (w.heap.size+1) 28 [.bool (sg z),.string (E z.natAbs)]:=(by first | exact ((hIf.alloc _).alloc _).after hbd | exact (hIf.alloc _).after hbd);have hBWd:Below w.heap.size w wd:=(by first | exact bt (ba (ba hBWf _) _) hbd | exact bt (ba hBWf _) hbd);have d0:=hBd.cell 0;have d1:=hBd.cell 1;have d2:=hBd.cell 2;have j0:=hId.cell 0;have j1:=hId.cell 1))
 all_goals go_wp2
 all_goals (go_ret2;exact ⟨rfl,by first | exact hBWd | exact hBWd.drew⟩)
end
section
open Go.RowKit
end
section
open Go.RowKit
end
section
open Go.RowKit
structure Stm (w:World) (g1 g2 g3 g4 c4:Nat) (p q t:Nat) (B:List Nat):Prop where
 l1:g1<w.heap.size
 l2:g2<w.heap.size
 l3:g3<w.heap.size
 l4:g4<w.heap.size
 m0:w.cell? ⟨g1,0,none⟩=some (.string (E p))
 m1:w.cell? ⟨g1,1,none⟩=some (.string (E q))
 vs:∀j,j<B.length→w.cell? ⟨g2,j,none⟩=some (.string { data:=#[] })
 e0:w.cell? ⟨g3,0,none⟩=some (.int .i64 0)
 e1:w.cell? ⟨g3,1,none⟩=some (.string (E t))
 e2:w.cell? ⟨g3,2,none⟩=some (.slice (some ⟨g4,0,none⟩) B.length c4)
 t0:∀j (h:j<B.length),w.cell? ⟨g4,j*4,none⟩=some (.string (E B[j]))
 t1:∀j,j<B.length→w.cell? ⟨g4,j*4+1,none⟩=some (.int .i64 (j:Int))
 t2:∀j,j<B.length→w.cell? ⟨g4,j*4+2,none⟩=some (.bool false)
 t3:∀j,j<B.length→w.cell? ⟨g4,j*4+3,none⟩=some (.string (E 1))
 cap:B.length≤c4
theorem Stm.after {w w':World} {g1 g2 g3 g4 c4 p q t:Nat} {B:List Nat} (h:Stm w g1 g2 g3 g4 c4 p q t B) (hb:Below w.heap.size w w'):Stm w' g1 g2 g3 g4 c4 p q t B:=
 ⟨Nat.lt_of_lt_of_le h.l1 hb.size,Nat.lt_of_lt_of_le h.l2 hb.size,Nat.lt_of_lt_of_le h.l3 hb.size,Nat.lt_of_lt_of_le h.l4 hb.size,
  (hb.cell (p:=⟨g1,0,none⟩) h.l1).trans h.m0,(hb.cell (p:=⟨g1,1,none⟩) h.l1).trans h.m1,fun j hj=>(hb.cell (p:=⟨g2,j,none⟩) h.l2).trans (h.vs j hj),
  (hb.cell (p:=⟨g3,0,none⟩) h.l3).trans h.e0,(hb.cell (p:=⟨g3,1,none⟩) h.l3).trans h.e1,(hb.cell (p:=⟨g3,2,none⟩) h.l3).trans h.e2,
  fun j hj=>(hb.cell (p:=⟨g4,j*4,none⟩) h.l4).trans (h.t0 j hj),fun j hj=>(hb.cell (p:=⟨g4,j*4+1,none⟩) h.l4).trans (h.t1 j hj),
  fun j hj=>(hb.cell (p:=⟨g4,j*4+2,none⟩) h.l4).trans (h.t2 j hj),fun j hj=>(hb.cell (p:=⟨g4,j*4+3,none⟩) h.l4).trans (h.t3 j hj),h.cap⟩
end
section
/- dominoref14.Commit. -/
open Go.RowKit Go.Shelf
theorem r14validB_c (a b:Bool) (s t:ByteArray) (w:World) (hs:s.size≤1000) (ht:t.size≤1000) :
  Calls Tryz.prog 112 #[.agg #[.bool a,.string s,.bool b,.string t]] w fun e w'=>e=.returned (.bool (ivB a s&&ivB b t))∧Below w.heap.size w w':=by
 obtain ⟨r1,hr1⟩:∃r1,ivB a s=r1:=⟨_,rfl⟩;obtain ⟨r2,hr2⟩:∃r2,ivB b t=r2:=⟨_,rfl⟩;rw [hr1,hr2];have H1:Hid (∀w,Calls Tryz.prog 55 #[.agg #[.bool a,.string s]] w fun e w'=>e=.returned (.bool r1)∧Below w.heap.size w w'):=fun w=>rivalB_c a s r1 w hs hr1
 have H2:Hid (∀w,Calls Tryz.prog 55 #[.agg #[.bool b,.string t]] w fun e w'=>e=.returned (.bool r2)∧Below w.heap.size w w'):=fun w=>rivalB_c b t r2 w ht hr2
 have hB:=Blk.new w #[Value.bool a,Value.string s,Value.bool b,Value.string t] 30;have hBW:=b1 w (.cells #[Value.bool a,Value.string s,Value.bool b,Value.string t] 30);clear hs ht hr1 hr2;cases r1
 ·
  obtain ⟨hBc0,hBf0,hBc1,hBf1,hBc2,hBf2,hBc3,hBf3⟩:=hB.x4;go_enter Tryz.func112,Tryz.ntmps112
  go_wp2_with fail
  refine (H1.out _).mono ?_;rintro e w1 ⟨rfl,hb1⟩;go_wp2;go_ret
  exact ⟨rfl,bt hBW hb1⟩
 ·
  obtain ⟨hBc0,hBf0,hBc1,hBf1,hBc2,hBf2,hBc3,hBf3⟩:=hB.x4;go_enter Tryz.func112,Tryz.ntmps112
  go_wp2_with fail
  refine (H1.out _).mono ?_;rintro e w1 ⟨rfl,hb1⟩;clear hBc0 hBf0 hBc1 hBf1 hBc2 hBf2 hBc3 hBf3;replace hB:=hB.after hb1;replace hBW:=bt hBW hb1;obtain ⟨hBc0,hBf0,hBc1,hBf1,hBc2,hBf2,hBc3,hBf3⟩:=hB.x4;go_wp2_with fail
  refine (H2.out _).mono ?_;rintro e w2 ⟨rfl,hb2⟩;go_wp2;go_ret
  exact ⟨by cases r2 <;> rfl,bt hBW hb2⟩
theorem r14validI_c (m r:Int) (w:World) (hm:m.natAbs<256^128) (hr:r.natAbs<256^128) :
  Calls Tryz.prog 112 #[opn m r] w fun e w'=>e=.returned (.bool true)∧Below w.heap.size w w':=by
 have:=r14validB_c (sg m) (sg r) (E m.natAbs) (E r.natAbs) w (sz1000 hm) (sz1000 hr);rw [ivB_I m hm,ivB_I r hr] at this;exact this
theorem rproduct3_c (p q g h:Nat) (m r:Int) (bl bz:Nat) (w:World) (hp:p<256^8) (hq:q<256^128) (he:grpE p q=0) (hg:hasB p q g=true) (hh:hasB p q h=true) (hm:m.natAbs<256^128) (hr:r.natAbs<256^128)
  (hL:Blk w bl 22 [.string (E g),.string (E h)]) (hZ:Blk w bz 28 [.bool (sg m),.string (E m.natAbs),.bool (sg r),.string (E r.natAbs)]) :
  Calls Tryz.prog 114 #[.agg #[.string (E p),.string (E q)],.slice (some ⟨bl,0,none⟩) 2 2,.slice (some ⟨bz,0,none⟩) 2 2] w fun e w'=>e=.returned (.tuple #[.string (E (cmtN p g h m r)),.int .i64 0])∧Below w.heap.size w w':=
 rproduct_c p q [g,h] [m,r] _ _ w hp hq he rfl (by simp) (by intro x hx;simp at hx;rcases hx with rfl | rfl <;> assumption) (by intro y hy;simp at hy;rcases hy with rfl | rfl <;> assumption)
  (NOwn.ss (own_blk hL rfl (by decide))) (ZOwn.zs (own_blk hZ rfl (by decide)))
theorem r14commit_c (p q g h:Nat) (m r:Int) (w:World) (hp:p<256^8) (hq:q<256^128) (hgb:g<256^128) (hhb:h<256^128) (hm:m.natAbs<256^128) (hr:r.natAbs<256^128)
  (he:pedE p q g h=0) (hg:hasB p q g=true) (hh:hasB p q h=true) :
  Calls Tryz.prog 49 #[.agg #[.string (E p),.string (E q),.string (E g),.string (E h)],opn m r] w fun e w'=>e=.returned (.tuple #[.string (E (cmtN p g h m r)),.int .i64 0])∧Below w.heap.size w w':=by
 unfold opn;have HF:=Lib.hid (fun w=>rpformV_c (E p) (E q) (E g) (E h) true w (sz1000 (lt128 hp)) (sz1000 hq) (sz1000 hgb) (sz1000 hhb) (vl4_E (lt128 hp) hq hgb hhb));have HPC:=Lib.hid (fun w=>rpedcheckV_c p q g h 0 w hp hq hgb hhb he);have HV:Hid (∀w,Calls Tryz.prog 112 #[.agg #[.bool (sg m),.string (E m.natAbs),.bool (sg r),.string (E r.natAbs)]] w fun e w'=>e=.returned (.bool true)∧Below w.heap.size w w'):=fun w=>r14validI_c m r w hm hr
 have HPR:=Lib.hid (fun bl bz w=>rproduct3_c p q g h m r bl bz w hp hq (pedE_grp he) hg hh hm hr);have hB:=blk2a w #[Value.string (E p),Value.string (E q),Value.string (E g),Value.string (E h)] #[.bool (sg m),.string (E m.natAbs),.bool (sg r),.string (E r.natAbs)] 26 30;have hI:=blk2b w #[Value.string (E p),Value.string (E q),Value.string (E g),Value.string (E h)] #[.bool (sg m),.string (E m.natAbs),.bool (sg r),.string (E r.natAbs)] 26 30;have hBW:=b2 w (.cells #[Value.string (E p),Value.string (E q),Value.string (E g),Value.string (E h)] 26) (.cells #[.bool (sg m),.string (E m.natAbs),.bool (sg r),.string (E r.natAbs)] 30);clear hp hq hgb hhb hm hr he hg hh;obtain ⟨hBc0,hBf0,hBc1,hBf1,hBc2,hBf2,hBc3,hBf3⟩:=hB.x4;obtain ⟨hIc0,hIf0,hIc1,hIf1,hIc2,hIf2,hIc3,hIf3⟩:=hI.x4;go_enter Tryz.func49,Tryz.ntmps49
 go_wp2_with fail
 refine (HF.out _).mono ?_;rintro e w1 ⟨rfl,hb1⟩;clear hBc0 hBf0 hBc1 hBf1 hBc2 hBf2 hBc3 hBf3;clear hIc0 hIf0 hIc1 hIf1 hIc2 hIf2 hIc3 hIf3;replace hB:=hB.after hb1;replace hI:=hI.after hb1;replace hBW:=bt hBW hb1;obtain ⟨hBc0,hBf0,hBc1,hBf1,hBc2,hBf2,hBc3,hBf3⟩:=hB.x4;obtain ⟨hIc0,hIf0,hIc1,hIf1,hIc2,hIf2,hIc3,hIf3⟩:=hI.x4;go_wp2_with fail
 refine (HV.out _).mono ?_;rintro e w2 ⟨rfl,hb2⟩;clear hBc0 hBf0 hBc1 hBf1 hBc2 hBf2 hBc3 hBf3;clear hIc0 hIf0 hIc1 hIf1 hIc2 hIf2 hIc3 hIf3;replace hB:=hB.after hb2;replace hI:=hI.after hb2;replace hBW:=bt hBW hb2;obtain ⟨hBc0,hBf0,hBc1,hBf1,hBc2,hBf2,hBc3,hBf3⟩:=hB.x4;obtain ⟨hIc0,hIf0,hIc1,hIf1,hIc2,hIf2,hIc3,hIf3⟩:=hI.x4;go_wp2_with fail
 refine (HPC.out _).mono ?_;rintro e w3 ⟨rfl,hb3⟩;clear hBc0 hBf0 hBc1 hBf1 hBc2 hBf2 hBc3 hBf3;clear hIc0 hIf0 hIc1 hIf1 hIc2 hIf2 hIc3 hIf3;replace hB:=hB.after hb3;replace hI:=hI.after hb3;replace hBW:=bt hBW hb3;obtain ⟨hBc0,hBf0,hBc1,hBf1,hBc2,hBf2,hBc3,hBf3⟩:=hB.x4;obtain ⟨hIc0,hIf0,hIc1,hIf1,hIc2,hIf2,hIc3,hIf3⟩:=hI.x4;clear hb1 hb2 hb3;have hl3:w.heap.size<w3.heap.size:=hB.lt;have hl3':w.heap.size+1<w3.heap.size:=hI.lt;go_wp2_with fail
 refine (HPR.out _ _ _ (blk2a _ _ _ _ _) (blk2b _ _ _ _ _)).mono ?_;rintro e wd ⟨rfl,hbd⟩;go_wp2;go_ret2
 exact ⟨rfl,bt (ba (ba hBW _) _) hbd⟩
theorem r14commit_13 (p q g h:Nat) (m r:Int) (w:World) (hp:p<256^8) (hq:q<256^128) (hgb:g<256^128) (hhb:h<256^128) (hm:m.natAbs<256^128) (hr:r.natAbs<256^128)
  (he:pedE p q g h=13) :
  Calls Tryz.prog 49 #[.agg #[.string (E p),.string (E q),.string (E g),.string (E h)],opn m r] w fun e w'=>e=.returned (.tuple #[.string (E 0),.int .i64 13])∧Below w.heap.size w w':=by
 unfold opn;rw [show (E 0)=(⟨#[]⟩:ByteArray) from rfl];have HF:=Lib.hid (fun w=>rpformV_c (E p) (E q) (E g) (E h) true w (sz1000 (lt128 hp)) (sz1000 hq) (sz1000 hgb) (sz1000 hhb) (vl4_E (lt128 hp) hq hgb hhb));have HPC:=Lib.hid (fun w=>rpedcheckV_c p q g h 13 w hp hq hgb hhb he);have HV:Hid (∀w,Calls Tryz.prog 112 #[.agg #[.bool (sg m),.string (E m.natAbs),.bool (sg r),.string (E r.natAbs)]] w fun e w'=>e=.returned (.bool true)∧Below w.heap.size w w'):=fun w=>r14validI_c m r w hm hr
 have hB:=blk2a w #[Value.string (E p),Value.string (E q),Value.string (E g),Value.string (E h)] #[.bool (sg m),.string (E m.natAbs),.bool (sg r),.string (E r.natAbs)] 26 30;have hI:=blk2b w #[Value.string (E p),Value.string (E q),Value.string (E g),Value.string (E h)] #[.bool (sg m),.string (E m.natAbs),.bool (sg r),.string (E r.natAbs)] 26 30;have hBW:=b2 w (.cells #[Value.string (E p),Value.string (E q),Value.string (E g),Value.string (E h)] 26) (.cells #[.bool (sg m),.string (E m.natAbs),.bool (sg r),.string (E r.natAbs)] 30);clear hp hq hgb hhb hm hr he;obtain ⟨hBc0,hBf0,hBc1,hBf1,hBc2,hBf2,hBc3,hBf3⟩:=hB.x4;obtain ⟨hIc0,hIf0,hIc1,hIf1,hIc2,hIf2,hIc3,hIf3⟩:=hI.x4;go_enter Tryz.func49,Tryz.ntmps49
 go_wp2_with fail
 refine (HF.out _).mono ?_;rintro e w1 ⟨rfl,hb1⟩;clear hBc0 hBf0 hBc1 hBf1 hBc2 hBf2 hBc3 hBf3;clear hIc0 hIf0 hIc1 hIf1 hIc2 hIf2 hIc3 hIf3;replace hB:=hB.after hb1;replace hI:=hI.after hb1;replace hBW:=bt hBW hb1;obtain ⟨hBc0,hBf0,hBc1,hBf1,hBc2,hBf2,hBc3,hBf3⟩:=hB.x4;obtain ⟨hIc0,hIf0,hIc1,hIf1,hIc2,hIf2,hIc3,hIf3⟩:=hI.x4;go_wp2_with fail
 refine (HV.out _).mono ?_;rintro e w2 ⟨rfl,hb2⟩;clear hBc0 hBf0 hBc1 hBf1 hBc2 hBf2 hBc3 hBf3;clear hIc0 hIf0 hIc1 hIf1 hIc2 hIf2 hIc3 hIf3;replace hB:=hB.after hb2;replace hI:=hI.after hb2;replace hBW:=bt hBW hb2;obtain ⟨hBc0,hBf0,hBc1,hBf1,hBc2,hBf2,hBc3,hBf3⟩:=hB.x4;obtain ⟨hIc0,hIf0,hIc1,hIf1,hIc2,hIf2,hIc3,hIf3⟩:=hI.x4;go_wp2_with fail
 refine (HPC.out _).mono ?_;rintro e w3 ⟨rfl,hb3⟩;go_wp2;go_ret2
 exact ⟨rfl,bt hBW hb3⟩
theorem r14commit_bad (a b c d:ByteArray) (x y:Bool) (s t:ByteArray) (w:World) (ha:a.size≤1000) (hb:b.size≤1000) (hc:c.size≤1000) (hd:d.size≤1000) (hs:s.size≤1000) (ht:t.size≤1000)
  (hbad:(vl4 a b c d&&(ivB x s&&ivB y t))=false) :
  Calls Tryz.prog 49 #[.agg #[.string a,.string b,.string c,.string d],.agg #[.bool x,.string s,.bool y,.string t]] w fun e w'=>e=.returned (.tuple #[.string (E 0),.int .i64 3])∧Below w.heap.size w w':=by
 rw [show (E 0)=(⟨#[]⟩:ByteArray) from rfl];have HV:Hid (∀w,Calls Tryz.prog 112 #[.agg #[.bool x,.string s,.bool y,.string t]] w fun e w'=>e=.returned (.bool (ivB x s&&ivB y t))∧Below w.heap.size w w'):=fun w=>r14validB_c x y s t w hs ht
 have hB:=blk2a w #[Value.string a,Value.string b,Value.string c,Value.string d] #[.bool x,.string s,.bool y,.string t] 26 30;have hI:=blk2b w #[Value.string a,Value.string b,Value.string c,Value.string d] #[.bool x,.string s,.bool y,.string t] 26 30;have hBW:=b2 w (.cells #[Value.string a,Value.string b,Value.string c,Value.string d] 26) (.cells #[.bool x,.string s,.bool y,.string t] 30);cases h1:vl4 a b c d
 ·have HF:=Lib.hid (fun w=>rpformV_c a b c d false w ha hb hc hd h1);clear ha hb hc hd hs ht hbad h1;obtain ⟨hBc0,hBf0,hBc1,hBf1,hBc2,hBf2,hBc3,hBf3⟩:=hB.x4;obtain ⟨hIc0,hIf0,hIc1,hIf1,hIc2,hIf2,hIc3,hIf3⟩:=hI.x4;go_enter Tryz.func49,Tryz.ntmps49
  go_wp2_with fail
  refine (HF.out _).mono ?_;rintro e w1 ⟨rfl,hb1⟩;go_wp2;go_ret2
  exact ⟨rfl,bt hBW hb1⟩
 ·have HF:=Lib.hid (fun w=>rpformV_c a b c d true w ha hb hc hd h1);rw [h1,Bool.true_and] at hbad;rw [hbad] at HV;clear ha hb hc hd hs ht hbad h1;obtain ⟨hBc0,hBf0,hBc1,hBf1,hBc2,hBf2,hBc3,hBf3⟩:=hB.x4;obtain ⟨hIc0,hIf0,hIc1,hIf1,hIc2,hIf2,hIc3,hIf3⟩:=hI.x4;go_enter Tryz.func49,Tryz.ntmps49
  go_wp2_with fail
  refine (HF.out _).mono ?_;rintro e w1 ⟨rfl,hb1⟩;clear hBc0 hBf0 hBc1 hBf1 hBc2 hBf2 hBc3 hBf3;clear hIc0 hIf0 hIc1 hIf1 hIc2 hIf2 hIc3 hIf3;replace hB:=hB.after hb1;replace hI:=hI.after hb1;replace hBW:=bt hBW hb1;obtain ⟨hBc0,hBf0,hBc1,hBf1,hBc2,hBf2,hBc3,hBf3⟩:=hB.x4;obtain ⟨hIc0,hIf0,hIc1,hIf1,hIc2,hIf2,hIc3,hIf3⟩:=hI.x4;go_wp2_with fail
  refine (HV.out _).mono ?_;rintro e w2 ⟨rfl,hb2⟩;go_wp2;go_ret2
  exact ⟨rfl,bt hBW hb2⟩
end
section
open Go.RowKit Go.Shelf
end
end Go.Proofs.YteahlbhjhjhljaaGreatDoor
