import Derived.Test.YtfgandecbkbleaaGreatDoorImg1
import Derived.Deep.RegionHeld3
import Derived.Test.YtfgandecbkbleaaGreatDoorLck6
set_option linter.unusedVariables false
set_option linter.unusedSimpArgs false
set_option maxRecDepth 100000
set_option maxHeartbeats 16000000
namespace Go.Proofs.YtfgandecbkbleaaGreatDoor
section
open Go.RowKit Go.Shelf
def CA (w:World) (l:List (Addr × Value)):Prop:=∀x∈l,x.1.block<w.heap.size∧w.cell? x.1=some x.2
theorem CA.nil (w:World):CA w []:=fun x h=>by cases h
theorem CA.cons {w:World} {a:Addr} {v:Value} {l:List (Addr × Value)} (h1:a.block<w.heap.size) (h2:w.cell? a=some v) (h:CA w l):CA w ((a,v) :: l):=by
 intro x hx;rcases List.mem_cons.1 hx with rfl | hx
 ·exact ⟨h1,h2⟩
 ·exact h x hx
theorem CA.drew {w:World} {l:List (Addr × Value)} (h:CA w l):CA w.drew l:=h
theorem CA.after {w w':World} {l:List (Addr × Value)} (h:CA w l) (hb:Below w.heap.size w w'):CA w' l:=fun x hx=>⟨Nat.lt_of_lt_of_le (h x hx).1 hb.size,(hb.cell (h x hx).1).trans (h x hx).2⟩
theorem CA.alloc {w:World} {l:List (Addr × Value)} (h:CA w l) (o:Obj):CA (w.alloc o) l:=h.after (b1 _ _)
theorem CA.grown {w w':World} {row:Option Nat} {l:List (Addr × Value)} (h:CA w l) (hg:w.grownBy w' row) (hr:∀x∈l,row≠some x.1.block):CA w' l:=
 fun x hx=>⟨Nat.lt_of_lt_of_le (h x hx).1 hg.size,hg.cell (h x hx).2 (fun e=>hr x hx e.symm)⟩
theorem CA.set {w:World} {l:List (Addr × Value)} (h:CA w l) (g i:Nat) (v:Value) (hne:∀x∈l,x.1.block≠g):CA (w.setCell ⟨g,i,none⟩ v) l:=
 fun x hx=>⟨by rw [World.size_setCell];exact (h x hx).1,by rw [World.cell?_setCell_other _ _ _ _ (fun e=>hne x hx (congrArg Addr.block e).symm)];exact (h x hx).2⟩
theorem CA.k1 {w:World} {a0:Addr} {v0:Value} (h:CA w [(a0,v0)]):w.cell? a0=some v0:=(h (a0,v0) (by simp)).2
theorem CA.k2 {w:World} {a0 a1:Addr} {v0 v1:Value} (h:CA w [(a0,v0),(a1,v1)]):w.cell? a0=some v0∧w.cell? a1=some v1:=⟨(h (a0,v0) (by simp)).2,(h (a1,v1) (by simp)).2⟩
theorem CA.k3 {w:World} {a0 a1 a2:Addr} {v0 v1 v2:Value} (h:CA w [(a0,v0),(a1,v1),(a2,v2)]):w.cell? a0=some v0∧w.cell? a1=some v1∧w.cell? a2=some v2:=⟨(h (a0,v0) (by simp)).2,(h (a1,v1) (by simp)).2,(h (a2,v2) (by simp)).2⟩
theorem CA.k4 {w:World} {a0 a1 a2 a3:Addr} {v0 v1 v2 v3:Value} (h:CA w [(a0,v0),(a1,v1),(a2,v2),(a3,v3)]):w.cell? a0=some v0∧w.cell? a1=some v1∧w.cell? a2=some v2∧w.cell? a3=some v3:=⟨(h (a0,v0) (by simp)).2,(h (a1,v1) (by simp)).2,(h (a2,v2) (by simp)).2,(h (a3,v3) (by simp)).2⟩
theorem CA.k5 {w:World} {a0 a1 a2 a3 a4:Addr} {v0 v1 v2 v3 v4:Value} (h:CA w [(a0,v0),(a1,v1),(a2,v2),(a3,v3),(a4,v4)]):w.cell? a0=some v0∧w.cell? a1=some v1∧w.cell? a2=some v2∧w.cell? a3=some v3∧w.cell? a4=some v4:=⟨(h (a0,v0) (by simp)).2,(h (a1,v1) (by simp)).2,(h (a2,v2) (by simp)).2,(h (a3,v3) (by simp)).2,(h (a4,v4) (by simp)).2⟩
theorem CA.k6 {w:World} {a0 a1 a2 a3 a4 a5:Addr} {v0 v1 v2 v3 v4 v5:Value} (h:CA w [(a0,v0),(a1,v1),(a2,v2),(a3,v3),(a4,v4),(a5,v5)]):w.cell? a0=some v0∧w.cell? a1=some v1∧w.cell? a2=some v2∧w.cell? a3=some v3∧w.cell? a4=some v4∧w.cell? a5=some v5:=⟨(h (a0,v0) (by simp)).2,(h (a1,v1) (by simp)).2,(h (a2,v2) (by simp)).2,(h (a3,v3) (by simp)).2,(h (a4,v4) (by simp)).2,(h (a5,v5) (by simp)).2⟩
theorem CA.k7 {w:World} {a0 a1 a2 a3 a4 a5 a6:Addr} {v0 v1 v2 v3 v4 v5 v6:Value} (h:CA w [(a0,v0),(a1,v1),(a2,v2),(a3,v3),(a4,v4),(a5,v5),(a6,v6)]):w.cell? a0=some v0∧w.cell? a1=some v1∧w.cell? a2=some v2∧w.cell? a3=some v3∧w.cell? a4=some v4∧w.cell? a5=some v5∧w.cell? a6=some v6:=⟨(h (a0,v0) (by simp)).2,(h (a1,v1) (by simp)).2,(h (a2,v2) (by simp)).2,(h (a3,v3) (by simp)).2,(h (a4,v4) (by simp)).2,(h (a5,v5) (by simp)).2,(h (a6,v6) (by simp)).2⟩
theorem CA.k8 {w:World} {a0 a1 a2 a3 a4 a5 a6 a7:Addr} {v0 v1 v2 v3 v4 v5 v6 v7:Value} (h:CA w [(a0,v0),(a1,v1),(a2,v2),(a3,v3),(a4,v4),(a5,v5),(a6,v6),(a7,v7)]):w.cell? a0=some v0∧w.cell? a1=some v1∧w.cell? a2=some v2∧w.cell? a3=some v3∧w.cell? a4=some v4∧w.cell? a5=some v5∧w.cell? a6=some v6∧w.cell? a7=some v7:=⟨(h (a0,v0) (by simp)).2,(h (a1,v1) (by simp)).2,(h (a2,v2) (by simp)).2,(h (a3,v3) (by simp)).2,(h (a4,v4) (by simp)).2,(h (a5,v5) (by simp)).2,(h (a6,v6) (by simp)).2,(h (a7,v7) (by simp)).2⟩
theorem CA.k9 {w:World} {a0 a1 a2 a3 a4 a5 a6 a7 a8:Addr} {v0 v1 v2 v3 v4 v5 v6 v7 v8:Value} (h:CA w [(a0,v0),(a1,v1),(a2,v2),(a3,v3),(a4,v4),(a5,v5),(a6,v6),(a7,v7),(a8,v8)]):w.cell? a0=some v0∧w.cell? a1=some v1∧w.cell? a2=some v2∧w.cell? a3=some v3∧w.cell? a4=some v4∧w.cell? a5=some v5∧w.cell? a6=some v6∧w.cell? a7=some v7∧w.cell? a8=some v8:=⟨(h (a0,v0) (by simp)).2,(h (a1,v1) (by simp)).2,(h (a2,v2) (by simp)).2,(h (a3,v3) (by simp)).2,(h (a4,v4) (by simp)).2,(h (a5,v5) (by simp)).2,(h (a6,v6) (by simp)).2,(h (a7,v7) (by simp)).2,(h (a8,v8) (by simp)).2⟩
theorem CA.k10 {w:World} {a0 a1 a2 a3 a4 a5 a6 a7 a8 a9:Addr} {v0 v1 v2 v3 v4 v5 v6 v7 v8 v9:Value} (h:CA w [(a0,v0),(a1,v1),(a2,v2),(a3,v3),(a4,v4),(a5,v5),(a6,v6),(a7,v7),(a8,v8),(a9,v9)]):w.cell? a0=some v0∧w.cell? a1=some v1∧w.cell? a2=some v2∧w.cell? a3=some v3∧w.cell? a4=some v4∧w.cell? a5=some v5∧w.cell? a6=some v6∧w.cell? a7=some v7∧w.cell? a8=some v8∧w.cell? a9=some v9:=⟨(h (a0,v0) (by simp)).2,(h (a1,v1) (by simp)).2,(h (a2,v2) (by simp)).2,(h (a3,v3) (by simp)).2,(h (a4,v4) (by simp)).2,(h (a5,v5) (by simp)).2,(h (a6,v6) (by simp)).2,(h (a7,v7) (by simp)).2,(h (a8,v8) (by simp)).2,(h (a9,v9) (by simp)).2⟩
theorem blkN {w:World} {cs:Array Value} {T:TypeId} {g:Nat} (h:g=w.heap.size):Blk (w.alloc (.cells cs T)) g T cs.toList:=by subst h;exact Blk.new _ _ _
def ZBox (w:World) (z:Int) (s10 s11:Value) (wx:World):Prop:=∃g,s10=.pointer (some ⟨g,0,none⟩)∧s11=.int .i64 0∧Blk wx g 28 [.bool (sg z),.string (E z.natAbs)]∧w.heap.size≤g∧Below w.heap.size w wx
def imgB (q:NEqn):List Nat:=q.trms.map (·.base)
def imgX (Z:List Int) (q:NEqn):List Int:=q.trms.map fun t=>t.coef*Z.getD t.var 0
def imgV (N:NSta) (Z:List Int) (q:NEqn):Nat:=pw (prs (N.gp q).1 (imgB q) (imgX Z q)) 0%(N.gp q).1
def NSta.imgs (N:NSta) (Z:List Int):List Nat:=N.eqs.map (imgV N Z)
theorem info_Int:(Tryz.prog.info? 28).map (fun i=>(i.zero,i.size,i.bytes))=some (some (.agg #[.bool false,.string { data:=#[] }]),2,24):=by kernel_rfl
theorem imgB_step (q:NEqn) (k:Nat) (h:k<q.trms.length):(imgB q).take (k+1)=(imgB q).take k++[(q.trms[k]).base]:=by
 unfold imgB;rw [←List.map_take,List.take_succ_eq_append_getElem h,List.map_append,List.map_take];rfl
theorem imgX_step (Z:List Int) (q:NEqn) (k:Nat) (h:k<q.trms.length):(imgX Z q).take (k+1)=(imgX Z q).take k++[(q.trms[k]).coef*Z.getD (q.trms[k]).var 0]:=by
 unfold imgX;rw [←List.map_take,List.take_succ_eq_append_getElem h,List.map_append,List.map_take];rfl
theorem ics_app (a b:List Int):ics (a.map zI)++ics (b.map zI)=ics ((a++b).map zI):=by simp [ics]
theorem ics_oneI (z:Int):ics ([z].map zI)=[.bool (sg z),.string (E z.natAbs)]:=rfl
structure IRel (w1:World) (k:Nat) (L:List Nat) (Z:List Int) (v6 v7:Value) (wr:World):Prop where
 a:NOwn wr w1.heap.size v6 L
 z:ZOwn wr w1.heap.size v7 Z
 la:L.length=k
 lz:Z.length=k
 na:k=0→v6=.slice none 0 0
 nz:k=0→v7=.slice none 0 0
 b:Below w1.heap.size w1 wr
theorem IRel.after {w1:World} {k:Nat} {L:List Nat} {Z:List Int} {v6 v7:Value} {wr wx:World} (h:IRel w1 k L Z v6 v7 wr) (hb:Below wr.heap.size wr wx):IRel w1 k L Z v6 v7 wx:=
 ⟨own_after h.a hb,own_after h.z hb,h.la,h.lz,h.na,h.nz,bt h.b hb⟩
end
section
open Go.RowKit Go.Shelf
def LPost (w:World) (L:List Nat) (e:Ending) (w':World):Prop:=∃v,e=.returned (.tuple #[v,.int .i64 0])∧NOwn w' w.heap.size v L∧Below w.heap.size w w'
theorem imgs_step (N:NSta) (Z:List Int) (k:Nat) (h:k<N.eqs.length):(N.imgs Z).take (k+1)=(N.imgs Z).take k++[imgV N Z N.eqs[k]]:=by
 unfold NSta.imgs;rw [←List.map_take,List.take_succ_eq_append_getElem h,List.map_append,List.map_take];rfl
theorem chk_elem {N:NSta} (h:N.chk=0) (k:Nat) (hk:k<N.eqs.length) (hg:N.eqs[k].grp<N.grps.length):grpE N.grps[N.eqs[k].grp].1 N.grps[N.eqs[k].grp].2=0∧hasB N.grps[N.eqs[k].grp].1 N.grps[N.eqs[k].grp].2 N.eqs[k].tgt=true∧∀x∈imgB N.eqs[k],hasB N.grps[N.eqs[k].grp].1 N.grps[N.eqs[k].grp].2 x=true:=by
 obtain ⟨_,he,_⟩:=chk_inv h;unfold NSta.elem at he;rw [Bool.and_eq_true,List.all_eq_true,List.all_eq_true] at he;have h1:=he.1 _ (List.getElem_mem hg);have h2:=he.2 _ (List.getElem_mem hk);unfold elemQ at h2;rw [gp_at N _ hg,Bool.and_eq_true,List.all_eq_true] at h2;refine ⟨by simpa [gr0] using h1,h2.1,fun x hx=>?_⟩;obtain ⟨t,ht,rfl⟩:=List.mem_map.1 hx;exact h2.2 t ht
theorem imgX_lt {N:NSta} (hm:NOk N) (Z:List Int) (hz:∀z∈Z,z.natAbs<256^64) (q:NEqn) (hq:q∈N.eqs):∀z∈imgX Z q,z.natAbs<256^128:=by
 intro z hzz;obtain ⟨t,ht,rfl⟩:=List.mem_map.1 hzz;obtain ⟨_,_,_,h4⟩:=hm.e q hq;have h5:=(h4 t ht).2.2
 have h6:(Z.getD t.var 0).natAbs<256^64:=by
  rw [List.getD_eq_getElem?_getD];by_cases hv:t.var<Z.length
  ·rw [List.getElem?_eq_getElem hv];exact hz _ (List.getElem_mem hv)
  ·rw [List.getElem?_eq_none (by omega)];exact Nat.pow_pos (by decide)
 rw [Int.natAbs_mul];exact Nat.lt_of_lt_of_le (Nat.mul_lt_mul'' h5 h6) (by rw [←Nat.pow_add];exact Nat.pow_le_pow_right (show 0<256 by decide) (by decide))
theorem imgV_lt (N:NSta) (Z:List Int) (q:NEqn) (h0:0<(N.gp q).1):imgV N Z q<(N.gp q).1:=Nat.mod_lt _ h0
end
section
open Go.RowKit Go.Shelf
theorem rimages_c (N:NSta) (Z:List Int) (v1 v2 v3 v4:Value) (w:World) (hm:NOk N) (hS:NAt w v1 v2 v3 N) (hZ:ZsAt w v4 Z) (hz:∀z∈Z,z.natAbs<256^64) (hl:Z.length=N.vars.length) (hc:N.chk=0) :
  Calls Tryz.prog 72 #[.agg #[v1,v2,v3],v4] w (LPost w (N.imgs Z)):=by
 obtain ⟨i0,hi0,hz00,hz01,hz02⟩:=info_parts info_nat;obtain ⟨i1,hi1,hz10,hz11,hz12⟩:=info_parts info_Int;have HI0:=Lib.hid hi0;have HA0:=Lib.hid hz00;have HB0:=Lib.hid hz01;have HC0:=Lib.hid hz02;have HI1:=Lib.hid hi1;have HA1:=Lib.hid hz10;have HB1:=Lib.hid hz11;have HC1:=Lib.hid hz12;clear hi0 hz00 hz01 hz02 hi1 hz10 hz11 hz12;obtain ⟨a4,c4,rfl⟩:=hZ.form;have HZZ:=Lib.hid hz;have HL:=Lib.hid hl;have HCK:=Lib.hid hc;rw [hl] at hZ ⊢;clear hz hl hc;obtain ⟨a1,c1,a2,c2,a3,c3,rfl,rfl,rfl⟩:=hS.forms;obtain ⟨n1,hn1⟩:∃n,n=N.grps.length:=⟨_,rfl⟩;obtain ⟨n2,hn2⟩:∃n,n=N.vars.length:=⟨_,rfl⟩;obtain ⟨n3,hn3⟩:∃n,n=N.eqs.length:=⟨_,rfl⟩;have HN1:=Lib.hid hn1;have HN2:=Lib.hid hn2;have HN3:=Lib.hid hn3;have l1:n1≤10:=by rw [hn1];exact hm.ng
 have l2:n2≤12:=by rw [hn2];exact hm.nv
 have l3:n3≤12:=by rw [hn3];exact hm.ne
 have HM:=Lib.hid hm;rw [←hn1,←hn2,←hn3] at hS ⊢;clear hm hn1 hn2 hn3;rw [←HN2.out] at hZ;have hP:=Blk.new w #[.slice a1 n1 c1,.slice a2 n2 c2,.slice a3 n3 c3] 61;have hBW:=b1 w (.cells #[.slice a1 n1 c1,.slice a2 n2 c2,.slice a3 n3 c3] 61);replace hS:=hS.after hBW;replace hZ:=hZ.after (b1 w (.cells #[.slice a1 n1 c1,.slice a2 n2 c2,.slice a3 n3 c3] 61));obtain ⟨hPc0,hPf0,hPc1,hPf1,hPc2,hPf2⟩:=hP.x3;go_enter Tryz.func72,Tryz.ntmps72
 go_wp2;clear hPc0 hPf0 hPc1 hPf1 hPc2 hPf2;generalize w.alloc (.cells #[.slice a1 n1 c1,.slice a2 n2 c2,.slice a3 n3 c3] 61)=w1 at hP hBW hS hZ;replace hP:Blk w1 w.heap.size 61 [.slice a1 n1 c1,.slice a2 n2 c2,.slice a3 n3 c3]:=hP;go_loopw [6,7] (fun v6 i wr=>∃k:Nat,k≤n3∧i=.int .i64 k∧NOwn wr w1.heap.size v6 ((N.imgs Z).take k)∧Below w1.heap.size w1 wr) (fun _ i _=>n3-(intOf i).toNat)
 case atStart=>exact ⟨0,by omega,rfl,World.ownsRow_nil _ _ _ _,Below.refl _ _⟩
 case round =>
  obtain ⟨k,hk,rfl,hO,hbr⟩:=hrel;obtain ⟨wp,hwp⟩:∃wp,wp=wr:=⟨_,rfl⟩;subst hwp;have hS1:=hS.after hbr;have hP1:=hP.after hbr;have hZ1:=hZ.after hbr;have hBW1:=bt hBW hbr;have hPl:=hP1.lt;by_cases hlt:k<n3
  ·have hkl:k<N.eqs.length:=by rw [←HN3.out];exact hlt
   have HSZ:=Lib.hid (HM.out.e _ (List.getElem_mem hkl));have HCE:=Lib.hid (chk_elem HCK.out k hkl HSZ.out.1);have HXL:=Lib.hid (imgX_lt HM.out Z HZZ.out _ (List.getElem_mem hkl));have HST:=Lib.hid (imgs_step N Z k hkl);obtain ⟨b,o,tv,rfl,hbl,x1,x2,x3,hTs⟩:=hS1.eat hkl;generalize (N.eqs[k]'hkl)=q at x1 x2 x3 hTs HSZ HCE HXL HST;have hgl:=HSZ.out.1;have hgn:q.grp<n1:=by rw [HN1.out];exact hgl
   have HGP:=Lib.hid (gp_at N q hgl);have HGZ:=Lib.hid (HM.out.g _ (List.getElem_mem hgl));have HIV:Hid (imgV N Z q=pw (prs (N.grps[q.grp]'hgl).1 (imgB q) (imgX Z q)) 0%(N.grps[q.grp]'hgl).1):=by rw [Hid,imgV,HGP.out]
   obtain ⟨bg,og_,rfl,hbg,y1,y2⟩:=hS1.gat hgl;generalize (N.grps[q.grp]'hgl)=gg at y1 y2 HGZ HCE HIV;clear hgl HGP;obtain ⟨p,qq⟩:=gg;simp only [] at y1 y2;obtain ⟨to_,tc,rfl⟩:=hTs.form;obtain ⟨n4,hn4⟩:∃n,n=q.trms.length:=⟨_,rfl⟩;have HN4:=Lib.hid hn4;rw [←hn4] at x3 hTs;clear hn4;obtain ⟨qg,hqg⟩:∃g,g=q.grp:=⟨_,rfl⟩;obtain ⟨qt,hqt⟩:∃g,g=q.tgt:=⟨_,rfl⟩;rw [←hqg] at x1 y1 y2 hgn;rw [←hqt] at x2;clear hqg hqt;have l4:n4≤12:=by rw [HN4.out];exact HSZ.out.2.2.1
   have h0k:(0:Int)≤(k:Int):=by omega
   have h1k:(k:Int)<(n3:Int):=by omega
   have h0g:(0:Int)≤(qg:Int):=by omega
   have h1g:(qg:Int)<(n1:Int):=by omega
   have hQ:=Blk.new wp #[.int .i64 (qg:Int),.string (E qt),.slice to_ n4 tc] 115;have hb8:=b1 wp (.cells #[.int .i64 (qg:Int),.string (E qt),.slice to_ n4 tc] 115);obtain ⟨hP1c0,hP1f0,hP1c1,hP1f1,hP1c2,hP1f2⟩:=hP1.x3;go_wp2;clear hP1c0 hP1f0 hP1c1 hP1f1 hP1c2 hP1f2;have hP2:=hP1.after hb8;have hT2:=hTs.after hb8;have hZ2:=hZ1.after hb8;have hO2:=own_after hO hb8;have hbr2:=bt hbr hb8;have z1:=(hb8.cell (p:=⟨bg,og_+qg*2,none⟩) hbg).trans y1;have z2:=(hb8.cell (p:=⟨bg,og_+qg*2+1,none⟩) hbg).trans y2;have hbg2:=Nat.lt_of_lt_of_le hbg hb8.size;clear hS1 hP1 hZ1 hO hbr hTs y1 y2 x1 x2 x3 hbl hbg hPl;generalize wp.alloc (.cells #[.int .i64 (qg:Int),.string (E qt),.slice to_ n4 tc] 115)=wi at hQ hb8 hP2 hT2 hZ2 hO2 hbr2 z1 z2 hbg2;obtain ⟨g8,hg8⟩:∃g,wp.heap.size=g:=⟨_,rfl⟩;rw [hg8] at hQ ⊢;replace hQ:Blk wi g8 115 [.int .i64 (qg:Int),.string (E qt),.slice to_ n4 tc]:=hQ;clear hg8 hb8;have hIR:IRel wi 0 ((imgB q).take 0) ((imgX Z q).take 0) (.slice none 0 0) (.slice none 0 0) wi:=⟨World.ownsRow_nil _ _ _ _,World.ownsRow_nil _ _ _ _,rfl,rfl,fun _=>rfl,fun _=>rfl,Below.refl _ _⟩;go_loopw [9,10,11] (fun v9 v10 i wr=>∃k:Nat,k≤n4∧i=.int .i64 k∧IRel wi k ((imgB q).take k) ((imgX Z q).take k) v9 v10 wr) (fun _ _ i _=>n4-(intOf i).toNat)
   case atStart=>exact ⟨0,by omega,rfl,hIR⟩
   case round =>
    clear hIR;obtain ⟨j,hj,rfl,hI⟩:=hrel;obtain ⟨wq,hwq⟩:∃wq,wq=wr:=⟨_,rfl⟩;subst hwq;have hT3:=hT2.after hI.b;have hZ3:=hZ2.after hI.b;have hQ3:=hQ.after hI.b;have hQl:=hQ3.lt;by_cases hltj:j<n4
    ·have hjl:j<q.trms.length:=by rw [←HN4.out];exact hltj
     have HTK:=Lib.hid (HSZ.out.2.2.2 _ (List.getElem_mem hjl));have HSB:=Lib.hid (imgB_step q j hjl);have HSX:=Lib.hid (imgX_step Z q j hjl);obtain ⟨b,o,rfl,hbl,x1,x2,x3,x4⟩:=hT3.at_ hjl;generalize (q.trms[j]'hjl)=t at x1 x2 x3 x4 HTK HSB HSX;obtain ⟨tb,tvv,tz⟩:=t;simp only [] at x1 x2 x3 x4;have hvl:tvv<Z.length:=by rw [HL.out];exact HTK.out.2.1
     have hvn:tvv<n2:=by rw [HN2.out];exact HTK.out.2.1
     obtain ⟨b',o',rfl,hbl',y1,y2⟩:=hZ3.at_ hvl;have HZB:=Lib.hid (HZZ.out _ (List.getElem_mem hvl));have HGD:Hid (Z.getD tvv 0=Z[tvv]'hvl):=by rw [Hid,List.getD_eq_getElem?_getD,List.getElem?_eq_getElem hvl];rfl
     generalize (Z[tvv]'hvl)=zz at y1 y2 HZB HGD;clear hvl;have HCO:=Lib.hid HTK.out.2.2;have HTB:=Lib.hid HTK.out.1;simp only [] at HCO HTB
     have HMUL:Hid (∀w:World,Calls Tryz.prog 31 #[.agg #[.bool (sg (tz)),.string (E (tz).natAbs)],.agg #[.bool (sg (zz)),.string (E (zz).natAbs)]] w fun e w'=>e=.returned (.tuple #[.agg #[.bool (sg (tz*zz)),.string (E (tz*zz).natAbs)],.int .i64 0])∧Below w.heap.size w w'):=fun w =>
      rimul_c tz zz w (Nat.lt_of_lt_of_le HCO.out (Nat.pow_le_pow_right (show 0<256 by decide) (show 16≤128 by decide))) (lt64 HZB.out) (Nat.lt_of_lt_of_le (Nat.mul_lt_mul'' HCO.out HZB.out) (by rw [←Nat.pow_add];exact Nat.pow_le_pow_right (show 0<256 by decide) (by decide)))
     obtain ⟨pz,hpz⟩:∃p,p=tz*zz:=⟨_,rfl⟩;have HPZ:=Lib.hid hpz;rw [←hpz] at HMUL;clear hpz;have h0j:(0:Int)≤(j:Int):=by omega
     have h1j:(j:Int)<(n4:Int):=by omega
     have h0v:(0:Int)≤(tvv:Int):=by omega
     have h1v:(tvv:Int)<(n2:Int):=by omega
     have hC:CA wq [(⟨g8,2,none⟩,.slice (some ⟨b,o,none⟩) n4 tc),(⟨b,o+j*4+1,none⟩,.int .i64 (tvv:Int)),(⟨b,o+j*4+2,none⟩,.bool (sg tz)),(⟨b,o+j*4+3,none⟩,.string (E tz.natAbs)),(⟨b',o'+tvv*2,none⟩,.bool (sg zz)),(⟨b',o'+tvv*2+1,none⟩,.string (E zz.natAbs))]:=CA.cons hQl (hQ3.cell 2) (CA.cons hbl x2 (CA.cons hbl x3 (CA.cons hbl x4 (CA.cons hbl' y1 (CA.cons hbl' y2 (CA.nil _))))));have hneA:=fun x hx=>Nat.ne_of_lt (hC x hx).1
     clear hT3 hZ3 x2 x3 x4 y1 y2;obtain ⟨hQ3c0,hQ3f0,hQ3c1,hQ3f1,hQ3c2,hQ3f2⟩:=hQ3.x3;go_upto_region 11 with fail
     clear hQ3c0 hQ3f0 hQ3c1 hQ3f1 hQ3c2 hQ3f2;go_cut [12,13] (fun s12 s13 wx=>ZBox wq pz s12 s13 wx)
     case first =>
      go_region_held3 (fun w'=>w'.cell? ⟨g8,2,none⟩=some (.slice (some ⟨b,o,none⟩) n4 tc)∧w'.cell? ⟨b,o+j*4+1,none⟩=some (.int .i64 (tvv:Int))∧w'.cell? ⟨b,o+j*4+2,none⟩=some (.bool (sg tz))∧w'.cell? ⟨b,o+j*4+3,none⟩=some (.string (E tz.natAbs))∧w'.cell? ⟨b',o'+tvv*2,none⟩=some (.bool (sg zz))∧w'.cell? ⟨b',o'+tvv*2+1,none⟩=some (.string (E zz.natAbs))) ((refine CA.k6 ?_;repeat (first | (with_reducible exact hCf) | (with_reducible exact hC) | (with_reducible refine CA.drew ?_) | (with_reducible refine CA.alloc ?_ _) | (refine CA.set ?_ _ _ _ hneA))))
       ((go_at_call 31;refine (HMUL.out _).mono ?_;rintro e wf ⟨rfl,hbf⟩;have hCf:CA wf [(⟨g8,2,none⟩,.slice (some ⟨b,o,none⟩) n4 tc),(⟨b,o+j*4+1,none⟩,.int .i64 (tvv:Int)),(⟨b,o+j*4+2,none⟩,.bool (sg tz)),(⟨b,o+j*4+3,none⟩,.string (E tz.natAbs)),(⟨b',o'+tvv*2,none⟩,.bool (sg zz)),(⟨b',o'+tvv*2+1,none⟩,.string (E zz.natAbs))]:=(by first | exact hC.drew.after hbf | exact (hC.alloc _).drew.after hbf | exact (hC.drew.alloc _).after hbf);(try (have kA:=(Blk.new wq #[.bool false,.string { data:=#[] }] 28).drew.after hbf;have kA0:=kA.cell 0;have kA1:=kA.cell 1;have kA2:=kA.free 0;have kA3:=kA.free 1))))
      all_goals
       go_wp2_with fail
       go_meet
       first
        | exact ⟨_,rfl,rfl,Blk.new _ _ _,hbf.size,ba ((Below.drew (Below.refl _ _)).trans hbf) _⟩
        | exact ⟨_,rfl,rfl,(kA.set 0 _).set 1 _,Nat.le_refl _,((bt ((b1 wq _).drew) hbf).setCell (by simp) _).setCell (by simp) _⟩
     case rest =>
      obtain ⟨gx,rfl,rfl,hX,hgx,hbx⟩:=hcut;obtain ⟨wx,hwx⟩:∃wx,wx=wc:=⟨_,rfl⟩;subst hwx;have hrow:∀g,u10.ownBlock=some g→g<wq.heap.size:=fun g hg=>(own_lt hI.z hg).1
      have hQ4:=hQ3.after hbx;have x1':=(hbx.cell (p:=⟨b,o+j*4,none⟩) hbl).trans x1;have hbl4:=Nat.lt_of_lt_of_le hbl hbx.size;have hI9:=hI.after hbx;have hRA:wx.ownsRow wi.heap.size 22 1 u9 j (strs ((imgB q).take j)):=by have h:wx.ownsRow _ _ _ _ _ _:=hI9.a;rw [hI9.la] at h;exact h
      have hRZ:wx.ownsRow wi.heap.size 28 2 u10 j (ics (((imgX Z q).take j).map zI)):=by have h:wx.ownsRow _ _ _ _ _ _:=hI9.z;rw [hI9.lz] at h;exact h
      have hBx:=hI9.b;have hsx:=hBx.size;have HLA:=Lib.hid hI9.la;have HLZ:=Lib.hid hI9.lz;clear hI9 hI hC hneA hQ3 x1 hbl hbl';generalize (imgB q).take j=LB at hRA HSB HLA;generalize (imgX Z q).take j=LX at hRZ HSX HLZ;have hQl4:=hQ4.lt;have hrl:=fun g hg=>(own_lt hRA (g:=g) hg)
      obtain ⟨hQ4c0,hQ4f0,hQ4c1,hQ4f1,hQ4c2,hQ4f2⟩:=hQ4.x3;go_wp2_with (first | (at_builtin;refine wpList_append_lies _ rfl (.tmp 57) (.tmp 64) _ rfl wi.heap.size 22 i0 _ 1 16 Tryz.underlying45 HI0.out HA0.out HB0.out HC0.out rfl (by omega) u9 j (strs LB) rfl (own_after hRA (b1 _ (.cells #[.string (E tb)] 22))) ⟨wx.heap.size,0,none⟩ 1 1 [.string (E tb)] rfl rfl (Blk.new wx #[.string (E tb)] 22).cells (by simp [Value.oneCell']) (by omega) (by simp only [maxLen];omega) (by omega) (by rw [World.size_alloc];omega) (wx.heap.size+1) (by simp) ?_;intro ga ca wa hownA hgrowA hatA hltA;clear hatA hltA;have hXa:=(hX.alloc (.cells #[.string (E tb)] 22)).grown hgrowA (own_ne hRA hX (by decide));have hXal:=hXa.lt;have hXc0:=hXa.cell 0;have hXc1:=hXa.cell 1;have hRZa:wa.ownsRow wi.heap.size 28 2 u10 j (ics (LX.map zI)):=own_grown (own_after hRZ (b1 _ (.cells #[.string (E tb)] 22))) (own_after hRA (b1 _ (.cells #[.string (E tb)] 22))) (by decide) hgrowA;have hQa:=(hQ4.alloc (.cells #[.string (E tb)] 22)).grown hgrowA (own_ne hRA hQ4 (by decide));have hBa:Below wi.heap.size wi wa:=Below.grown (Below.alloc hBx (by omega) _) hgrowA (by simp;omega) (fun g hg=>(own_lt hRA hg).2);have hsa:=hBa.size) | (at_builtin;refine wpList_append_lies _ rfl (.tmp 66) (.tmp 68) _ rfl wi.heap.size 28 i1 _ 2 24 Tryz.underlying37 HI1.out HA1.out HB1.out HC1.out rfl (by omega) u10 j (ics (LX.map zI)) rfl (own_after hRZa (b1 _ (.cells #[.bool (sg pz),.string (E pz.natAbs)] 28))) ⟨wa.heap.size,0,none⟩ 1 1 [.bool (sg pz),.string (E pz.natAbs)] rfl rfl (Blk.new wa #[.bool (sg pz),.string (E pz.natAbs)] 28).cells (by simp [Value.oneCell']) (by omega) (by simp only [maxLen];omega) (by omega) (by rw [World.size_alloc];omega) (wa.heap.size+1) (by simp) ?_;intro gb cb wb hownB hgrowB hatB hltB;clear hatB hltB;have hAb:wb.ownsRow wi.heap.size 22 1 (.slice (some ⟨ga,0,none⟩) (j+1) ca) (j+1) (strs LB++[.string (E tb)]):=own_grown (own_after hownA (b1 _ (.cells #[.bool (sg pz),.string (E pz.natAbs)] 28))) (own_after hRZa (b1 _ (.cells #[.bool (sg pz),.string (E pz.natAbs)] 28))) (by decide) hgrowB;have hBb:Below wi.heap.size wi wb:=Below.grown (Below.alloc hBa (by omega) _) hgrowB (by simp;omega) (fun g hg=>(own_lt hRZa hg).2)))
      clear hQ4c0 hQ4f0 hQ4c1 hQ4f1 hQ4c2 hQ4f2
      have hIR:IRel wi (j+1) (LB++[tb]) (LX++[pz]) (.slice (some ⟨ga,0,none⟩) (j+1) ca) (.slice (some ⟨gb,0,none⟩) (j+1) cb) wb:=by
       refine ⟨?_,?_,by simp [HLA.out],by simp [HLZ.out],fun h=>by omega,fun h=>by omega,hBb⟩
       ·rw [NOwn,List.length_append,HLA.out,←strs_app];exact hAb
       ·rw [ZOwn,List.length_append,HLZ.out,←ics_app];exact hownB
      rw [←HSB.out,HPZ.out,←HGD.out,←HSX.out] at hIR;clear hAb hownB hownA hBa hBb hgrowA hgrowB hRZa hXa hQa hRA hRZ;go_wp2;go_roundw
      case rel=>exact ⟨j+1,by omega,by go_num,hIR⟩
      case measure=>simp [intOf];omega
    ·have HTB:Hid ((imgB q).take j=imgB q):=List.take_of_length_le (by have:=HN4.out;simp [imgB];omega);have HTX:Hid ((imgX Z q).take j=imgX Z q):=List.take_of_length_le (by have:=HN4.out;simp [imgX];omega);rw [HTB.out,HTX.out] at hI;have hP4:=hP2.after hI.b;have hO4:=own_after hO2 hI.b;have hbr4:=bt hbr2 hI.b;have t1:=(hI.b.cell (p:=⟨bg,og_+qg*2,none⟩) hbg2).trans z1;have t2:=(hI.b.cell (p:=⟨bg,og_+qg*2+1,none⟩) hbg2).trans z2;have hbg4:=Nat.lt_of_lt_of_le hbg2 hI.b.size;have hPl4:=hP4.lt
     have HPR:Hid (Calls Tryz.prog 81 #[.agg #[.string (E p),.string (E qq)],u9,u10] wq fun e w'=>e=.returned (.tuple #[.string (E (imgV N Z q)),.int .i64 0])∧Below wq.heap.size wq w'):=by
      rw [HIV.out];exact rproduct_c p qq (imgB q) (imgX Z q) u9 u10 wq HGZ.out.1 (lt128 HGZ.out.2) HCE.out.1 (by simp [imgB,imgX]) (by have:=HSZ.out.2.2.1;simp [imgB];omega) HCE.out.2.2 HXL.out hI.a.ss hI.z.zs
     clear hI hP2 hO2 hbr2 z1 z2 hbg2 hT2 hZ2;obtain ⟨hP4c0,hP4f0,hP4c1,hP4f1,hP4c2,hP4f2⟩:=hP4.x3;obtain ⟨hQ3c0,hQ3f0,hQ3c1,hQ3f1,hQ3c2,hQ3f2⟩:=hQ3.x3;go_wp2_with fail
     refine HPR.out.mono ?_;rintro e w3 ⟨rfl,hb3⟩;clear hP4c0 hP4f0 hP4c1 hP4f1 hP4c2 hP4f2;clear hQ3c0 hQ3f0 hQ3c1 hQ3f1 hQ3c2 hQ3f2;have hO3:=own_after hO4 hb3;have hbr3:=bt hbr4 hb3;have hLE:Hid (((N.imgs Z).take k).length=k):=by rw [Hid,List.length_take,NSta.imgs,List.length_map];omega
     rw [hLE.out] at hO3;clear HPR hb3 hO4 hbr4 hP4 hQ3 hQ;have hsz3:=hbr3.size;have HIM:=Lib.hid HST.out;generalize imgV N Z q=iv at HIM ⊢;generalize (N.imgs Z).take k=LI at hO3 HIM hLE;go_wp2_with (at_builtin;refine wpList_append_lies _ rfl (.tmp 82) (.tmp 84) _ rfl w1.heap.size 22 i0 _ 1 16 Tryz.underlying45 HI0.out HA0.out HB0.out HC0.out rfl (by omega) u6 k (strs LI) rfl (own_after hO3 (b1 _ (.cells #[.string (E iv)] 22))) ⟨w3.heap.size,0,none⟩ 1 1 [.string (E iv)] rfl rfl (Blk.new w3 #[.string (E iv)] 22).cells (by simp [Value.oneCell']) (by omega) (by simp only [maxLen];omega) (by omega) (by rw [World.size_alloc];omega) (w3.heap.size+1) (by simp) ?_;intro ga ca wa hown hgrow hat hlt2)
     have hOA:NOwn wa w1.heap.size (.slice (some ⟨ga,0,none⟩) (k+1) ca) (LI++[iv]):=by rw [NOwn,List.length_append,hLE.out,←strs_app];exact hown
     rw [←HIM.out] at hOA;have hbA:=(ba hbr3 (.cells #[.string (E iv)] 22)).grown hgrow (by rw [World.size_alloc];omega) (fun x hx=>(own_lt hO3 hx).2);clear hown hgrow hat hlt2 hO3 hbr3;go_wp2;go_roundw
     case rel=>exact ⟨k+1,by omega,by go_num,hOA,hbA⟩
     case measure=>simp [intOf];omega
  ·have HTK:Hid ((N.imgs Z).take k=N.imgs Z):=List.take_of_length_le (by rw [NSta.imgs,List.length_map,←HN3.out];omega);rw [HTK.out] at hO;have hs1:=hBW.size;obtain ⟨hP1c0,hP1f0,hP1c1,hP1f1,hP1c2,hP1f2⟩:=hP1.x3;go_wp2;go_ret2
   exact ⟨_,rfl,own_mono hO hs1,hBW1⟩
end
section
open Go.RowKit Go.Shelf
def kdN (b:Nat):Nat:=if b=0 then 0 else 1
theorem mul_cb {C K b:Nat} (h1:1≤K):(C-1)*(b-1)≤K*C*b:=by
 refine Nat.le_trans (Nat.mul_le_mul (Nat.sub_le C 1) (Nat.sub_le b 1)) ?_;exact Nat.mul_le_mul_right _ (Nat.le_mul_of_pos_left _ h1)
theorem lt_mul3 {C K b:Nat} (hC:C<256^16) (hK:K<256^16) (hb:b<256^32):K*C<256^32∧K*C*b<256^64:=by
 have h1:K*C<256^32:=by
  have:=Nat.mul_lt_mul'' hK hC;rwa [←Nat.pow_add] at this
 have h2:K*C*b<256^64:=by
  have:=Nat.mul_lt_mul'' h1 hb;rwa [←Nat.pow_add] at this
 exact ⟨h1,h2⟩
theorem lt128' {n k:Nat} (h:n<256^k) (hk:k≤128):n<256^128:=Nat.lt_of_lt_of_le h (Nat.pow_le_pow_right (by decide) hk)
theorem mulV_c (a b r:Nat) (w:World) (ha:a<256^128) (hb:b<256^128) (h:r<256^128) (hr:a*b=r) :
  Calls Tryz.prog 91 #[.string (E a),.string (E b)] w fun e w'=>e=.returned (.tuple #[.string (E r),.int .i64 0])∧Below w.heap.size w w':=by
 rw [←hr];exact mul_c a b w ha hb (by rw [hr];exact h)
theorem subV_c (a b r:Nat) (w:World) (ha:a<256^128) (hb:b≤a) (hr:a-b=r) :
  Calls Tryz.prog 133 #[.string (E a),.string (E b)] w fun e w'=>e=.returned (.tuple #[.string (E r),.int .i64 0])∧Below w.heap.size w w':=by
 rw [←hr];exact sub_c a b w ha hb
def blw (b:Nat) (x:Int) (l:Nat):Bool:=decide (x.natAbs<l)&&(!(vz b) || !(sg x))
theorem blw_ge {b l:Nat} {x:Int} (h:l≤x.natAbs):blw b x l=false:=by unfold blw;rw [decide_eq_false (by omega)];rfl
theorem blw_pos {b l:Nat} {x:Int} (h:x.natAbs<l) (hb:0<b):blw b x l=true:=by unfold blw;rw [decide_eq_true h,vz_pos hb];rfl
theorem blw_zero {l:Nat} {x:Int} (h:x.natAbs<l):blw 0 x l=!(sg x):=by unfold blw;rw [decide_eq_true h];rfl
end
section
open Go.RowKit Go.Shelf
def lim (q C K b:Nat):Nat × Nat:=if b=0 then (q,q) else (K*C*b,K*C*b-(C-1)*(b-1))
def NSta.lims (N:NSta) (C K:Nat):List (Nat × Nat):=N.vars.map (lim N.ord C K)
def NSta.bnd (N:NSta) (C K:Nat):Nat:=if N.chk≠0 then N.chk else if C<2∨K<2 then 2 else if N.vars.any vz=true∧N.ord<C then 2 else 0
def lcs (L:List (Nat × Nat)):List Value:=L.flatMap fun x=>[.string (E x.1),.string (E x.2)]
theorem lcs_app (a b:List (Nat × Nat)):lcs a++lcs b=lcs (a++b):=by simp [lcs]
theorem lcs_len (L:List (Nat × Nat)):(lcs L).length=L.length*2:=by
 induction L with
 | nil=>rfl
 | cons x t ih=>simp [lcs] at ih ⊢;omega
theorem lcs_get (L:List (Nat × Nat)) (j:Nat) (h:j<L.length):(lcs L)[j*2]?=some (.string (E L[j].1))∧(lcs L)[j*2+1]?=some (.string (E L[j].2)):=by
 induction L generalizing j with
 | nil=>simp at h
 | cons x t ih =>
  cases j with
  | zero=>exact ⟨rfl,rfl⟩
  | succ j =>
   have h':j<t.length:=by simpa using h
   have:=ih j h';rw [show (j+1)*2=j*2+2 by omega];simpa [lcs] using this
def SBox (w:World) (T:TypeId) (cs:List Value) (s8:Value) (wx:World):Prop:=∃g,s8=.pointer (some ⟨g,0,none⟩)∧Blk wx g T cs∧w.heap.size≤g∧Below w.heap.size w wx
theorem ord_lt {N:NSta} (hm:NOk N):N.ord<256^8:=by
 by_cases h:N.grps.all og=true
 ·rw [ord_none N h];decide
 ·unfold NSta.ord;cases hf:(N.grps.map (·.2)).find? (· != 0) with
  | none=>exact Nat.pow_pos (by decide)
  | some q =>
   have:=List.mem_of_find?_eq_some hf;obtain ⟨g,hg,rfl⟩:=List.mem_map.1 this;exact (hm.g g hg).2
end
section
open Go.RowKit Go.Shelf
theorem lims_step (N:NSta) (C K:Nat) (k:Nat) (h:k<N.vars.length):(N.lims C K).take (k+1)=(N.lims C K).take k++[lim N.ord C K N.vars[k]]:=by
 unfold NSta.lims;rw [←List.map_take,List.take_succ_eq_append_getElem h,List.map_append,List.map_take];rfl
end
section
open Go.RowKit Go.Shelf
theorem rorder2_c (p:Nat) (w:World) (h1:(E p).size≤1000000) :
  Calls Tryz.prog 77 #[.string (E p),.string { data:=#[2] }] w fun e w'=>e=.returned (.int .i64 (cmpN p 2))∧Below w.heap.size w w':=
 rorder_c p 2 w h1 (by decide)
def B2Post (w:World) (L:List (Nat × Nat)) (e:Ending) (w':World):Prop:=∃v u,e=.returned (.tuple #[v,u,.int .i64 0])∧NOwn w' w.heap.size v (L.map (·.1))∧NOwn w' w.heap.size u (L.map (·.2))∧Below w.heap.size w w'
structure RRel (wF:World) (L:List (Nat × Nat)) (v10 v11:Value) (wr:World):Prop where
 a:NOwn wr wF.heap.size v10 (L.map (·.1))
 z:NOwn wr wF.heap.size v11 (L.map (·.2))
 d:∀g,v10.ownBlock=some g→v11.ownBlock≠some g
 b:Below wF.heap.size wF wr
theorem szk {n k:Nat} (h:n<256^k) (hk:k≤1000):(E n).size≤1000:=Nat.le_trans ((E_size_le n k).2 h) hk
theorem sz8 {n:Nat} (h:n<256^16):(E n).size≤1000:=szk h (by decide)
end
section
open Go.RowKit Go.Shelf
def ra (n:Nat) (p:Nat→Bool):Bool:=(List.range n).all p
theorem ra_true {n:Nat} {p:Nat→Bool} (h:∀j,j<n→p j=true):ra n p=true:=by
 unfold ra;rw [List.all_eq_true];intro x hx;exact h x (List.mem_range.1 hx)
theorem ra_false {n j:Nat} {p:Nat→Bool} (hj:j<n) (h:p j=false):ra n p=false:=by
 unfold ra;rw [List.all_eq_false];exact ⟨j,List.mem_range.2 hj,by simp [h]⟩
theorem ra_at {n j:Nat} {p:Nat→Bool} (h:ra n p=true) (hj:j<n):p j=true:=by
 unfold ra at h;rw [List.all_eq_true] at h;exact h j (List.mem_range.2 hj)
def NSta.eq (N:NSta) (j:Nat):NEqn:=N.eqs.getD j ⟨0,0,[]⟩
theorem eq_at (N:NSta) (j:Nat) (h:j<N.eqs.length):N.eq j=N.eqs[j]:=by
 unfold NSta.eq;rw [List.getD_eq_getElem?_getD,List.getElem?_eq_getElem h];rfl
def blJ (N:NSta) (C K:Nat) (Z:List Int) (j:Nat):Bool:=blw (N.vars.getD j 0) (Z.getD j 0) (lim N.ord C K (N.vars.getD j 0)).2
def hsJ (N:NSta) (F:List Nat) (j:Nat):Bool:=hasB (N.gp (N.eq j)).1 (N.gp (N.eq j)).2 (F.getD j 0)
def imJ (N:NSta) (F:List Nat) (c:Nat) (Z:List Int) (j:Nat):Bool:=decide (F.getD j 0*powI (N.eq j).tgt (c:Int) (N.gp (N.eq j)).1%(N.gp (N.eq j)).1=imgV N Z (N.eq j))
def NSta.ver (N:NSta) (C K:Nat) (F:List Nat) (c:Nat) (Z:List Int):Nat:=
 if F.length≠N.eqs.length∨Z.length≠N.vars.length then 6 else if C≤c then 2 else if ra N.vars.length (blJ N C K Z)=false then 2
 else if ra N.eqs.length (hsJ N F)=false then 13 else if ra N.eqs.length (imJ N F c Z)=false then 16 else 0
theorem ver_6 {N:NSta} {C K c:Nat} {F:List Nat} {Z:List Int} (h:F.length≠N.eqs.length∨Z.length≠N.vars.length):N.ver C K F c Z=6:=by unfold NSta.ver;rw [if_pos h]
theorem ver_2 {N:NSta} {C K c:Nat} {F:List Nat} {Z:List Int} (h1:F.length=N.eqs.length) (h2:Z.length=N.vars.length) (h:C≤c):N.ver C K F c Z=2:=by unfold NSta.ver;rw [if_neg (by simp [h1,h2]),if_pos h]
theorem ver_2b {N:NSta} {C K c:Nat} {F:List Nat} {Z:List Int} (h1:F.length=N.eqs.length) (h2:Z.length=N.vars.length) (h:c<C) (h3:ra N.vars.length (blJ N C K Z)=false):N.ver C K F c Z=2:=by unfold NSta.ver;rw [if_neg (by simp [h1,h2]),if_neg (by omega),if_pos h3]
theorem ver_13 {N:NSta} {C K c:Nat} {F:List Nat} {Z:List Int} (h1:F.length=N.eqs.length) (h2:Z.length=N.vars.length) (h:c<C) (h3:ra N.vars.length (blJ N C K Z)=true) (h4:ra N.eqs.length (hsJ N F)=false):N.ver C K F c Z=13:=by unfold NSta.ver;rw [if_neg (by simp [h1,h2]),if_neg (by omega),if_neg (by simp [h3]),if_pos h4]
theorem ver_16 {N:NSta} {C K c:Nat} {F:List Nat} {Z:List Int} (h1:F.length=N.eqs.length) (h2:Z.length=N.vars.length) (h:c<C) (h3:ra N.vars.length (blJ N C K Z)=true) (h4:ra N.eqs.length (hsJ N F)=true) (h5:ra N.eqs.length (imJ N F c Z)=false):N.ver C K F c Z=16:=by unfold NSta.ver;rw [if_neg (by simp [h1,h2]),if_neg (by omega),if_neg (by simp [h3]),if_neg (by simp [h4]),if_pos h5]
theorem ver_0 {N:NSta} {C K c:Nat} {F:List Nat} {Z:List Int} (h1:F.length=N.eqs.length) (h2:Z.length=N.vars.length) (h:c<C) (h3:ra N.vars.length (blJ N C K Z)=true) (h4:ra N.eqs.length (hsJ N F)=true) (h5:ra N.eqs.length (imJ N F c Z)=true):N.ver C K F c Z=0:=by unfold NSta.ver;rw [if_neg (by simp [h1,h2]),if_neg (by omega),if_neg (by simp [h3]),if_neg (by simp [h4]),if_neg (by simp [h5])]
theorem blJ_at (N:NSta) (C K:Nat) (Z:List Int) (j:Nat) (h:j<N.vars.length) (h2:j<Z.length):blJ N C K Z j=blw N.vars[j] Z[j] (lim N.ord C K N.vars[j]).2:=by
 unfold blJ;simp only [List.getD_eq_getElem?_getD,List.getElem?_eq_getElem h,List.getElem?_eq_getElem h2,Option.getD_some]
theorem hsJ_at (N:NSta) (F:List Nat) (j:Nat) (h:j<N.eqs.length) (h2:j<F.length) (hg:N.eqs[j].grp<N.grps.length):hsJ N F j=hasB N.grps[N.eqs[j].grp].1 N.grps[N.eqs[j].grp].2 F[j]:=by
 unfold hsJ;rw [eq_at N j h,gp_at N _ hg];simp only [List.getD_eq_getElem?_getD,List.getElem?_eq_getElem h2,Option.getD_some]
theorem imJ_at (N:NSta) (F:List Nat) (c:Nat) (Z:List Int) (j:Nat) (h:j<N.eqs.length) (h2:j<F.length) (hg:N.eqs[j].grp<N.grps.length):imJ N F c Z j=decide (F[j]*powI N.eqs[j].tgt (c:Int) N.grps[N.eqs[j].grp].1%N.grps[N.eqs[j].grp].1=imgV N Z N.eqs[j]):=by
 unfold imJ;rw [eq_at N j h,gp_at N _ hg];simp only [List.getD_eq_getElem?_getD,List.getElem?_eq_getElem h2,Option.getD_some]
theorem lim_lt {N:NSta} (hm:NOk N) {C K:Nat} (hC:C<256^16) (hK:K<256^16) {b:Nat} (hb:b∈N.vars):(lim N.ord C K b).2<256^64:=by
 unfold lim;split
 ·exact Nat.lt_of_lt_of_le (ord_lt hm) (by decide)
 ·exact Nat.lt_of_le_of_lt (Nat.sub_le _ _) (lt_mul3 hC hK (hm.v b hb)).2
theorem lims_at (N:NSta) (C K:Nat) (j:Nat) (h:j<N.vars.length) (h2:j<(N.lims C K).length):(N.lims C K)[j]=lim N.ord C K N.vars[j]:=by simp [NSta.lims]
theorem powI_nat (x c p:Nat):powI x (c:Int) p=x^c%p:=by
 unfold powI;rw [if_neg (by omega),Int.natAbs_natCast]
theorem has_powN {p q x:Nat} (c:Nat) (hp:2≤p) (h:hasB p q x=true):hasB p q (powI x (c:Int) p)=true:=by
 rw [powI_nat];have hx:=has_coprime hp h
 have h1:Nat.gcd (x^c%p) p=1:=by
  have h2:Nat.gcd (x^c) p=1:=Nat.Coprime.pow_left c hx;rw [Nat.gcd_comm,Nat.gcd_rec] at h2;exact h2
 have hlt:x^c%p<p:=Nat.mod_lt _ (by omega)
 have h0:x^c%p≠0:=by
  intro e;rw [e,Nat.gcd_zero_left] at h1;omega
 unfold hasB at h ⊢;by_cases hq:q=0
 ·rw [if_pos hq];exact decide_eq_true ⟨h0,hlt,h1⟩
 ·rw [if_neg hq] at h ⊢;have h3:=(of_decide_eq_true h).2.2;refine decide_eq_true ⟨h0,hlt,?_⟩;rw [←Nat.pow_mod,←Nat.pow_mul,Nat.mul_comm,Nat.pow_mul,Nat.pow_mod,h3,←Nat.pow_mod,Nat.one_pow]
theorem rexpN_c (p q x c:Nat) (w:World) (hp:p<256^8) (hq:q<256^128) (he:grpE p q=0) (hx:hasB p q x=true) (hc:c<256^128) :
  Calls Tryz.prog 27 #[.agg #[.string (E p),.string (E q)],.string (E x),.agg #[.bool false,.string (E c)]] w fun e w'=>e=.returned (.tuple #[.string (E (powI x (c:Int) p)),.int .i64 0])∧Below w.heap.size w w':=by
 have:=rexp13_c p q x (c:Int) w hp hq he hx (by rw [Int.natAbs_natCast];exact hc);rwa [Int.natAbs_natCast,sg_nat] at this
def prB (F:List ByteArray) (ch:ByteArray) (R:List (Bool × ByteArray)):Bool:=F.all vldB&&vldB ch&&R.all fun x=>ivB x.1 x.2
end
section
open Go.RowKit Go.Shelf
end
section
open Go.RowKit Go.Shelf
end
section
/- Differences of two proofs,in bytes: both sides return the same error,or there are numbers. -/
open Go.RowKit Go.Shelf
theorem numk {s:ByteArray} {k:Nat} (h:s.size≤k) (hv:vldB s=true):∃n,n<256^k∧s=E n:=by
 obtain ⟨n,_,rfl⟩:=of_vldB hv;exact ⟨n,lt_of_size h,rfl⟩
theorem few_ssm {S:Sta} (h:fewB S=true):SSm S:=by
 simp only [fewB,gszB,vszB,eszB,tszB,Bool.and_eq_true,decide_eq_true_eq,List.all_eq_true] at h;obtain ⟨⟨⟨⟨⟨l1,l2⟩,l3⟩,hg⟩,hv⟩,he⟩:=h;exact ⟨by omega,by omega,by omega,fun x hx=>by have:=hg x hx;omega,fun x hx=>by have:=hv x hx;omega,fun x hx=>⟨by have:=(he x hx).1.2;omega,by have:=(he x hx).1.1;omega,fun t ht=>by have:=(he x hx).2 t ht;omega⟩⟩
theorem nums_lift (F:List ByteArray) (n:Nat) (h1:∀x∈F,vldB x=true) (h2:∀x∈F,x.size≤n):∃G:List Nat,G.map E=F∧∀x∈G,x<256^n:=
 list_lift E (fun x=>x<256^n) F fun x hx=>by
  obtain ⟨m,hm,rfl⟩:=numk (h2 x hx) (h1 x hx);exact ⟨m,rfl,hm⟩
theorem ints_lift (R:List (Bool × ByteArray)) (n:Nat) (h1:∀x∈R,ivB x.1 x.2=true) (h2:∀x∈R,x.2.size≤n):∃Z:List Int,Z.map zI=R∧∀z∈Z,z.natAbs<256^n:=
 list_lift zI (fun z=>z.natAbs<256^n) R fun x hx=>by
  obtain ⟨z,_,e1,e2⟩:=of_ivB (h1 x hx);have h3:=h2 x hx;rw [e2] at h3;exact ⟨z,by rw [zI,←e1,←e2],lt_of_size h3⟩
theorem ver_inv {N:NSta} {C K c:Nat} {F:List Nat} {Z:List Int} (h:N.ver C K F c Z=0):F.length=N.eqs.length∧Z.length=N.vars.length∧c<C∧ra N.vars.length (blJ N C K Z)=true:=by
 unfold NSta.ver at h;split at h
 ·omega
 ·rename_i h1;split at h
  ·omega
  ·rename_i h2;split at h
   ·omega
   ·rename_i h3;refine ⟨by omega,by omega,by omega,by simpa using h3⟩
end
section
open Go.RowKit Go.Shelf
theorem own_keep2 {w w':World} {b:Nat} {e:TypeId} {s n:Nat} {v:Value} {x:List Value} {o:Option Nat} (h:w.ownsRow b e s v n x) (hg:w.grownBy w' o) (hd:∀g,v.ownBlock=some g→o≠some g):w'.ownsRow b e s v n x:=
 own_keep h fun g hv=>hg.block g (own_lt h hv).1 (fun e'=>hd g hv e'.symm)
end
end Go.Proofs.YtfgandecbkbleaaGreatDoor
