import Derived.Test.YteahlbhjhjhljaaGreatDoorImg2
set_option linter.unusedVariables false
set_option linter.unusedSimpArgs false
set_option maxRecDepth 100000
set_option maxHeartbeats 16000000
namespace Go.Proofs.YteahlbhjhjhljaaGreatDoor
section
open Go.RowKit Go.Shelf
def LPost (w:World) (L:List Nat) (e:Ending) (w':World):Prop:=∃v,e=.returned (.tuple #[v,.int .i64 0])∧NOwn w' w.heap.size v L∧Below w.heap.size w w'
theorem imgs_step (N:NSta) (Z:List Int) (k:Nat) (h:k<N.eqs.length):(N.imgs Z).take (k+1)=(N.imgs Z).take k++[imgV N Z N.eqs[k]]:=by
 unfold NSta.imgs;rw [←List.map_take,List.take_succ_eq_append_getElem h,List.map_append,List.map_take];rfl
theorem chk_elem {N:NSta} (h:N.chk=0) (k:Nat) (hk:k<N.eqs.length) (hg:N.eqs[k].grp<N.grps.length):grpE N.grps[N.eqs[k].grp].1 N.grps[N.eqs[k].grp].2=0∧hasB N.grps[N.eqs[k].grp].1 N.grps[N.eqs[k].grp].2 N.eqs[k].tgt=true∧∀x∈imgB N.eqs[k],hasB N.grps[N.eqs[k].grp].1 N.grps[N.eqs[k].grp].2 x=true:=by
 obtain ⟨_,he,_⟩:=chk_inv h;unfold NSta.elem at he;rw [Bool.and_eq_true,List.all_eq_true,List.all_eq_true] at he;have h1:=he.1 _ (List.getElem_mem hg);have h2:=he.2 _ (List.getElem_mem hk);unfold elemQ at h2;rw [gp_at N _ hg,Bool.and_eq_true,List.all_eq_true] at h2;refine ⟨by simpa [gr0] using h1,h2.1,fun x hx=>?_⟩;obtain ⟨t,ht,rfl⟩:=List.mem_map.1 hx;exact h2.2 t ht
theorem imgX_lt {N:NSta} (hm:NOk N) (Z:List Int) (hz:∀z∈Z,z.natAbs<256^64) (q:NEqn) (hq:q∈N.eqs):∀z∈imgX Z q,z.natAbs<256^128:=by
 intro z hzz;obtain ⟨t,ht,rfl⟩:=List.mem_map.1 hzz;obtain ⟨_,_,_,h4⟩:=hm.e q hq;have h5:=(h4 t ht).2.2
 have h6:(Z.getD t.var 0).natAbs<256^64:=by
  rw [List.getD_eq_getElem?_getD];by_cases hv:t.var<Z.length
  ·rw [List.getElem?_eq_getElem hv];exact hz _ (List.getElem_mem hv)
  ·rw [List.getElem?_eq_none (by omega)];exact Nat.pow_pos (by decide)
 rw [Int.natAbs_mul];exact Nat.lt_of_lt_of_le (Nat.mul_lt_mul'' h5 h6) (by rw [←Nat.pow_add];exact Nat.pow_le_pow_right (show 0<256 by decide) (by decide))
end
section
open Go.RowKit Go.Shelf
theorem rimages_c (N:NSta) (Z:List Int) (v1 v2 v3 v4:Value) (w:World) (hm:NOk N) (hS:NAt w v1 v2 v3 N) (hZ:ZsAt w v4 Z) (hz:∀z∈Z,z.natAbs<256^64) (hl:Z.length=N.vars.length) (hc:N.chk=0) :
  Calls Tryz.prog 54 #[.agg #[v1,v2,v3],v4] w (LPost w (N.imgs Z)):=by
 obtain ⟨i0,hi0,hz00,hz01,hz02⟩:=info_parts info_nat;obtain ⟨i1,hi1,hz10,hz11,hz12⟩:=info_parts info_Int;have HI0:=Lib.hid hi0;have HA0:=Lib.hid hz00;have HB0:=Lib.hid hz01;have HC0:=Lib.hid hz02;have HI1:=Lib.hid hi1;have HA1:=Lib.hid hz10;have HB1:=Lib.hid hz11;have HC1:=Lib.hid hz12;clear hi0 hz00 hz01 hz02 hi1 hz10 hz11 hz12;obtain ⟨a4,c4,rfl⟩:=hZ.form;have HZZ:=Lib.hid hz;have HL:=Lib.hid hl;have HCK:=Lib.hid hc;rw [hl] at hZ ⊢;clear hz hl hc;obtain ⟨a1,c1,a2,c2,a3,c3,rfl,rfl,rfl⟩:=hS.forms;obtain ⟨n1,hn1⟩:∃n,n=N.grps.length:=⟨_,rfl⟩;obtain ⟨n2,hn2⟩:∃n,n=N.vars.length:=⟨_,rfl⟩;obtain ⟨n3,hn3⟩:∃n,n=N.eqs.length:=⟨_,rfl⟩;have HN1:=Lib.hid hn1;have HN2:=Lib.hid hn2;have HN3:=Lib.hid hn3;have l1:n1≤10:=by rw [hn1];exact hm.ng
 have l2:n2≤12:=by rw [hn2];exact hm.nv
 have l3:n3≤12:=by rw [hn3];exact hm.ne
 have HM:=Lib.hid hm;rw [←hn1,←hn2,←hn3] at hS ⊢;clear hm hn1 hn2 hn3;rw [←HN2.out] at hZ;have hP:=Blk.new w #[.slice a1 n1 c1,.slice a2 n2 c2,.slice a3 n3 c3] 43;have hBW:=b1 w (.cells #[.slice a1 n1 c1,.slice a2 n2 c2,.slice a3 n3 c3] 43);replace hS:=hS.after hBW;replace hZ:=hZ.after (b1 w (.cells #[.slice a1 n1 c1,.slice a2 n2 c2,.slice a3 n3 c3] 43));obtain ⟨hPc0,hPf0,hPc1,hPf1,hPc2,hPf2⟩:=hP.x3;go_enter Tryz.func54,Tryz.ntmps54
 go_wp2;clear hPc0 hPf0 hPc1 hPf1 hPc2 hPf2;generalize w.alloc (.cells #[.slice a1 n1 c1,.slice a2 n2 c2,.slice a3 n3 c3] 43)=w1 at hP hBW hS hZ;replace hP:Blk w1 w.heap.size 43 [.slice a1 n1 c1,.slice a2 n2 c2,.slice a3 n3 c3]:=hP;go_loopw [6,7] (fun v6 i wr=>∃k:Nat,k≤n3∧i=.int .i64 k∧NOwn wr w1.heap.size v6 ((N.imgs Z).take k)∧Below w1.heap.size w1 wr) (fun _ i _=>n3-(intOf i).toNat)
 case atStart=>exact ⟨0,by omega,rfl,World.ownsRow_nil _ _ _ _,Below.refl _ _⟩
 case round =>
  obtain ⟨k,hk,rfl,hO,hbr⟩:=hrel;obtain ⟨wp,hwp⟩:∃wp,wp=wr:=⟨_,rfl⟩;subst hwp;have hS1:=hS.after hbr;have hP1:=hP.after hbr;have hZ1:=hZ.after hbr;have hBW1:=bt hBW hbr;have hPl:=hP1.lt;by_cases hlt:k<n3
  ·have hkl:k<N.eqs.length:=by rw [←HN3.out];exact hlt
   have HSZ:=Lib.hid (HM.out.e _ (List.getElem_mem hkl));have HCE:=Lib.hid (chk_elem HCK.out k hkl HSZ.out.1);have HXL:=Lib.hid (imgX_lt HM.out Z HZZ.out _ (List.getElem_mem hkl));have HST:=Lib.hid (imgs_step N Z k hkl);obtain ⟨b,o,tv,rfl,hbl,x1,x2,x3,hTs⟩:=hS1.eat hkl;generalize (N.eqs[k]'hkl)=q at x1 x2 x3 hTs HSZ HCE HXL HST;have hgl:=HSZ.out.1;have hgn:q.grp<n1:=by rw [HN1.out];exact hgl
   have HGP:=Lib.hid (gp_at N q hgl);have HGZ:=Lib.hid (HM.out.g _ (List.getElem_mem hgl));have HIV:Hid (imgV N Z q=pw (prs (N.grps[q.grp]'hgl).1 (imgB q) (imgX Z q)) 0%(N.grps[q.grp]'hgl).1):=by rw [Hid,imgV,HGP.out]
   obtain ⟨bg,og_,rfl,hbg,y1,y2⟩:=hS1.gat hgl;generalize (N.grps[q.grp]'hgl)=gg at y1 y2 HGZ HCE HIV;clear hgl HGP;obtain ⟨p,qq⟩:=gg;simp only [] at y1 y2;obtain ⟨to_,tc,rfl⟩:=hTs.form;obtain ⟨n4,hn4⟩:∃n,n=q.trms.length:=⟨_,rfl⟩;have HN4:=Lib.hid hn4;rw [←hn4] at x3 hTs;clear hn4;obtain ⟨qg,hqg⟩:∃g,g=q.grp:=⟨_,rfl⟩;obtain ⟨qt,hqt⟩:∃g,g=q.tgt:=⟨_,rfl⟩;rw [←hqg] at x1 y1 y2 hgn;rw [←hqt] at x2;clear hqg hqt;have l4:n4≤12:=by rw [HN4.out];exact HSZ.out.2.2.1
   have h0k:(0:Int)≤(k:Int):=by omega
   have h1k:(k:Int)<(n3:Int):=by omega
   have h0g:(0:Int)≤(qg:Int):=by omega
   have h1g:(qg:Int)<(n1:Int):=by omega
   have hQ:=Blk.new wp #[.int .i64 (qg:Int),.string (E qt),.slice to_ n4 tc] 120;have hb8:=b1 wp (.cells #[.int .i64 (qg:Int),.string (E qt),.slice to_ n4 tc] 120);obtain ⟨hP1c0,hP1f0,hP1c1,hP1f1,hP1c2,hP1f2⟩:=hP1.x3;go_wp2;clear hP1c0 hP1f0 hP1c1 hP1f1 hP1c2 hP1f2;have hP2:=hP1.after hb8;have hT2:=hTs.after hb8;have hZ2:=hZ1.after hb8;have hO2:=own_after hO hb8;have hbr2:=bt hbr hb8;have z1:=(hb8.cell (p:=⟨bg,og_+qg*2,none⟩) hbg).trans y1;have z2:=(hb8.cell (p:=⟨bg,og_+qg*2+1,none⟩) hbg).trans y2;have hbg2:=Nat.lt_of_lt_of_le hbg hb8.size;clear hS1 hP1 hZ1 hO hbr hTs y1 y2 x1 x2 x3 hbl hbg hPl;generalize wp.alloc (.cells #[.int .i64 (qg:Int),.string (E qt),.slice to_ n4 tc] 120)=wi at hQ hb8 hP2 hT2 hZ2 hO2 hbr2 z1 z2 hbg2;obtain ⟨g8,hg8⟩:∃g,wp.heap.size=g:=⟨_,rfl⟩;rw [hg8] at hQ ⊢;replace hQ:Blk wi g8 120 [.int .i64 (qg:Int),.string (E qt),.slice to_ n4 tc]:=hQ;clear hg8 hb8;have hIR:IRel wi 0 ((imgB q).take 0) ((imgX Z q).take 0) (.slice none 0 0) (.slice none 0 0) wi:=⟨World.ownsRow_nil _ _ _ _,World.ownsRow_nil _ _ _ _,rfl,rfl,fun _=>rfl,fun _=>rfl,Below.refl _ _⟩;go_loopw [9,10,11] (fun v9 v10 i wr=>∃k:Nat,k≤n4∧i=.int .i64 k∧IRel wi k ((imgB q).take k) ((imgX Z q).take k) v9 v10 wr) (fun _ _ i _=>n4-(intOf i).toNat)
   case atStart=>exact ⟨0,by omega,rfl,hIR⟩
   case round =>
    clear hIR;obtain ⟨j,hj,rfl,hI⟩:=hrel;obtain ⟨wq,hwq⟩:∃wq,wq=wr:=⟨_,rfl⟩;subst hwq;have hT3:=hT2.after hI.b;have hZ3:=hZ2.after hI.b;have hQ3:=hQ.after hI.b;have hQl:=hQ3.lt;by_cases hltj:j<n4
    ·have hjl:j<q.trms.length:=by rw [←HN4.out];exact hltj
     have HTK:=Lib.hid (HSZ.out.2.2.2 _ (List.getElem_mem hjl));have HSB:=Lib.hid (imgB_step q j hjl);have HSX:=Lib.hid (imgX_step Z q j hjl);obtain ⟨b,o,rfl,hbl,x1,x2,x3,x4⟩:=hT3.at_ hjl;generalize (q.trms[j]'hjl)=t at x1 x2 x3 x4 HTK HSB HSX;obtain ⟨tb,tvv,tz⟩:=t;simp only [] at x1 x2 x3 x4;have hvl:tvv<Z.length:=by rw [HL.out];exact HTK.out.2.1
     have hvn:tvv<n2:=by rw [HN2.out];exact HTK.out.2.1
     obtain ⟨b',o',rfl,hbl',y1,y2⟩:=hZ3.at_ hvl;have HZB:=Lib.hid (HZZ.out _ (List.getElem_mem hvl));have HGD:Hid (Z.getD tvv 0=Z[tvv]'hvl):=by rw [Hid,List.getD_eq_getElem?_getD,List.getElem?_eq_getElem hvl];rfl
     generalize (Z[tvv]'hvl)=zz at y1 y2 HZB HGD;clear hvl;have HCO:=Lib.hid HTK.out.2.2;have HTB:=Lib.hid HTK.out.1;simp only [] at HCO HTB
     have HMUL:Hid (∀w:World,Calls Tryz.prog 121 #[.agg #[.bool (sg (tz)),.string (E (tz).natAbs)],.agg #[.bool (sg (zz)),.string (E (zz).natAbs)]] w fun e w'=>e=.returned (.tuple #[.agg #[.bool (sg (tz*zz)),.string (E (tz*zz).natAbs)],.int .i64 0])∧Below w.heap.size w w'):=fun w =>
      rimul_c tz zz w (Nat.lt_of_lt_of_le HCO.out (Nat.pow_le_pow_right (show 0<256 by decide) (show 16≤128 by decide))) (lt64 HZB.out) (Nat.lt_of_lt_of_le (Nat.mul_lt_mul'' HCO.out HZB.out) (by rw [←Nat.pow_add];exact Nat.pow_le_pow_right (show 0<256 by decide) (by decide)))
     obtain ⟨pz,hpz⟩:∃p,p=tz*zz:=⟨_,rfl⟩;have HPZ:=Lib.hid hpz;rw [←hpz] at HMUL;clear hpz;have h0j:(0:Int)≤(j:Int):=by omega
     have h1j:(j:Int)<(n4:Int):=by omega
     have h0v:(0:Int)≤(tvv:Int):=by omega
     have h1v:(tvv:Int)<(n2:Int):=by omega
     have hC:CA wq [(⟨g8,2,none⟩,.slice (some ⟨b,o,none⟩) n4 tc),(⟨b,o+j*4+1,none⟩,.int .i64 (tvv:Int)),(⟨b,o+j*4+2,none⟩,.bool (sg tz)),(⟨b,o+j*4+3,none⟩,.string (E tz.natAbs)),(⟨b',o'+tvv*2,none⟩,.bool (sg zz)),(⟨b',o'+tvv*2+1,none⟩,.string (E zz.natAbs))]:=CA.cons hQl (hQ3.cell 2) (CA.cons hbl x2 (CA.cons hbl x3 (CA.cons hbl x4 (CA.cons hbl' y1 (CA.cons hbl' y2 (CA.nil _))))));have hneA:=fun x hx=>Nat.ne_of_lt (hC x hx).1
     clear hT3 hZ3 x2 x3 x4 y1 y2;obtain ⟨hQ3c0,hQ3f0,hQ3c1,hQ3f1,hQ3c2,hQ3f2⟩:=hQ3.x3;go_upto_region 11 with fail
     clear hQ3c0 hQ3f0 hQ3c1 hQ3f1 hQ3c2 hQ3f2;go_cut [12,13] (fun s12 s13 wx=>ZBox wq pz s12 s13 wx)
     case first =>
      go_region_held3 (fun w'=>w'.cell? ⟨g8,2,none⟩=some (.slice (some ⟨b,o,none⟩) n4 tc)∧w'.cell? ⟨b,o+j*4+1,none⟩=some (.int .i64 (tvv:Int))∧w'.cell? ⟨b,o+j*4+2,none⟩=some (.bool (sg tz))∧w'.cell? ⟨b,o+j*4+3,none⟩=some (.string (E tz.natAbs))∧w'.cell? ⟨b',o'+tvv*2,none⟩=some (.bool (sg zz))∧w'.cell? ⟨b',o'+tvv*2+1,none⟩=some (.string (E zz.natAbs))) ((refine CA.k6 ?_;repeat (first | (with_reducible exact hCf) | (with_reducible exact hC) | (with_reducible refine CA.drew ?_) | (with_reducible refine CA.alloc ?_ _) | (refine CA.set ?_ _ _ _ hneA))))
       ((go_at_call 121;refine (HMUL.out _).mono ?_;rintro e wf ⟨rfl,hbf⟩;have hCf:CA wf [(⟨g8,2,none⟩,.slice (some ⟨b,o,none⟩) n4 tc),(⟨b,o+j*4+1,none⟩,.int .i64 (tvv:Int)),(⟨b,o+j*4+2,none⟩,.bool (sg tz)),(⟨b,o+j*4+3,none⟩,.string (E tz.natAbs)),(⟨b',o'+tvv*2,none⟩,.bool (sg zz)),(⟨b',o'+tvv*2+1,none⟩,.string (E zz.natAbs))]:=(by first | exact hC.drew.after hbf | exact (hC.alloc _).drew.after hbf | exact (hC.drew.alloc _).after hbf);(try (have kA:=(Blk.new wq #[.bool false,.string { data:=#[] }] 28).drew.after hbf;have kA0:=kA.cell 0;have kA1:=kA.cell 1;have kA2:=kA.free 0;have kA3:=kA.free 1))))
      all_goals
       go_wp2_with fail
       go_meet
       first
        | exact ⟨_,rfl,rfl,Blk.new _ _ _,hbf.size,ba ((Below.drew (Below.refl _ _)).trans hbf) _⟩
        | exact ⟨_,rfl,rfl,(kA.set 0 _).set 1 _,Nat.le_refl _,((bt ((b1 wq _).drew) hbf).setCell (by simp) _).setCell (by simp) _⟩
     case rest =>
      obtain ⟨gx,rfl,rfl,hX,hgx,hbx⟩:=hcut;obtain ⟨wx,hwx⟩:∃wx,wx=wc:=⟨_,rfl⟩;subst hwx;have hrow:∀g,u10.ownBlock=some g→g<wq.heap.size:=fun g hg=>(own_lt hI.z hg).1
      have hQ4:=hQ3.after hbx;have x1':=(hbx.cell (p:=⟨b,o+j*4,none⟩) hbl).trans x1;have hbl4:=Nat.lt_of_lt_of_le hbl hbx.size;have hI9:=hI.after hbx;have hRA:wx.ownsRow wi.heap.size 22 1 u9 j (strs ((imgB q).take j)):=by have h:wx.ownsRow _ _ _ _ _ _:=hI9.a;rw [hI9.la] at h;exact h
      have hRZ:wx.ownsRow wi.heap.size 28 2 u10 j (ics (((imgX Z q).take j).map zI)):=by have h:wx.ownsRow _ _ _ _ _ _:=hI9.z;rw [hI9.lz] at h;exact h
      have hBx:=hI9.b;have hsx:=hBx.size;have HLA:=Lib.hid hI9.la;have HLZ:=Lib.hid hI9.lz;clear hI9 hI hC hneA hQ3 x1 hbl hbl';generalize (imgB q).take j=LB at hRA HSB HLA;generalize (imgX Z q).take j=LX at hRZ HSX HLZ;have hQl4:=hQ4.lt;have hrl:=fun g hg=>(own_lt hRA (g:=g) hg)
      obtain ⟨hQ4c0,hQ4f0,hQ4c1,hQ4f1,hQ4c2,hQ4f2⟩:=hQ4.x3;go_wp2_with (first | (at_builtin;refine wpList_append_lies _ rfl (.tmp 57) (.tmp 64) _ rfl wi.heap.size 22 i0 _ 1 16 Tryz.underlying33 HI0.out HA0.out HB0.out HC0.out rfl (by omega) u9 j (strs LB) rfl (own_after hRA (b1 _ (.cells #[.string (E tb)] 22))) ⟨wx.heap.size,0,none⟩ 1 1 [.string (E tb)] rfl rfl (Blk.new wx #[.string (E tb)] 22).cells (by simp [Value.oneCell']) (by omega) (by simp only [maxLen];omega) (by omega) (by rw [World.size_alloc];omega) (wx.heap.size+1) (by simp) ?_;intro ga ca wa hownA hgrowA hatA hltA;clear hatA hltA;have hXa:=(hX.alloc (.cells #[.string (E tb)] 22)).grown hgrowA (own_ne hRA hX (by decide));have hXal:=hXa.lt;have hXc0:=hXa.cell 0;have hXc1:=hXa.cell 1;have hRZa:wa.ownsRow wi.heap.size 28 2 u10 j (ics (LX.map zI)):=own_grown (own_after hRZ (b1 _ (.cells #[.string (E tb)] 22))) (own_after hRA (b1 _ (.cells #[.string (E tb)] 22))) (by decide) hgrowA;have hQa:=(hQ4.alloc (.cells #[.string (E tb)] 22)).grown hgrowA (own_ne hRA hQ4 (by decide));have hBa:Below wi.heap.size wi wa:=Below.grown (Below.alloc hBx (by omega) _) hgrowA (by simp;omega) (fun g hg=>(own_lt hRA hg).2);have hsa:=hBa.size) | (at_builtin;refine wpList_append_lies _ rfl (.tmp 66) (.tmp 68) _ rfl wi.heap.size 28 i1 _ 2 24 Tryz.underlying44 HI1.out HA1.out HB1.out HC1.out rfl (by omega) u10 j (ics (LX.map zI)) rfl (own_after hRZa (b1 _ (.cells #[.bool (sg pz),.string (E pz.natAbs)] 28))) ⟨wa.heap.size,0,none⟩ 1 1 [.bool (sg pz),.string (E pz.natAbs)] rfl rfl (Blk.new wa #[.bool (sg pz),.string (E pz.natAbs)] 28).cells (by simp [Value.oneCell']) (by omega) (by simp only [maxLen];omega) (by omega) (by rw [World.size_alloc];omega) (wa.heap.size+1) (by simp) ?_;intro gb cb wb hownB hgrowB hatB hltB;clear hatB hltB;have hAb:wb.ownsRow wi.heap.size 22 1 (.slice (some ⟨ga,0,none⟩) (j+1) ca) (j+1) (strs LB++[.string (E tb)]):=own_grown (own_after hownA (b1 _ (.cells #[.bool (sg pz),.string (E pz.natAbs)] 28))) (own_after hRZa (b1 _ (.cells #[.bool (sg pz),.string (E pz.natAbs)] 28))) (by decide) hgrowB;have hBb:Below wi.heap.size wi wb:=Below.grown (Below.alloc hBa (by omega) _) hgrowB (by simp;omega) (fun g hg=>(own_lt hRZa hg).2)))
      clear hQ4c0 hQ4f0 hQ4c1 hQ4f1 hQ4c2 hQ4f2
      have hIR:IRel wi (j+1) (LB++[tb]) (LX++[pz]) (.slice (some ⟨ga,0,none⟩) (j+1) ca) (.slice (some ⟨gb,0,none⟩) (j+1) cb) wb:=by
       refine ⟨?_,?_,by simp [HLA.out],by simp [HLZ.out],fun h=>by omega,fun h=>by omega,hBb⟩
       ·rw [NOwn,List.length_append,HLA.out,←strs_app];exact hAb
       ·rw [ZOwn,List.length_append,HLZ.out,←ics_app];exact hownB
      rw [←HSB.out,HPZ.out,←HGD.out,←HSX.out] at hIR;clear hAb hownB hownA hBa hBb hgrowA hgrowB hRZa hXa hQa hRA hRZ;go_wp2;go_roundw
      case rel=>exact ⟨j+1,by omega,by go_num,hIR⟩
      case measure=>simp [intOf];omega
    ·have HTB:Hid ((imgB q).take j=imgB q):=List.take_of_length_le (by have:=HN4.out;simp [imgB];omega);have HTX:Hid ((imgX Z q).take j=imgX Z q):=List.take_of_length_le (by have:=HN4.out;simp [imgX];omega);rw [HTB.out,HTX.out] at hI;have hP4:=hP2.after hI.b;have hO4:=own_after hO2 hI.b;have hbr4:=bt hbr2 hI.b;have t1:=(hI.b.cell (p:=⟨bg,og_+qg*2,none⟩) hbg2).trans z1;have t2:=(hI.b.cell (p:=⟨bg,og_+qg*2+1,none⟩) hbg2).trans z2;have hbg4:=Nat.lt_of_lt_of_le hbg2 hI.b.size;have hPl4:=hP4.lt
     have HPR:Hid (Calls Tryz.prog 114 #[.agg #[.string (E p),.string (E qq)],u9,u10] wq fun e w'=>e=.returned (.tuple #[.string (E (imgV N Z q)),.int .i64 0])∧Below wq.heap.size wq w'):=by
      rw [HIV.out];exact rproduct_c p qq (imgB q) (imgX Z q) u9 u10 wq HGZ.out.1 (lt128 HGZ.out.2) HCE.out.1 (by simp [imgB,imgX]) (by have:=HSZ.out.2.2.1;simp [imgB];omega) HCE.out.2.2 HXL.out hI.a.ss hI.z.zs
     clear hI hP2 hO2 hbr2 z1 z2 hbg2 hT2 hZ2;obtain ⟨hP4c0,hP4f0,hP4c1,hP4f1,hP4c2,hP4f2⟩:=hP4.x3;obtain ⟨hQ3c0,hQ3f0,hQ3c1,hQ3f1,hQ3c2,hQ3f2⟩:=hQ3.x3;go_wp2_with fail
     refine HPR.out.mono ?_;rintro e w3 ⟨rfl,hb3⟩;clear hP4c0 hP4f0 hP4c1 hP4f1 hP4c2 hP4f2;clear hQ3c0 hQ3f0 hQ3c1 hQ3f1 hQ3c2 hQ3f2;have hO3:=own_after hO4 hb3;have hbr3:=bt hbr4 hb3;have hLE:Hid (((N.imgs Z).take k).length=k):=by rw [Hid,List.length_take,NSta.imgs,List.length_map];omega
     rw [hLE.out] at hO3;clear HPR hb3 hO4 hbr4 hP4 hQ3 hQ;have hsz3:=hbr3.size;have HIM:=Lib.hid HST.out;generalize imgV N Z q=iv at HIM ⊢;generalize (N.imgs Z).take k=LI at hO3 HIM hLE;go_wp2_with (at_builtin;refine wpList_append_lies _ rfl (.tmp 82) (.tmp 84) _ rfl w1.heap.size 22 i0 _ 1 16 Tryz.underlying33 HI0.out HA0.out HB0.out HC0.out rfl (by omega) u6 k (strs LI) rfl (own_after hO3 (b1 _ (.cells #[.string (E iv)] 22))) ⟨w3.heap.size,0,none⟩ 1 1 [.string (E iv)] rfl rfl (Blk.new w3 #[.string (E iv)] 22).cells (by simp [Value.oneCell']) (by omega) (by simp only [maxLen];omega) (by omega) (by rw [World.size_alloc];omega) (w3.heap.size+1) (by simp) ?_;intro ga ca wa hown hgrow hat hlt2)
     have hOA:NOwn wa w1.heap.size (.slice (some ⟨ga,0,none⟩) (k+1) ca) (LI++[iv]):=by rw [NOwn,List.length_append,hLE.out,←strs_app];exact hown
     rw [←HIM.out] at hOA;have hbA:=(ba hbr3 (.cells #[.string (E iv)] 22)).grown hgrow (by rw [World.size_alloc];omega) (fun x hx=>(own_lt hO3 hx).2);clear hown hgrow hat hlt2 hO3 hbr3;go_wp2;go_roundw
     case rel=>exact ⟨k+1,by omega,by go_num,hOA,hbA⟩
     case measure=>simp [intOf];omega
  ·have HTK:Hid ((N.imgs Z).take k=N.imgs Z):=List.take_of_length_le (by rw [NSta.imgs,List.length_map,←HN3.out];omega);rw [HTK.out] at hO;have hs1:=hBW.size;obtain ⟨hP1c0,hP1f0,hP1c1,hP1f1,hP1c2,hP1f2⟩:=hP1.x3;go_wp2;go_ret2
   exact ⟨_,rfl,own_mono hO hs1,hBW1⟩
end
end Go.Proofs.YteahlbhjhjhljaaGreatDoor
