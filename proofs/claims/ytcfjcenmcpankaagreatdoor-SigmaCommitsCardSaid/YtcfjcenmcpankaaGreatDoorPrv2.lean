import Derived.Test.YtcfjcenmcpankaaGreatDoorCo4
import Derived.Test.YtcfjcenmcpankaaGreatDoorRsp3
import Derived.WalkMore
set_option linter.unusedVariables false
set_option linter.unusedSimpArgs false
set_option maxRecDepth 100000
set_option maxHeartbeats 16000000
namespace Go.Proofs.YtcfjcenmcpankaaGreatDoor
section
open Go.RowKit Go.Shelf
def DWPost (w:World) (vt:Value) (R:Drw) (e:Ending) (w':World):Prop:=∃v u,e=.returned (.tuple #[v,.agg #[u,.string R.tp.seed,.int .i64 R.tp.pos],.int .i64 (R.err:Int)])∧ZOwn w' w.heap.size v R.msk∧SsAt w' u R.tp.vals∧(∀g,g<w.heap.size→FarS vt g→FarS u g)∧Below w.heap.size w w'
theorem lims1_lt {N:NSta} (hm:NOk N) {C K:Nat} (hC:C<256^16) (hK:K<256^16) {b:Nat} (hb:b∈N.vars):(lim N.ord C K b).1<256^60:=by
 unfold lim;split
 ·exact Nat.lt_of_lt_of_le (ord_lt hm) (Nat.pow_le_pow_right (by decide) (by decide))
 ·exact Nat.lt_of_lt_of_le (lt_mul3 hC hK (hm.v b hb)).2 (Nat.pow_le_pow_right (by decide) (by decide))
theorem sdraw_c (att:Att) (N:NSta) (C K B:Nat) (T:Tp) (v1 v2 v3 vl vt:Value) (w:World) (hat:HAtt att T.seed w) (hok:T.Ok) (hC:C<256^16) (hK:K<256^16) (hm:NOk N) (hS:NAt w v1 v2 v3 N) (hL:LmOwn w B vl (N.lims C K)) (hV:SsAt w vt T.vals) :
  Calls Tryz.prog 72 #[.agg #[v1,v2,v3],vl,.agg #[vt,.string T.seed,.int .i64 T.pos]] w (DWPost w vt (N.drwR att C K T)):=by
 obtain ⟨i1,hi1,hz10,hz11,hz12⟩:=info_parts info_Int;have HI1:=Lib.hid hi1;have HA1:=Lib.hid hz10;have HB1:=Lib.hid hz11;have HC1:=Lib.hid hz12;clear hi1 hz10 hz11 hz12;have HAT:=Lib.hid hat;have HOK:=Lib.hid hok;have HLT:=Lib.hid (fun b hb=>lims1_lt hm hC hK (b:=b) hb);obtain ⟨RR,hrr⟩:∃r,r=N.drwR att C K T:=⟨_,rfl⟩;have HRR:=Lib.hid hrr;rw [←hrr];clear hrr;obtain ⟨at_,ct,rfl⟩:=RAt.form hV;obtain ⟨nt,hnt⟩:∃n,n=T.vals.length:=⟨_,rfl⟩;have HNT:=Lib.hid hnt;rw [←hnt] at hV ⊢;obtain ⟨a6,c6,rfl⟩:=hL.form;have HLL:Hid ((N.lims C K).length=N.vars.length):=by rw [Hid,NSta.lims,List.length_map]
 rw [HLL.out] at hL ⊢;obtain ⟨a1,c1,a2,c2,a3,c3,rfl,rfl,rfl⟩:=hS.forms;obtain ⟨n1,hn1⟩:∃n,n=N.grps.length:=⟨_,rfl⟩;obtain ⟨n2,hn2⟩:∃n,n=N.vars.length:=⟨_,rfl⟩;obtain ⟨n3,hn3⟩:∃n,n=N.eqs.length:=⟨_,rfl⟩;have HN2:=Lib.hid hn2;have l2:n2≤12:=by rw [hn2];exact hm.nv
 rw [←hn1,←hn2,←hn3] at hS ⊢;rw [←hn2] at hL;clear hm hn1 hn2 hn3 hC hK hat hok hnt;have hP:=blk3a w #[.slice a1 n1 c1,.slice a2 n2 c2,.slice a3 n3 c3] #[.slice at_ nt ct,.string T.seed,.int .i64 T.pos] #[.slice none 0 0,.string ⟨#[]⟩,.int .i64 0] 29 41 41;have hT:=blk3b w #[.slice a1 n1 c1,.slice a2 n2 c2,.slice a3 n3 c3] #[.slice at_ nt ct,.string T.seed,.int .i64 T.pos] #[.slice none 0 0,.string ⟨#[]⟩,.int .i64 0] 29 41 41;have hR:=blk3c w #[.slice a1 n1 c1,.slice a2 n2 c2,.slice a3 n3 c3] #[.slice at_ nt ct,.string T.seed,.int .i64 T.pos] #[.slice none 0 0,.string ⟨#[]⟩,.int .i64 0] 29 41 41;have hBW:=b3 w (.cells #[.slice a1 n1 c1,.slice a2 n2 c2,.slice a3 n3 c3] 29) (.cells #[.slice at_ nt ct,.string T.seed,.int .i64 T.pos] 41) (.cells #[.slice none 0 0,.string ⟨#[]⟩,.int .i64 0] 41);obtain ⟨gT,hgT⟩:∃g,w.heap.size+1=g:=⟨_,rfl⟩;obtain ⟨gR,hgR⟩:∃g,w.heap.size+1+1=g:=⟨_,rfl⟩;have hgR2:w.heap.size+2=gR:=hgR;obtain ⟨gS,hgS⟩:∃g,w.heap.size=g:=⟨_,rfl⟩;have HG1:=Lib.hid hgT;have HG2:=Lib.hid hgR;have HG3:=Lib.hid hgR2;have HG4:=Lib.hid hgS;have hFT0:FarS (.slice at_ nt ct) gT:=ss_far hV (by omega);have hFR0:FarS (.slice at_ nt ct) gR:=ss_far hV (by omega);have HGW:Hid (w.heap.size≤gT∧w.heap.size≤gR∧gS≠gT∧gS≠gR∧gT≠gR):=by rw [Hid];omega
 clear hgT hgR hgR2 hgS;have hV1:=SsAt.after hV hBW;obtain ⟨hPc0,hPf0,hPc1,hPf1,hPc2,hPf2⟩:=hP.x3;go_enter Tryz.func72,Tryz.ntmps72
 go_wp2;clear hPc0 hPf0 hPc1 hPf1 hPc2 hPf2;generalize hw1:((w.alloc (.cells #[.slice a1 n1 c1,.slice a2 n2 c2,.slice a3 n3 c3] 29)).alloc (.cells #[.slice at_ nt ct,.string T.seed,.int .i64 T.pos] 41)).alloc (.cells #[.slice none 0 0,.string ⟨#[]⟩,.int .i64 0] 41)=w1 at hP hT hR hBW hV1 ⊢
 have HW1:Hid (gS<w1.heap.size∧gT<w1.heap.size∧gR<w1.heap.size):=by
  have h:=hR.lt;have h2:=HG3.out;have h3:=HG1.out;have h4:=HG4.out;rw [Hid];omega
 have HWW:Hid (w.heap.size≤w1.heap.size):=hBW.size;clear hw1;rw [HG3.out] at hR;rw [HG1.out] at hT;rw [HG4.out] at hP;rw [HG2.out,HG1.out,HG4.out];clear HG1 HG2 HG3;replace hP:Blk w1 gS 29 [.slice a1 n1 c1,.slice a2 n2 c2,.slice a3 n3 c3]:=hP;replace hT:Blk w1 gT 41 [.slice at_ nt ct,.string T.seed,.int .i64 T.pos]:=hT;replace hR:Blk w1 gR 41 [.slice none 0 0,.string ⟨#[]⟩,.int .i64 0]:=hR;go_loopw [9,17] (fun v9 i wr=>∃(k:Nat) (uo:Option Addr) (um uc:Nat),k≤n2∧i=.int .i64 k∧Hid (∀j,j<k→(N.drw att C K T j).1=0)∧ZOwn wr w1.heap.size v9 ((N.drwL att C K T).take k)∧Blk wr gS 29 [.slice a1 n1 c1,.slice a2 n2 c2,.slice a3 n3 c3]∧Blk wr gT 41 [.slice uo um uc,.string T.seed,.int .i64 (T.pos+(k:Int))]∧Blk wr gR 41 [.slice none 0 0,.string ⟨#[]⟩,.int .i64 0]∧SsAt wr (.slice uo um uc) T.vals∧FarS (.slice uo um uc) gT∧FarS (.slice uo um uc) gR∧(∀g,g<w.heap.size→FarS (.slice at_ nt ct) g→FarS (.slice uo um uc) g)∧Hid (w1.heap.size≤wr.heap.size)∧Below w.heap.size w wr) (fun _ i _=>n2-(intOf i).toNat)
 case atStart=>exact ⟨0,at_,nt,ct,by omega,rfl,fun j h=>absurd h (Nat.not_lt_zero _),World.ownsRow_nil _ _ _ _,hP,by rw [show T.pos+((0:Nat):Int)=T.pos by omega];exact hT,hR,hV1,hFT0,hFR0,fun g _ h=>h,Nat.le_refl _,hBW⟩
 case round =>
  clear hP hT hR hV1 hFT0 hFR0 hBW;obtain ⟨k,uo,um,uc,hk,rfl,HAL,hO,hP,hT,hR,hU,hFT,hFR,hFK,HSZ,hbr⟩:=hrel;obtain ⟨wp,hwp⟩:∃wp,wp=wr:=⟨_,rfl⟩;subst hwp;have HFK:=Lib.hid hFK;clear hFK;by_cases hlt:k<n2
  ·have hkl:k<N.vars.length:=by rw [←HN2.out];exact hlt
   have hkL:k<(N.lims C K).length:=by rw [HLL.out];exact hkl
   have HST:=Lib.hid (drw_step N att C K T k hkl);have HDA:=Lib.hid (drw_at N att C K T k hkl);obtain ⟨bv,ov,rfl,hbv,x1⟩:=(hS.after hbr).vat hkl;obtain ⟨bu,rfl,hbu,u1,u2⟩:=(hL.after hbr).at_ hkL;rw [lims_at N C K k hkl hkL] at u1 u2;have HLV:=Lib.hid (HLT.out _ (List.getElem_mem hkl));have HBD:Hid ((N.drw att C K T k).1≠0→RR=⟨(N.drw att C K T k).1,[],Tp.nil⟩):=fun h=>HRR.out.trans (drw_bad hkl HAL.out h)
   have HGD:Hid ((N.drw att C K T k).1=0→∀j,j<k+1→(N.drw att C K T j).1=0):=fun h j hj=>by
    by_cases e:j=k
    ·rw [e];exact h
    ·exact HAL.out j (by omega)
   clear HAL;generalize N.drw att C K T k=dk at HDA HBD HGD HST;generalize (N.vars[k]'hkl)=vb at x1 u1 u2 HLV HDA;generalize (lim N.ord C K vb).2=lb at u2;have hLE:Hid (((N.drwL att C K T).take k).length=k):=by rw [Hid,List.length_take,NSta.drwL,List.length_map,List.length_range];omega
   generalize (N.drwL att C K T).take k=LI at hO HST hLE;replace hO:wp.ownsRow w1.heap.size 72 2 u9 k (ics (LI.map zI)):=by have h:wp.ownsRow _ _ _ _ _ _:=hO;rw [hLE.out] at h;exact h
   have h0k:(0:Int)≤(k:Int):=by omega
   have h1k:(k:Int)<(n2:Int):=by omega
   obtain ⟨Tk,hTk⟩:∃t,t=T.on k:=⟨_,rfl⟩;have HTK:Hid (Tk.vals=T.vals∧Tk.seed=T.seed∧Tk.pos=T.pos+(k:Int)):=by rw [Hid,hTk];exact ⟨rfl,rfl,rfl⟩
   have HTN:Hid (Tk.after 0=T.on (k+1)):=by rw [Hid,hTk];exact Tp.on_on T k 1
   have HTO:Hid (Tk.Ok):=by rw [Hid,hTk];exact HOK.out.on k
   have HTA:Hid (HAtt att Tk.seed w):=by rw [Hid,hTk];exact HAT.out
   rw [←hTk] at HDA;clear hTk;rw [←HTK.out.1] at hU;have HTE:=Lib.hid HTK.out.2;rw [←HTE.out.1,←HTE.out.2] at hT;clear HTK;have HKI:Hid (∀w,Calls Tryz.prog 96 #[.agg #[.string (E vb)]] w fun e w'=>e=.returned (.int .i64 (kdN vb:Nat))∧Below w.heap.size w w'):=fun w=>kindV_c vb _ w rfl
   have hVA:=blk2a wp #[.string (E vb)] #[.bool false,.string { data:=#[] }] 99 72;have hBB:=blk2b wp #[.string (E vb)] #[.bool false,.string { data:=#[] }] 99 72;have hbV:=b2 wp (.cells #[.string (E vb)] 99) (.cells #[.bool false,.string { data:=#[] }] 72);obtain ⟨gv,hgv⟩:∃g,wp.heap.size=g:=⟨_,rfl⟩;obtain ⟨gB,hgB⟩:∃g,wp.heap.size+1=g:=⟨_,rfl⟩;have HGB:Hid (w1.heap.size≤gB∧wp.heap.size<gB+1∧wp.heap.size+1=gB):=by have:=HSZ.out;rw [Hid];omega
   have HGv:=Lib.hid hgv;clear hgv hgB;obtain ⟨hVAc0,hVAf0⟩:=hVA.x1;go_wp2_with fail
   refine (HKI.out _).mono ?_;rintro e w2 ⟨rfl,hb2⟩;clear hVAc0 hVAf0;have hb3:=bt hbV hb2;have hBc:=hBB.after hb2;have hOc:=own_after hO hb3;have hPc:=hP.after hb3;have hTc:=hT.after hb3;have hRc:=hR.after hb3;have hUc:=SsAt.after hU hb3;have uu1:=(hb3.cell (p:=⟨bu,k*2,none⟩) hbu).trans u1;have ku:=Nat.lt_of_lt_of_le hbu hb3.size;have hbx:=bt hbr hb3;rw [HGB.out.2.2] at hBc ⊢
   have HNE:Hid (gS≠gB∧gT≠gB∧gR≠gB):=by
    have h1:=HW1.out;have h2:=HGB.out.1;rw [Hid];omega
   have HOB:Hid (u9.ownBlock≠some gB∧u9.ownBlock≠some gT∧u9.ownBlock≠some gR∧∀g,u9.ownBlock=some g→g<w2.heap.size):=by
    have h1:=HW1.out;have h2:=HGB.out;have h3:=hb3.size;refine ⟨fun e=>?_,fun e=>?_,fun e=>?_,fun g e=>?_⟩ <;> have h4:=own_lt hO e <;> omega
   have HWS:Hid (w1.heap.size≤w2.heap.size):=Nat.le_trans HSZ.out hb3.size;clear x1 u1 u2 hbv hbu hO hVA hbV hb2 hb3 HKI hP hT hR hU hbr HSZ hBB;obtain ⟨wv,hwv⟩:∃wx,wx=w2:=⟨_,rfl⟩;subst hwv;replace hBc:Blk wv gB 72 [.bool false,.string { data:=#[] }]:=hBc;by_cases hv0:vb=0
   ·have HK0:Hid (kdN vb=0):=by rw [hv0];rfl
    rw [HK0.out];have HDK:Hid (dk=((coin att Tk (lim N.ord C K vb).1).1,((coin att Tk (lim N.ord C K vb).1).2:Int))):=by rw [Hid,HDA.out,drwJ,if_pos hv0]
    generalize (lim N.ord C K vb).1=mk at uu1 HDK HLV;have HSG:Hid (∀w',Below wv.heap.size wv w'→Calls Tryz.prog 122 #[.agg #[.slice uo um uc,.string Tk.seed,.int .i64 Tk.pos],.string (E mk)] w' (CPost w' Tk (coin att Tk mk))):=fun w' hb=>cbelow_c att Tk _ mk w' (HTA.out.after (bt hbx hb)) HTO.out (Nat.lt_of_lt_of_le HLV.out (Nat.pow_le_pow_right (by decide) (by decide))) (SsAt.after hUc hb)
    generalize coin att Tk mk=rc at HSG HDK;obtain ⟨ke,xe⟩:=rc;have HZ:Hid (dk.1=ke∧zI dk.2=(false,E xe)):=by rw [Hid,HDK.out];exact ⟨rfl,by simp [zI,sg_nat]⟩
    clear hv0 HDA HDK HK0 HLV HTA HTO;obtain ⟨T1,hT1⟩:∃t,t=Tk.after ke:=⟨_,rfl⟩;have HT1:=Lib.hid hT1;clear hT1;have hP0:=hPc.drew;have hT0:=hTc.drew;have hR0:=hRc.drew;have hB0:=hBc.drew;have hO0:wv.drew.ownsRow w1.heap.size 72 2 u9 k (ics (LI.map zI)):=World.ownsRow.drew hOc;have hbx0:=hbx.drew;have uu0:wv.drew.cell? ⟨bu,k*2,none⟩=some (.string (E mk)):=uu1;have ku0:bu<wv.drew.heap.size:=ku;have hTl:gT<wv.drew.heap.size:=hTc.lt;have hBl:gB<wv.drew.heap.size:=hBc.lt;have HRl:Hid (gR<wv.drew.heap.size):=hRc.lt;have HWS0:Hid (w1.heap.size≤wv.drew.heap.size):=HWS.out;have HWD:Hid (Below wv.heap.size wv wv.drew):=Below.drew (Below.refl _ _);have e1:¬ gT=gB:=HNE.out.2.1;have e2:¬ gB=gT:=fun e=>HNE.out.2.1 e.symm
    clear hPc hTc hRc hBc hOc hbx uu1 ku HWS hUc;obtain ⟨hT0c0,hT0f0,hT0c1,hT0f1,hT0c2,hT0f2⟩:=hT0.x3;obtain ⟨hB0c0,hB0f0,hB0c1,hB0f1⟩:=hB0.x2;go_wp2_with fail
    go_cut [13] (fun s13 wx=>s13=.int .i64 (ke:Int)∧∃(uo:Option Addr) (um uc:Nat),Blk wx gT 41 [.slice uo um uc,.string T1.seed,.int .i64 T1.pos]∧Blk wx gB 72 [.bool false,.string (E xe)]∧Blk wx gS 29 [.slice a1 n1 c1,.slice (some ⟨bv,ov,none⟩) n2 c2,.slice a3 n3 c3]∧Blk wx gR 41 [.slice none 0 0,.string ⟨#[]⟩,.int .i64 0]∧SsAt wx (.slice uo um uc) T1.vals∧FarS (.slice uo um uc) gT∧FarS (.slice uo um uc) gR∧(∀g,g<w.heap.size→FarS (.slice uo um uc) g)∧(∀g,u9.ownBlock=some g→FarS (.slice uo um uc) g)∧wx.ownsRow w1.heap.size 72 2 u9 k (ics (LI.map zI))∧Below w.heap.size w wx∧Hid (w1.heap.size≤wx.heap.size))
    case first =>
     go_region_with (go_at_call 122;(with_reducible refine (HSG.out _ HWD.out).mono ?_);rintro e wd ⟨t,rfl,⟨u,rfl,hUd⟩,hFd,hbd⟩;obtain ⟨xo,xc,rfl⟩:=RAt.form hUd;have hTd:=hT0.after hbd;have hBd:=hB0.after hbd;have hRd:=hR0.after hbd;have hPd:=hP0.after hbd;have hOd:=own_after hO0 hbd;have hBW:=bt hbx0 hbd;have hTd0:=hTd.cell 0;have hTd1:=hTd.cell 1;have hTd2:=hTd.cell 2;have hTf0:=hTd.free 0;have hTf1:=hTd.free 1;have hTf2:=hTd.free 2;have hBd0:=hBd.cell 0;have hBd1:=hBd.cell 1;have hBf0:=hBd.free 0;have hBf1:=hBd.free 1;have hTdl:=hTd.lt;have hBdl:=hBd.lt)
     all_goals
      go_wp2_with fail
      go_meet
      have fT:=hFd.far hTl;have fB:=hFd.far hBl;have hgB:w.heap.size≤gB:=Nat.le_trans HWW.out HGB.out.1;rw [HT1.out];exact ⟨rfl,xo,_,xc,(((hTd.other _ _ HNE.out.2.1).set 0 _).set 1 _).set 2 _,(((hBd.set 1 _).other _ _ e2).other _ _ e2).other _ _ e2,(((hPd.other _ _ HNE.out.1).other _ _ HGW.out.2.2.1).other _ _ HGW.out.2.2.1).other _ _ HGW.out.2.2.1,(((hRd.other _ _ HNE.out.2.2).other _ _ HGW.out.2.2.2.2.symm).other _ _ HGW.out.2.2.2.2.symm).other _ _ HGW.out.2.2.2.2.symm,(((hUd.set_far fB).set_far fT).set_far fT).set_far fT,fT,hFd.far HRl.out,fun g hg=>hFd.far (Nat.lt_of_lt_of_le hg hbx0.size),fun g hg=>hFd.far (HOB.out.2.2.2 g hg),own_set (own_set (own_set (own_set hOd HOB.out.1) HOB.out.2.1) HOB.out.2.1) HOB.out.2.1,(((hBW.setCell hgB _).setCell HGW.out.1 _).setCell HGW.out.1 _).setCell HGW.out.1 _,by have h:=Nat.le_trans HWS0.out hbd.size;simpa [Hid] using h⟩
    case rest =>
    clear hP0 hT0 hR0 hB0 hO0 hbx0 uu0 ku0 hTl hBl HRl HWS0 HWD e1 e2 HSG hT0c0 hT0f0 hT0c1 hT0f1 hT0c2 hT0f2 hB0c0 hB0f0 hB0c1 hB0f1;obtain ⟨rfl,xo,xm,xc,hT,hB,hP,hR,hU,hFT,hFR,hFK,hFO,hO,hbx,HSZ⟩:=hcut;have HFK2:=Lib.hid hFK;clear hFK;obtain ⟨wy,hwy⟩:∃wy,wy=wc:=⟨_,rfl⟩;subst hwy;by_cases hke:ke=0
    ·subst hke;have HGD2:=Lib.hid (HGD.out HZ.out.1);clear HGD HBD;rw [HTN.out] at HT1;have HTV:Hid (T1.vals=T.vals∧T1.seed=T.seed∧T1.pos=T.pos+((k+1:Nat):Int)):=by rw [Hid,HT1.out];exact ⟨rfl,rfl,rfl⟩
     rw [HTV.out.1] at hU;have HTW:=Lib.hid HTV.out.2;rw [HTW.out.1,HTW.out.2] at hT;clear HTV HT1 HTW;have hBl:=hB.lt;have hsz8:=HSZ.out;obtain ⟨hBc0,hBf0,hBc1,hBf1⟩:=hB.x2;go_wp2_with (at_builtin;refine wpList_append_lies _ rfl (.tmp 52) (.tmp 54) _ rfl w1.heap.size 72 i1 _ 2 24 Tryz.underlying39 HI1.out HA1.out HB1.out HC1.out rfl (by omega) u9 k (ics (LI.map zI)) rfl (own_after hO (b1 _ (.cells #[.bool false,.string (E xe)] 72))) ⟨(wy).heap.size,0,none⟩ 1 1 [.bool false,.string (E xe)] rfl rfl (Blk.new (wy) #[.bool false,.string (E xe)] 72).cells (by simp [Value.oneCell']) (by omega) (by simp only [maxLen];omega) (by omega) (by rw [World.size_alloc];omega) ((wy).heap.size+1) (by simp) ?_;intro ga ca' wz hown hgrow hat hlt2)
     have hOA:ZOwn wz w1.heap.size (.slice (some ⟨ga,0,none⟩) (k+1) ca') (LI++[dk.2]):=by
      rw [ZOwn,List.length_append,hLE.out,←ics_app];have h:ics [zI dk.2]=[.bool false,.string (E xe)]:=by rw [HZ.out.2];rfl
      rw [List.map_cons,List.map_nil,h];exact hown
     rw [←HST.out] at hOA;have hbA:=(ba hbx (.cells #[.bool false,.string (E xe)] 72)).grown hgrow (by have:=hbx.size;rw [World.size_alloc];omega) (fun x hx=>Nat.le_trans HWW.out (own_lt hO hx).2);have hTz:=Blk.grown (hT.alloc (.cells #[.bool false,.string (E xe)] 72)) hgrow HOB.out.2.1;have hRz:=Blk.grown (hR.alloc (.cells #[.bool false,.string (E xe)] 72)) hgrow HOB.out.2.2.1;have hPz:=Blk.grown (hP.alloc (.cells #[.bool false,.string (E xe)] 72)) hgrow (fun e=>by have h1:=(own_lt hO e).2;have h2:=HW1.out;omega);have hUz:=SsAt.grown (SsAt.after hU (b1 wy (.cells #[.bool false,.string (E xe)] 72))) hgrow hFO;have hsz9:w1.heap.size≤wz.heap.size:=by have h:=hgrow.size;rw [World.size_alloc] at h;omega
     clear hown hgrow hat hlt2 hO hB hbx hT hR hP hU hsz8;go_wp2;go_roundw
     case rel=>exact ⟨k+1,xo,xm,xc,by omega,by go_num,HGD2.out,hOA,hPz,hTz,hRz,hUz,hFT,hFR,fun g hg _=>HFK2.out g hg,hsz9,hbA⟩
     case measure=>simp [intOf];omega
    ·have hkb:((ke:Int) != 0)=true:=by rw [bne_iff_ne];omega
     have HX:=Lib.hid (HBD.out (by rw [HZ.out.1];exact hke));rw [HZ.out.1] at HX;clear hke HBD HGD hT hB hP hU hFT hFR hFO hO;have hRl:=hR.lt;obtain ⟨hRc0,hRf0,hRc1,hRf1,hRc2,hRf2⟩:=hR.x3;go_wp2;refine bodyPost_ret (v:=.tuple #[.slice none 0 0,.agg #[.slice none 0 0,.string ⟨#[]⟩,.int .i64 0],.int .i64 (ke:Int)]) ?_ rfl ?_
     ·simp [results,Tryz.results72,go_sem,hRc0,hRc1,hRc2,hRl]
     ·rw [HX.out];exact ⟨_,_,rfl,World.ownsRow_nil _ _ _ _,ss_nil _,(fun g _ _ b o n c e _=>by cases e),((hbx.setCell HGW.out.2.1 _).setCell HGW.out.2.1 _).setCell HGW.out.2.1 _⟩
   ·have HK0:Hid (kdN vb=1):=by unfold Hid kdN;rw [if_neg hv0]
    rw [HK0.out];have HDK:Hid (dk=csgn att Tk (lim N.ord C K vb).1):=by rw [Hid,HDA.out,drwJ,if_neg hv0]
    generalize (lim N.ord C K vb).1=mk at uu1 HDK HLV;have HSG:Hid (∀w',Below wv.heap.size wv w'→Calls Tryz.prog 121 #[.agg #[.slice uo um uc,.string Tk.seed,.int .i64 Tk.pos],.string (E mk)] w' (SCPost w' Tk (csgn att Tk mk))):=fun w' hb=>csigned_c att Tk _ mk w' (HTA.out.after (bt hbx hb)) HTO.out HLV.out (SsAt.after hUc hb)
    generalize csgn att Tk mk=rc at HSG HDK;obtain ⟨ke,xe⟩:=rc;have HZ:Hid (dk.1=ke∧zI dk.2=(sg xe,E xe.natAbs)):=by rw [Hid,HDK.out];exact ⟨rfl,rfl⟩
    clear hv0 HDA HDK HK0 HLV HTA HTO;obtain ⟨T1,hT1⟩:∃t,t=Tk.after ke:=⟨_,rfl⟩;have HT1:=Lib.hid hT1;clear hT1;have hP0:=hPc.drew;have hT0:=hTc.drew;have hR0:=hRc.drew;have hB0:=hBc.drew;have hO0:wv.drew.ownsRow w1.heap.size 72 2 u9 k (ics (LI.map zI)):=World.ownsRow.drew hOc;have hbx0:=hbx.drew;have uu0:wv.drew.cell? ⟨bu,k*2,none⟩=some (.string (E mk)):=uu1;have ku0:bu<wv.drew.heap.size:=ku;have hTl:gT<wv.drew.heap.size:=hTc.lt;have hBl:gB<wv.drew.heap.size:=hBc.lt;have HRl:Hid (gR<wv.drew.heap.size):=hRc.lt;have HWS0:Hid (w1.heap.size≤wv.drew.heap.size):=HWS.out;have HWD:Hid (Below wv.heap.size wv wv.drew):=Below.drew (Below.refl _ _);have e1:¬ gT=gB:=HNE.out.2.1;have e2:¬ gB=gT:=fun e=>HNE.out.2.1 e.symm
    clear hPc hTc hRc hBc hOc hbx uu1 ku HWS hUc;obtain ⟨hT0c0,hT0f0,hT0c1,hT0f1,hT0c2,hT0f2⟩:=hT0.x3;obtain ⟨hB0c0,hB0f0,hB0c1,hB0f1⟩:=hB0.x2;go_wp2_with fail
    go_cut [13] (fun s13 wx=>s13=.int .i64 (ke:Int)∧∃(uo:Option Addr) (um uc:Nat),Blk wx gT 41 [.slice uo um uc,.string T1.seed,.int .i64 T1.pos]∧Blk wx gB 72 [.bool (sg xe),.string (E xe.natAbs)]∧Blk wx gS 29 [.slice a1 n1 c1,.slice (some ⟨bv,ov,none⟩) n2 c2,.slice a3 n3 c3]∧Blk wx gR 41 [.slice none 0 0,.string ⟨#[]⟩,.int .i64 0]∧SsAt wx (.slice uo um uc) T1.vals∧FarS (.slice uo um uc) gT∧FarS (.slice uo um uc) gR∧(∀g,g<w.heap.size→FarS (.slice uo um uc) g)∧(∀g,u9.ownBlock=some g→FarS (.slice uo um uc) g)∧wx.ownsRow w1.heap.size 72 2 u9 k (ics (LI.map zI))∧Below w.heap.size w wx∧Hid (w1.heap.size≤wx.heap.size))
    case first =>
     go_region_with (go_at_call 121;(with_reducible refine (HSG.out _ HWD.out).mono ?_);rintro e wd ⟨t,rfl,⟨u,rfl,hUd⟩,hFd,hbd⟩;obtain ⟨xo,xc,rfl⟩:=RAt.form hUd;have hTd:=hT0.after hbd;have hBd:=hB0.after hbd;have hRd:=hR0.after hbd;have hPd:=hP0.after hbd;have hOd:=own_after hO0 hbd;have hBW:=bt hbx0 hbd;have hTd0:=hTd.cell 0;have hTd1:=hTd.cell 1;have hTd2:=hTd.cell 2;have hTf0:=hTd.free 0;have hTf1:=hTd.free 1;have hTf2:=hTd.free 2;have hBd0:=hBd.cell 0;have hBd1:=hBd.cell 1;have hBf0:=hBd.free 0;have hBf1:=hBd.free 1;have hTdl:=hTd.lt;have hBdl:=hBd.lt)
     all_goals
      go_wp2_with fail
      go_meet
      have fT:=hFd.far hTl;have fB:=hFd.far hBl;have hgB:w.heap.size≤gB:=Nat.le_trans HWW.out HGB.out.1;rw [HT1.out];exact ⟨rfl,xo,_,xc,((((hTd.other _ _ HNE.out.2.1).other _ _ HNE.out.2.1).set 0 _).set 1 _).set 2 _,((((hBd.set 0 _).set 1 _).other _ _ e2).other _ _ e2).other _ _ e2,((((hPd.other _ _ HNE.out.1).other _ _ HNE.out.1).other _ _ HGW.out.2.2.1).other _ _ HGW.out.2.2.1).other _ _ HGW.out.2.2.1,((((hRd.other _ _ HNE.out.2.2).other _ _ HNE.out.2.2).other _ _ HGW.out.2.2.2.2.symm).other _ _ HGW.out.2.2.2.2.symm).other _ _ HGW.out.2.2.2.2.symm,((((hUd.set_far fB).set_far fB).set_far fT).set_far fT).set_far fT,fT,hFd.far HRl.out,fun g hg=>hFd.far (Nat.lt_of_lt_of_le hg hbx0.size),fun g hg=>hFd.far (HOB.out.2.2.2 g hg),own_set (own_set (own_set (own_set (own_set hOd HOB.out.1) HOB.out.1) HOB.out.2.1) HOB.out.2.1) HOB.out.2.1,((((hBW.setCell hgB _).setCell hgB _).setCell HGW.out.1 _).setCell HGW.out.1 _).setCell HGW.out.1 _,by have h:=Nat.le_trans HWS0.out hbd.size;simpa [Hid] using h⟩
    case rest =>
    clear hP0 hT0 hR0 hB0 hO0 hbx0 uu0 ku0 hTl hBl HRl HWS0 HWD e1 e2 HSG hT0c0 hT0f0 hT0c1 hT0f1 hT0c2 hT0f2 hB0c0 hB0f0 hB0c1 hB0f1;obtain ⟨rfl,xo,xm,xc,hT,hB,hP,hR,hU,hFT,hFR,hFK,hFO,hO,hbx,HSZ⟩:=hcut;have HFK2:=Lib.hid hFK;clear hFK;obtain ⟨wy,hwy⟩:∃wy,wy=wc:=⟨_,rfl⟩;subst hwy;by_cases hke:ke=0
    ·subst hke;have HGD2:=Lib.hid (HGD.out HZ.out.1);clear HGD HBD;rw [HTN.out] at HT1;have HTV:Hid (T1.vals=T.vals∧T1.seed=T.seed∧T1.pos=T.pos+((k+1:Nat):Int)):=by rw [Hid,HT1.out];exact ⟨rfl,rfl,rfl⟩
     rw [HTV.out.1] at hU;have HTW:=Lib.hid HTV.out.2;rw [HTW.out.1,HTW.out.2] at hT;clear HTV HT1 HTW;have hBl:=hB.lt;have hsz8:=HSZ.out;obtain ⟨hBc0,hBf0,hBc1,hBf1⟩:=hB.x2;go_wp2_with (at_builtin;refine wpList_append_lies _ rfl (.tmp 52) (.tmp 54) _ rfl w1.heap.size 72 i1 _ 2 24 Tryz.underlying39 HI1.out HA1.out HB1.out HC1.out rfl (by omega) u9 k (ics (LI.map zI)) rfl (own_after hO (b1 _ (.cells #[.bool (sg xe),.string (E xe.natAbs)] 72))) ⟨(wy).heap.size,0,none⟩ 1 1 [.bool (sg xe),.string (E xe.natAbs)] rfl rfl (Blk.new (wy) #[.bool (sg xe),.string (E xe.natAbs)] 72).cells (by simp [Value.oneCell']) (by omega) (by simp only [maxLen];omega) (by omega) (by rw [World.size_alloc];omega) ((wy).heap.size+1) (by simp) ?_;intro ga ca' wz hown hgrow hat hlt2)
     have hOA:ZOwn wz w1.heap.size (.slice (some ⟨ga,0,none⟩) (k+1) ca') (LI++[dk.2]):=by
      rw [ZOwn,List.length_append,hLE.out,←ics_app];have h:ics [zI dk.2]=[.bool (sg xe),.string (E xe.natAbs)]:=by rw [HZ.out.2];rfl
      rw [List.map_cons,List.map_nil,h];exact hown
     rw [←HST.out] at hOA;have hbA:=(ba hbx (.cells #[.bool (sg xe),.string (E xe.natAbs)] 72)).grown hgrow (by have:=hbx.size;rw [World.size_alloc];omega) (fun x hx=>Nat.le_trans HWW.out (own_lt hO hx).2);have hTz:=Blk.grown (hT.alloc (.cells #[.bool (sg xe),.string (E xe.natAbs)] 72)) hgrow HOB.out.2.1;have hRz:=Blk.grown (hR.alloc (.cells #[.bool (sg xe),.string (E xe.natAbs)] 72)) hgrow HOB.out.2.2.1;have hPz:=Blk.grown (hP.alloc (.cells #[.bool (sg xe),.string (E xe.natAbs)] 72)) hgrow (fun e=>by have h1:=(own_lt hO e).2;have h2:=HW1.out;omega);have hUz:=SsAt.grown (SsAt.after hU (b1 wy (.cells #[.bool (sg xe),.string (E xe.natAbs)] 72))) hgrow hFO;have hsz9:w1.heap.size≤wz.heap.size:=by have h:=hgrow.size;rw [World.size_alloc] at h;omega
     clear hown hgrow hat hlt2 hO hB hbx hT hR hP hU hsz8;go_wp2;go_roundw
     case rel=>exact ⟨k+1,xo,xm,xc,by omega,by go_num,HGD2.out,hOA,hPz,hTz,hRz,hUz,hFT,hFR,fun g hg _=>HFK2.out g hg,hsz9,hbA⟩
     case measure=>simp [intOf];omega
    ·have hkb:((ke:Int) != 0)=true:=by rw [bne_iff_ne];omega
     have HX:=Lib.hid (HBD.out (by rw [HZ.out.1];exact hke));rw [HZ.out.1] at HX;clear hke HBD HGD hT hB hP hU hFT hFR hFO hO;have hRl:=hR.lt;obtain ⟨hRc0,hRf0,hRc1,hRf1,hRc2,hRf2⟩:=hR.x3;go_wp2;refine bodyPost_ret (v:=.tuple #[.slice none 0 0,.agg #[.slice none 0 0,.string ⟨#[]⟩,.int .i64 0],.int .i64 (ke:Int)]) ?_ rfl ?_
     ·simp [results,Tryz.results72,go_sem,hRc0,hRc1,hRc2,hRl]
     ·rw [HX.out];exact ⟨_,_,rfl,World.ownsRow_nil _ _ _ _,ss_nil _,(fun g _ _ b o n c e _=>by cases e),((hbx.setCell HGW.out.2.1 _).setCell HGW.out.2.1 _).setCell HGW.out.2.1 _⟩
  ·obtain rfl:n2=k:=by omega
   have HTK:Hid ((N.drwL att C K T).take n2=N.drwL att C K T):=List.take_of_length_le (by rw [NSta.drwL,List.length_map,List.length_range,←HN2.out];exact Nat.le_refl _);have HX:Hid (RR=⟨0,N.drwL att C K T,T.on n2⟩):=by rw [Hid,HRR.out,drw_ok (fun j hj=>HAL.out j (by rw [HN2.out];exact hj)),HN2.out]
   rw [HTK.out] at hO;have hTl:=hT.lt;have hRl:=hR.lt;have n1':¬ gT=gR:=HGW.out.2.2.2.2;obtain ⟨hTc0,hTf0,hTc1,hTf1,hTc2,hTf2⟩:=hT.x3;obtain ⟨hRc0,hRf0,hRc1,hRf1,hRc2,hRf2⟩:=hR.x3;go_wp2_with fail
   go_region;go_wp2;refine bodyPost_ret (v:=.tuple #[u9,.agg #[.slice uo um uc,.string T.seed,.int .i64 (T.pos+(n2:Int))],.int .i64 0]) ?_ rfl ?_
   ·simp [results,Tryz.results72,go_sem,hRc0,hRc1,hRc2,hRl]
   ·rw [HX.out];have hnR:u9.ownBlock≠some gR:=fun e=>by have h1:=(own_lt hO e).2;have h2:=HW1.out;omega
    exact ⟨_,_,rfl,own_mono (World.ownsRow.drew (own_set (own_set (own_set hO hnR) hnR) hnR)) HWW.out,SsAt.after (((hU.set_far hFR).set_far hFR).set_far hFR) (Below.drew (Below.refl _ _)),HFK.out,(((hbr.setCell HGW.out.2.1 _).setCell HGW.out.2.1 _).setCell HGW.out.2.1 _).drew⟩
end
section
open Go.RowKit Go.Shelf
def NSta.prvR (N:NSta) (att:Att) (C K c:Nat) (W:List Int) (T:Tp):Drw:=
 if W.length≠N.vars.length then ⟨6,[],Tp.nil⟩ else if C≤c then ⟨2,[],Tp.nil⟩ else if ra N.vars.length (inJ N W)=false then ⟨2,[],Tp.nil⟩
 else if N.hldB W=false then ⟨18,[],Tp.nil⟩ else N.prv att C K c W 64 T
def NSta.fstR (N:NSta) (R:Drw):List Nat:=if R.err=0 then N.imgs R.msk else []
def NSta.rspO (N:NSta) (c:Nat) (W:List Int) (R:Drw):List Int:=if R.err=0 then N.rspL c W R.msk else []
def PPost (w:World) (c:ByteArray) (R:Drw) (F:List Nat) (Y:List Int) (e:Ending) (w':World):Prop:=∃fv rv u ch,e=.returned (.tuple #[.agg #[fv,.string ch,rv],.agg #[u,.string R.tp.seed,.int .i64 R.tp.pos],.int .i64 (R.err:Int)]) ∧
 (ch=if R.err=0 then c else ⟨#[]⟩)∧NOwn w' w.heap.size fv F∧ZOwn w' w.heap.size rv Y∧SsAt w' u R.tp.vals∧Below w.heap.size w w'
theorem ppost_err {w w':World} {c:ByteArray} {k:Nat} {F:List Nat} {Y:List Int} (hk:k≠0) (hF:F=[]) (hY:Y=[]) (h:Below w.heap.size w w') :
  PPost w c ⟨k,[],Tp.nil⟩ F Y (.returned (.tuple #[.agg #[.slice none 0 0,.string ⟨#[]⟩,.slice none 0 0],.agg #[.slice none 0 0,.string ⟨#[]⟩,.int .i64 0],.int .i64 (k:Int)])) w':=
 ⟨_,_,_,_,rfl,by rw [if_neg hk],by rw [hF];exact World.ownsRow_nil _ _ _ _,by rw [hY];exact World.ownsRow_nil _ _ _ _,ss_nil _,h⟩
theorem prv_a {N:NSta} {att:Att} {C K c:Nat} {W:List Int} {T:Tp} (h:W.length≠N.vars.length):N.prvR att C K c W T=⟨6,[],Tp.nil⟩:=by unfold NSta.prvR;rw [if_pos h]
theorem prv_b {N:NSta} {att:Att} {C K c:Nat} {W:List Int} {T:Tp} (h:W.length=N.vars.length) (h1:C≤c):N.prvR att C K c W T=⟨2,[],Tp.nil⟩:=by unfold NSta.prvR;rw [if_neg (by omega),if_pos h1]
theorem prv_c {N:NSta} {att:Att} {C K c:Nat} {W:List Int} {T:Tp} (h:W.length=N.vars.length) (h1:c<C) (h2:ra N.vars.length (inJ N W)=false):N.prvR att C K c W T=⟨2,[],Tp.nil⟩:=by unfold NSta.prvR;rw [if_neg (by omega),if_neg (by omega),if_pos h2]
theorem prv_d {N:NSta} {att:Att} {C K c:Nat} {W:List Int} {T:Tp} (h:W.length=N.vars.length) (h1:c<C) (h2:ra N.vars.length (inJ N W)=true) (h3:N.hldB W=false):N.prvR att C K c W T=⟨18,[],Tp.nil⟩:=by
 unfold NSta.prvR;rw [if_neg (by omega),if_neg (by omega),if_neg (by rw [h2];decide),if_pos h3]
theorem prv_e {N:NSta} {att:Att} {C K c:Nat} {W:List Int} {T:Tp} (h:W.length=N.vars.length) (h1:c<C) (h2:ra N.vars.length (inJ N W)=true) (h3:N.hldB W=true):N.prvR att C K c W T=N.prv att C K c W 64 T:=by
 unfold NSta.prvR;rw [if_neg (by omega),if_neg (by omega),if_neg (by rw [h2];decide),if_neg (by rw [h3];decide)]
theorem prv_err {N:NSta} {att:Att} {C K c f:Nat} {W:List Int} {T:Tp} (h:(N.drwR att C K T).err≠0):N.prv att C K c W (f+1) T=⟨(N.drwR att C K T).err,[],Tp.nil⟩:=by
 rw [NSta.prv,if_pos h]
theorem prv_done {N:NSta} {att:Att} {C K c f:Nat} {W:List Int} {T:Tp} (h:(N.drwR att C K T).err=0) (h2:N.rsp2 C K c W (N.drwR att C K T).msk=0):N.prv att C K c W (f+1) T=N.drwR att C K T:=by
 rw [NSta.prv,if_neg (by omega),if_pos h2]
theorem prv_next {N:NSta} {att:Att} {C K c f:Nat} {W:List Int} {T:Tp} (h:(N.drwR att C K T).err=0) (h2:N.rsp2 C K c W (N.drwR att C K T).msk≠0):N.prv att C K c W (f+1) T=N.prv att C K c W f (N.drwR att C K T).tp:=by
 rw [NSta.prv,if_neg (by omega),if_neg h2]
theorem drw_inv {N:NSta} {att:Att} {C K:Nat} {T:Tp} (h:(N.drwR att C K T).err=0):N.drwR att C K T=⟨0,N.drwL att C K T,T.on N.vars.length⟩∧∀j,j<N.vars.length→(N.drw att C K T j).1=0:=by
 have hall:∀j,j<N.vars.length→(N.drw att C K T j).1=0:=by
  intro j hj;apply Classical.byContradiction
  intro hn;unfold NSta.drwR at h;split at h
  ·rename_i k hk;have:=List.find?_some hk;simp at this;exact this h
  ·rename_i hk;have:=List.find?_eq_none.1 hk j (List.mem_range.2 hj);simp at this;exact hn this
 exact ⟨drw_ok hall,hall⟩
theorem coin_lt {att:Att} {T:Tp} {n:Nat} (h:(coin att T n).1=0):(coin att T n).2<n:=by
 unfold coin at *;split at h
 ·simp at h
 ·rename_i h1;rw [if_neg h1];split at h
  ·simp at h
  ·rename_i h2;rw [if_neg h2];exact coinD_lt h
theorem csgn_lt {att:Att} {T:Tp} {m:Nat} (hm:m<256^60) (h:(csgn att T m).1=0):(csgn att T m).2.natAbs<256^64:=by
 have h9:256^60*2≤256^64:=by decide
 unfold csgn at *;split at h
 ·rename_i h1;exact absurd h h1
 ·rename_i h1;rw [if_neg h1];split at h
  ·rename_i h2;rw [if_pos h2];have:=coinD_lt h2;generalize (256:Nat)^60=x at *;generalize (256:Nat)^64=y at *;simp only [];omega
  ·rename_i h2;exact absurd h h2
theorem drw_size {N:NSta} (hm:NOk N) {att:Att} {C K:Nat} {T:Tp} (hC:C<256^16) (hK:K<256^16) (h:∀j,j<N.vars.length→(N.drw att C K T j).1=0):∀z∈N.drwL att C K T,z.natAbs<256^64:=by
 intro z hz;obtain ⟨j,hj,rfl⟩:=List.mem_map.1 hz;have hjl:=List.mem_range.1 hj;have h1:=h j hjl;rw [drw_at N att C K T j hjl] at h1 ⊢;have hl:=lims1_lt hm hC hK (List.getElem_mem hjl);unfold drwJ at *;split at h1
 ·rename_i h2;rw [if_pos h2];have h3:=coin_lt h1;simp only [Int.natAbs_natCast];exact Nat.lt_trans h3 (Nat.lt_of_lt_of_le hl (Nat.pow_le_pow_right (by decide) (by decide)))
 ·rename_i h2;rw [if_neg h2];exact csgn_lt hl h1
theorem pfail_c (k:Int) (w:World):Calls Tryz.prog 70 #[.int .i64 k] w fun e w'=>e=.returned (.tuple #[.agg #[.slice none 0 0,.string ⟨#[]⟩,.slice none 0 0],.agg #[.slice none 0 0,.string ⟨#[]⟩,.int .i64 0],.int .i64 k])∧Below w.heap.size w w':=by
 have hA:=blk2a w #[.slice none 0 0,.string ⟨#[]⟩,.slice none 0 0] #[.slice none 0 0,.string ⟨#[]⟩,.int .i64 0] 52 41;have hB:=blk2b w #[.slice none 0 0,.string ⟨#[]⟩,.slice none 0 0] #[.slice none 0 0,.string ⟨#[]⟩,.int .i64 0] 52 41;have hBW:=b2 w (.cells #[.slice none 0 0,.string ⟨#[]⟩,.slice none 0 0] 52) (.cells #[.slice none 0 0,.string ⟨#[]⟩,.int .i64 0] 41);have hAl:=hA.lt;have hBl:=hB.lt;obtain ⟨hAc0,hAf0,hAc1,hAf1,hAc2,hAf2⟩:=hA.x3;obtain ⟨hBc0,hBf0,hBc1,hBf1,hBc2,hBf2⟩:=hB.x3;go_enter Tryz.func70,Tryz.ntmps70
 go_wp2;refine bodyPost_ret (v:=.tuple #[.agg #[.slice none 0 0,.string ⟨#[]⟩,.slice none 0 0],.agg #[.slice none 0 0,.string ⟨#[]⟩,.int .i64 0],.int .i64 k]) ?_ rfl ⟨rfl,?_⟩
 ·simp [results,Tryz.results70,go_sem,hAc0,hAc1,hAc2,hBc0,hBc1,hBc2,hAl,hBl]
 ·exact hBW
end
section
open Go.RowKit Go.Shelf
theorem sprove_num (att:Att) (N:NSta) (C K c:Nat) (W:List Int) (T:Tp) (v1 v2 v3 vw vt:Value) (w:World) (hat:HAtt att T.seed w) (hok:T.Ok) (hC:C<256^16) (hK:K<256^16) (hm:NOk N) (hS:NAt w v1 v2 v3 N) (h0:N.chk=0)
  (hch:∀w',Below w.heap.size w w'→Calls Tryz.prog 42 #[.agg #[.string (E C),.string (E K)],.agg #[v1,v2,v3]] w' (BPost w' (N.lims C K)))
  (hW:ZsAt w vw W) (hV:SsAt w vt T.vals) (hc:c<256^100) (hwn:W.length≤1000) (hwz:∀z∈W,z.natAbs<256^64) (hq0:N.vars.any vz=true→0<N.ord) :
  Calls Tryz.prog 25 #[.agg #[.string (E C),.string (E K)],.agg #[v1,v2,v3],vw,.string (E c),.agg #[vt,.string T.seed,.int .i64 T.pos]] w (PPost w (E c) (N.prvR att C K c W T) (N.fstR (N.prvR att C K c W T)) (N.rspO c W (N.prvR att C K c W T))):=by
 obtain ⟨RR,hrr⟩:∃r,r=N.prvR att C K c W T:=⟨_,rfl⟩;obtain ⟨RF,hrf⟩:∃r,r=N.fstR RR:=⟨_,rfl⟩;obtain ⟨RY,hry⟩:∃r,r=N.rspO c W RR:=⟨_,rfl⟩;have HRR:=Lib.hid hrr;rw [←hrr,←hrf,←hry]
 have HER:Hid (∀k,k≠0→N.prvR att C K c W T=⟨k,[],Tp.nil⟩→RR=⟨k,[],Tp.nil⟩∧RF=[]∧RY=[]):=fun k hk h=>by
  have e:=hrr.trans h;exact ⟨e,by rw [hrf,e];unfold NSta.fstR;rw [if_neg hk],by rw [hry,e];unfold NSta.rspO;rw [if_neg hk]⟩
 have HOKR:Hid (RR.err=0→RF=N.imgs RR.msk∧RY=N.rspL c W RR.msk):=fun h=>⟨by rw [hrf];unfold NSta.fstR;rw [if_pos h],by rw [hry];unfold NSta.rspO;rw [if_pos h]⟩
 have HER2:Hid (∀k,k≠0→RR=⟨k,[],Tp.nil⟩→RF=[]∧RY=[]):=fun k hk e=>⟨by rw [hrf,e];unfold NSta.fstR;rw [if_neg hk],by rw [hry,e];unfold NSta.rspO;rw [if_neg hk]⟩
 clear hrr hrf hry;have HCH:=Lib.hid hch
 have HVW:Hid (∀w',Below w.heap.size w w'→Calls Tryz.prog 48 #[vw] w' fun e w''=>e=.returned (.bool true)∧Below w'.heap.size w' w''):=fun w' hb =>
  svalidV_c (W.map zI) vw true w' (by rw [List.length_map];exact hwn) (fun x hx=>by obtain ⟨z,hz',rfl⟩:=List.mem_map.1 hx;exact Nat.le_trans ((E_size_le _ 64).2 (hwz z hz')) (by decide)) (hW.after hb) (by rw [List.all_map,List.all_eq_true];intro z hz';exact ivB_I z (lt64 (hwz z hz')))
 have HVC:Hid (∀w,Calls Tryz.prog 49 #[.string (E c)] w fun e w'=>e=.returned (.bool true)∧w=w'):=fun w=>validE_c c w (Nat.lt_of_lt_of_le hc (Nat.pow_le_pow_right (by decide) (by decide)))
 have HCM:Hid (∀w,Calls Tryz.prog 50 #[.string (E c),.string (E C)] w fun e w'=>e=.returned (.int .i64 (cmpN c C))∧w=w'):=fun w=>cmp_c c C w (Nat.lt_of_lt_of_le hc (Nat.pow_le_pow_right (by decide) (by decide))) (Nat.lt_of_lt_of_le hC (Nat.pow_le_pow_right (by decide) (by decide)))
 obtain ⟨bi,hbi⟩:∃b:Bool,b=ra N.vars.length (inJ N W):=⟨_,rfl⟩;have HBI:=Lib.hid hbi;have HIN:Hid (W.length=N.vars.length→∀w',Below w.heap.size w w'→Calls Tryz.prog 51 #[.agg #[v1,v2,v3],vw] w' fun e w''=>e=.returned (.bool bi)∧Below w'.heap.size w' w''):=fun h w' hb=>by rw [hbi];exact sinr_c N W v1 v2 v3 vw w' hm (hS.after hb) (hW.after hb) hwz h
 obtain ⟨bh,hbh⟩:∃b:Bool,b=N.hldB W:=⟨_,rfl⟩;have HBH:=Lib.hid hbh
 have HHO:Hid (W.length=N.vars.length→∀w',Below w.heap.size w w'→Calls Tryz.prog 71 #[.agg #[v1,v2,v3],vw] w' fun e w''=>e=.returned (.tuple #[.bool bh,.int .i64 0])∧Below w'.heap.size w' w''):=fun h w' hb=>by
  have h1:=holds_c N W v1 v2 v3 vw w' hm (hS.after hb) (hW.after hb) hwz hwn h0;rw [←hbh,show N.hldE W=0 by unfold NSta.hldE;rw [if_neg (by omega)]] at h1;exact h1
 have HDW:Hid (∀(Ti:Tp) (B:Nat) (vl u:Value) w',HAtt att Ti.seed w→Ti.Ok→Below w.heap.size w w'→LmOwn w' B vl (N.lims C K)→SsAt w' u Ti.vals→Calls Tryz.prog 72 #[.agg #[v1,v2,v3],vl,.agg #[u,.string Ti.seed,.int .i64 Ti.pos]] w' (DWPost w' u (N.drwR att C K Ti))):=fun Ti B vl u w' ha ho hb hL hu =>
  sdraw_c att N C K B Ti v1 v2 v3 vl u w' (ha.after hb) ho hC hK hm (hS.after hb) hL hu
 have HIM:Hid (∀(Z:List Int) (vz:Value) w',Below w.heap.size w w'→ZsAt w' vz Z→(∀z∈Z,z.natAbs<256^64)→Z.length=N.vars.length→Calls Tryz.prog 62 #[.agg #[v1,v2,v3],vz] w' (LPost w' (N.imgs Z))):=fun Z vz w' hb hz h1 h2=>Images_c N Z v1 v2 v3 vz w' hm (hS.after hb) hz h1 h2 h0
 have HRS:Hid (c<C→W.length=N.vars.length→∀(M:List Int) (B:Nat) (vl vm:Value) w',Below w.heap.size w w'→LmOwn w' B vl (N.lims C K)→ZsAt w' vm M→(∀z∈M,z.natAbs<256^64)→M.length=N.vars.length→Calls Tryz.prog 53 #[.agg #[v1,v2,v3],vl,vw,vm,.string (E c)] w' (EPost w' (N.rsp2 C K c W M) (N.rspR2 C K c W M))):=fun hcc h1 M B vl vm w' hb hL hz hzz h2 =>
  srespond_c N C K c B W M v1 v2 v3 vl vw vm w' hC hK hm (hS.after hb) hL (hW.after hb) hz (Nat.lt_trans hcc hC) h1 h2 hwz hzz hq0
 have HDI:Hid (∀Ti,(N.drwR att C K Ti).err=0→(N.drwR att C K Ti).tp=Ti.on N.vars.length∧(N.drwR att C K Ti).msk.length=N.vars.length∧∀z∈(N.drwR att C K Ti).msk,z.natAbs<256^64):=fun Ti h=>by
  obtain ⟨e,ha⟩:=drw_inv h;rw [e];exact ⟨rfl,by simp [NSta.drwL],drw_size hm hC hK ha⟩
 have HDE:Hid (∀Ti,(N.drwR att C K Ti).err≠0→N.drwR att C K Ti=⟨(N.drwR att C K Ti).err,[],Tp.nil⟩):=fun Ti h=>by
  unfold NSta.drwR at *;split
  ·rfl
  ·rename_i hn;rw [hn] at h;exact absurd rfl h
 have HAT:=Lib.hid hat;have HOK:=Lib.hid hok;obtain ⟨a4,c4,rfl⟩:=hW.form;obtain ⟨a5,c5,rfl⟩:=RAt.form hV;obtain ⟨nt,hnt⟩:∃n,n=T.vals.length:=⟨_,rfl⟩;rw [←hnt] at hV ⊢;obtain ⟨nw,hnw⟩:∃n,n=W.length:=⟨_,rfl⟩;have HNW:=Lib.hid hnw;rw [←hnw] at hW HVW HIN HHO HRS ⊢;obtain ⟨a1,c1,a2,c2,a3,c3,rfl,rfl,rfl⟩:=hS.forms;obtain ⟨n1,hn1⟩:∃n,n=N.grps.length:=⟨_,rfl⟩;obtain ⟨n2,hn2⟩:∃n,n=N.vars.length:=⟨_,rfl⟩;obtain ⟨n3,hn3⟩:∃n,n=N.eqs.length:=⟨_,rfl⟩;have HN2:=Lib.hid hn2;have l2:n2≤12:=by rw [hn2];exact hm.nv
 have lw:nw≤1000:=by rw [hnw];exact hwn
 rw [←hn1,←hn2,←hn3] at hS HCH HDW HIM ⊢;rw [←hn1,←hn2,←hn3] at HIN HHO HRS;rw [←hn2] at HDI;clear hm hn1 hn2 hn3 hnw hC hK hc hch hwn hwz hq0 hbi hbh hat hok h0 hW hnt;obtain ⟨hR,hP,hT,hF,hQ,hBW⟩:=blk5 w #[.string (E C),.string (E K)] #[.slice a1 n1 c1,.slice a2 n2 c2,.slice a3 n3 c3] #[.slice a5 nt c5,.string T.seed,.int .i64 T.pos] #[.slice none 0 0,.string ⟨#[]⟩,.slice none 0 0] #[.slice none 0 0,.string ⟨#[]⟩,.int .i64 0] 24 29 41 52 41;obtain ⟨gS,hgS⟩:∃g,w.heap.size+1=g:=⟨_,rfl⟩;obtain ⟨gT,hgT⟩:∃g,w.heap.size+1+1=g:=⟨_,rfl⟩;obtain ⟨gF,hgF⟩:∃g,w.heap.size+1+1+1=g:=⟨_,rfl⟩;obtain ⟨gQ,hgQ⟩:∃g,w.heap.size+1+1+1+1=g:=⟨_,rfl⟩;have HG1:=Lib.hid hgS;have HG2:=Lib.hid hgT;have HG3:=Lib.hid hgF;have HG4:=Lib.hid hgQ;have HGW:Hid (w.heap.size≤gT∧w.heap.size≤gF∧w.heap.size≤gQ∧gS≠gT∧gF≠gT∧gQ≠gT∧gF≠gQ):=by rw [Hid];omega
 have hFT0:FarS (.slice a5 nt c5) gT:=ss_far hV (by omega);have hFF0:FarS (.slice a5 nt c5) gF:=ss_far hV (by omega);have hFQ0:FarS (.slice a5 nt c5) gQ:=ss_far hV (by omega);clear hgS hgT hgF hgQ;replace hS:=hS.after hBW;replace hV:=SsAt.after hV hBW;obtain ⟨hRc0,hRf0,hRc1,hRf1⟩:=hR.x2;obtain ⟨hPc0,hPf0,hPc1,hPf1,hPc2,hPf2⟩:=hP.x3;go_enter Tryz.func25,Tryz.ntmps25
 go_upto_region 1 with fail
 go_step3
 go_wp2_with fail
 refine (HCH.out _ hBW).mono ?_;rintro e w2 ⟨lv,rfl,hL,hb2⟩;clear hRc0 hRf0 hRc1 hRf1;clear hPc0 hPf0 hPc1 hPf1 hPc2 hPf2;replace hR:=hR.after hb2;replace hP:=hP.after hb2;replace hT:=hT.after hb2;replace hF:=hF.after hb2;replace hQ:=hQ.after hb2;replace hV:=SsAt.after hV hb2;replace hBW:=bt hBW hb2;clear hb2 HCH hS;rw [HG4.out] at hQ;rw [HG3.out] at hF;rw [HG2.out] at hT;rw [HG1.out] at hP;rw [HG4.out,HG3.out,HG2.out,HG1.out];clear HG1 HG2 HG3 HG4;replace hR:Blk w2 w.heap.size 24 [.string (E C),.string (E K)]:=hR;replace hP:Blk w2 gS 29 [.slice a1 n1 c1,.slice a2 n2 c2,.slice a3 n3 c3]:=hP;replace hT:Blk w2 gT 41 [.slice a5 nt c5,.string T.seed,.int .i64 T.pos]:=hT;replace hF:Blk w2 gF 52 [.slice none 0 0,.string ⟨#[]⟩,.slice none 0 0]:=hF;replace hQ:Blk w2 gQ 41 [.slice none 0 0,.string ⟨#[]⟩,.int .i64 0]:=hQ;obtain ⟨a6,c6,rfl⟩:=hL.form;obtain ⟨B,hB⟩:∃B,LmOwn w2 B (.slice a6 (N.lims C K).length c6) (N.lims C K):=⟨_,hL⟩;clear hL;have HLL:Hid ((N.lims C K).length=n2):=by rw [Hid,NSta.lims,List.length_map,HN2.out]
 rw [HLL.out] at hB ⊢;have hq1:¬ gF=gQ:=HGW.out.2.2.2.2.2.2;have hq2:¬ gQ=gF:=fun e=>hq1 e.symm
 go_wp2_with fail
 refine (HVW.out _ hBW).mono ?_;rintro e w3 ⟨rfl,hb3⟩;replace hR:=hR.after hb3;replace hP:=hP.after hb3;replace hT:=hT.after hb3;replace hF:=hF.after hb3;replace hQ:=hQ.after hb3;replace hB:=hB.after hb3;replace hV:=SsAt.after hV hb3;replace hBW:=bt hBW hb3;clear hb3 HVW;go_wp2_with fail
 refine (HVC.out _).mono ?_;rintro e w' ⟨rfl,rfl⟩;clear HVC;by_cases hln:nw=n2
 ·have HL1:Hid (W.length=N.vars.length):=by rw [Hid,←HNW.out,←HN2.out];exact hln
  have HIN2:=Lib.hid (HIN.out hln);have HHO2:=Lib.hid (HHO.out hln);clear HIN HHO;subst hln;rcases Nat.lt_or_ge c C with hcl | hcg
  ·have hcm:=cmp_neg c C hcl;have hcm2:¬ 0≤cmpN c C:=by omega
   have hd:decide (0≤cmpN c C)=false:=decide_eq_false hcm2;have HCL:=Lib.hid hcl;clear hcl hcm;generalize cmpN c C=q at HCM hd hcm2;have HRS2:=Lib.hid (HRS.out HCL.out rfl);clear HRS;obtain ⟨hRc0,hRf0,hRc1,hRf1⟩:=hR.x2;obtain ⟨hPc0,hPf0,hPc1,hPf1,hPc2,hPf2⟩:=hP.x3;go_wp2_with fail
   refine (HCM.out _).mono ?_;rintro e w' ⟨rfl,rfl⟩;clear HCM;go_wp2_with fail
   refine (HIN2.out _ hBW).mono ?_;rintro e w4 ⟨rfl,hb4⟩;clear hRc0 hRf0 hRc1 hRf1;clear hPc0 hPf0 hPc1 hPf1 hPc2 hPf2;replace hR:=hR.after hb4;replace hP:=hP.after hb4;replace hT:=hT.after hb4;replace hF:=hF.after hb4;replace hQ:=hQ.after hb4;replace hB:=hB.after hb4;replace hV:=SsAt.after hV hb4;replace hBW:=bt hBW hb4;clear hb4 HIN2 hd hcm2;cases bi
   ·have HX:=Lib.hid (HER.out 2 (by decide) (prv_c (att:=att) (K:=K) (T:=T) HL1.out HCL.out HBI.out.symm));go_wp2_with fail
    refine (pfail_c _ _).mono ?_;rintro e wf ⟨rfl,hbf⟩;have hFf:=hF.after hbf;have hQf:=hQ.after hbf;have hFl:=hFf.lt;have hQl:=hQf.lt;have hbw:=bt hBW hbf;obtain ⟨hFfc0,hFff0,hFfc1,hFff1,hFfc2,hFff2⟩:=hFf.x3;obtain ⟨hQfc0,hQff0,hQfc1,hQff1,hQfc2,hQff2⟩:=hQf.x3;go_wp2;(try rw [Exit.noGoto_ret])
    refine bodyPost_ret (v:=.tuple #[.agg #[.slice none 0 0,.string ⟨#[]⟩,.slice none 0 0],.agg #[.slice none 0 0,.string ⟨#[]⟩,.int .i64 0],.int .i64 2]) ?_ rfl ?_
    ·simp [results,Tryz.results25,go_sem,hFfc0,hFfc1,hFfc2,hQfc0,hQfc1,hQfc2,hFl,hQl,hq1,hq2]
    ·rw [HX.out.2.1,HX.out.2.2,HX.out.1];exact ppost_err (by decide) rfl rfl ((((((hbw.setCell HGW.out.2.1 _).setCell HGW.out.2.1 _).setCell HGW.out.2.1 _).setCell HGW.out.2.2.1 _).setCell HGW.out.2.2.1 _).setCell HGW.out.2.2.1 _)
   ·clear hR;obtain ⟨hPc0,hPf0,hPc1,hPf1,hPc2,hPf2⟩:=hP.x3;go_wp2_with fail
    refine (HHO2.out _ hBW).mono ?_;rintro e w5 ⟨rfl,hb5⟩;clear hPc0 hPf0 hPc1 hPf1 hPc2 hPf2;replace hP:=hP.after hb5;replace hT:=hT.after hb5;replace hF:=hF.after hb5;replace hQ:=hQ.after hb5;replace hB:=hB.after hb5;replace hV:=SsAt.after hV hb5;replace hBW:=bt hBW hb5;clear hb5 HHO2;cases bh
    ·have HX:=Lib.hid (HER.out 18 (by decide) (prv_d (att:=att) (K:=K) (T:=T) HL1.out HCL.out HBI.out.symm HBH.out.symm));go_wp2_with fail
     refine (pfail_c _ _).mono ?_;rintro e wf ⟨rfl,hbf⟩;have hFf:=hF.after hbf;have hQf:=hQ.after hbf;have hFl:=hFf.lt;have hQl:=hQf.lt;have hbw:=bt hBW hbf;obtain ⟨hFfc0,hFff0,hFfc1,hFff1,hFfc2,hFff2⟩:=hFf.x3;obtain ⟨hQfc0,hQff0,hQfc1,hQff1,hQfc2,hQff2⟩:=hQf.x3;go_wp2;(try rw [Exit.noGoto_ret])
     refine bodyPost_ret (v:=.tuple #[.agg #[.slice none 0 0,.string ⟨#[]⟩,.slice none 0 0],.agg #[.slice none 0 0,.string ⟨#[]⟩,.int .i64 0],.int .i64 18]) ?_ rfl ?_
     ·simp [results,Tryz.results25,go_sem,hFfc0,hFfc1,hFfc2,hQfc0,hQfc1,hQfc2,hFl,hQl,hq1,hq2]
     ·rw [HX.out.2.1,HX.out.2.2,HX.out.1];exact ppost_err (by decide) rfl rfl ((((((hbw.setCell HGW.out.2.1 _).setCell HGW.out.2.1 _).setCell HGW.out.2.1 _).setCell HGW.out.2.2.1 _).setCell HGW.out.2.2.1 _).setCell HGW.out.2.2.1 _)
    ·have HPR:Hid (RR=N.prv att C K c W 64 T):=HRR.out.trans (prv_e (att:=att) (K:=K) (T:=T) HL1.out HCL.out HBI.out.symm HBH.out.symm);clear HER HRR HBI HBH;have HW5:Hid (gS<w5.heap.size∧gT<w5.heap.size∧gF<w5.heap.size∧gQ<w5.heap.size):=⟨hP.lt,hT.lt,hF.lt,hQ.lt⟩;go_wp2;go_step3
     go_wp2;go_loopw [101] (fun v wr=>∃(i:Nat) (Ti:Tp) (uo:Option Addr) (um uc:Nat),i≤64∧v=.int .i64 i∧Hid (RR=N.prv att C K c W (64-i) Ti∧Ti.seed=T.seed∧Ti.Ok)∧Blk wr gS 29 [.slice a1 n1 c1,.slice a2 nw c2,.slice a3 n3 c3]∧Blk wr gT 41 [.slice uo um uc,.string Ti.seed,.int .i64 Ti.pos]∧Blk wr gF 52 [.slice none 0 0,.string ⟨#[]⟩,.slice none 0 0]∧Blk wr gQ 41 [.slice none 0 0,.string ⟨#[]⟩,.int .i64 0]∧LmOwn wr B (.slice a6 nw c6) (N.lims C K)∧SsAt wr (.slice uo um uc) Ti.vals∧FarS (.slice uo um uc) gT∧FarS (.slice uo um uc) gF∧FarS (.slice uo um uc) gQ∧Hid (w5.heap.size≤wr.heap.size)∧Below w.heap.size w wr) (fun v _=>64-(intOf v).toNat)
     case atStart=>exact ⟨0,T,a5,nt,c5,by omega,rfl,⟨HPR.out,rfl,HOK.out⟩,hP,hT,hF,hQ,hB,hV,hFT0,hFF0,hFQ0,Nat.le_refl _,hBW⟩
     case round =>
      clear hP hT hF hQ hB hV hFT0 hFF0 hFQ0 hBW HPR;obtain ⟨i,Ti,uo,um,uc,hi,rfl,HPR,hP,hT,hF,hQ,hB,hV,hFT,hFF,hFQ,HSZ,hBW⟩:=hrel;obtain ⟨wp,hwp⟩:∃wp,wp=wr:=⟨_,rfl⟩;subst hwp;by_cases hlt:i<64
      ·obtain ⟨f,hf⟩:∃f,64-i=f+1:=⟨63-i,by omega⟩;have HFI:Hid (64-(i+1)=f):=by rw [Hid];omega
       rw [hf] at HPR;clear hf;have HDR:=Lib.hid (HDW.out Ti _ _ _ wp (by rw [HPR.out.2.1];exact HAT.out) HPR.out.2.2 hBW hB hV);have HPE:Hid ((N.drwR att C K Ti).err≠0→RR=⟨(N.drwR att C K Ti).err,[],Tp.nil⟩):=fun h=>HPR.out.1.trans (prv_err h)
       have HPD:Hid ((N.drwR att C K Ti).err=0→N.rsp2 C K c W (N.drwR att C K Ti).msk=0→RR=N.drwR att C K Ti):=fun h h2=>HPR.out.1.trans (prv_done h h2)
       have HPN:Hid ((N.drwR att C K Ti).err=0→N.rsp2 C K c W (N.drwR att C K Ti).msk≠0→RR=N.prv att C K c W f (N.drwR att C K Ti).tp):=fun h h2=>HPR.out.1.trans (prv_next h h2)
       have HDK:Hid ((N.drwR att C K Ti).err=0→(N.drwR att C K Ti).tp.seed=T.seed∧(N.drwR att C K Ti).tp.Ok∧(N.drwR att C K Ti).msk.length=nw∧∀z∈(N.drwR att C K Ti).msk,z.natAbs<256^64):=fun h=>by
        obtain ⟨e1,e2,e3⟩:=HDI.out Ti h;rw [e1];exact ⟨HPR.out.2.1,HPR.out.2.2.on _,e2,e3⟩
       clear HPR;generalize N.drwR att C K Ti=D at HDR HPE HPD HPN HDK;obtain ⟨ke,M,tD⟩:=D;simp only [] at HPE HPD HPN HDK;have hTl:=hT.lt;obtain ⟨hPc0,hPf0,hPc1,hPf1,hPc2,hPf2⟩:=hP.x3;obtain ⟨hTc0,hTf0,hTc1,hTf1,hTc2,hTf2⟩:=hT.x3;go_wp2_with fail
       refine HDR.out.mono ?_;rintro e w6 ⟨mv,u2,rfl,hMO,hU2,hFK,hb6⟩;clear hPc0 hPf0 hPc1 hPf1 hPc2 hPf2;clear hTc0 hTf0 hTc1 hTf1 hTc2 hTf2;simp only [] at hMO hU2 hFK ⊢;have f2T:=hFK gT hT.lt hFT;have f2F:=hFK gF hF.lt hFF;have f2Q:=hFK gQ hQ.lt hFQ;obtain ⟨u2o,u2c,rfl⟩:=RAt.form hU2;obtain ⟨ul,hul⟩:∃l,l=tD.vals.length:=⟨_,rfl⟩;rw [←hul] at hU2 f2T f2F f2Q ⊢;obtain ⟨mo,mc,rfl⟩:=hMO.zs.form;obtain ⟨ml,hml⟩:∃l,l=M.length:=⟨_,rfl⟩;have HML:=Lib.hid hml;rw [←hml] at hMO ⊢;clear hFK hV hFT hFF hFQ hTl hul hml HDR;have hbX:=bt hb6 (b1 w6 (.cells #[.slice u2o ul u2c,.string tD.seed,.int .i64 tD.pos] 41));have hX:=Blk.new w6 #[.slice u2o ul u2c,.string tD.seed,.int .i64 tD.pos] 41;replace hP:=hP.after hbX;replace hT:=hT.after hbX;replace hF:=hF.after hbX;replace hQ:=hQ.after hbX;replace hB:=hB.after hbX;replace hBW:=bt hBW hbX;have HSX:Hid (w5.heap.size≤w6.heap.size+1):=by have h:=Nat.le_trans HSZ.out hbX.size;rw [World.size_alloc] at h;exact h
       have hU3:=SsAt.after hU2 (b1 w6 (.cells #[.slice u2o ul u2c,.string tD.seed,.int .i64 tD.pos] 41));have hM3:ZOwn _ wp.heap.size (.slice mo ml mc) M:=own_after hMO (b1 w6 (.cells #[.slice u2o ul u2c,.string tD.seed,.int .i64 tD.pos] 41));clear hU2 hMO hb6 HSZ;by_cases hke:ke=0
       ·subst hke;have HDK2:=Lib.hid (HDK.out rfl);have HPD2:=Lib.hid (HPD.out rfl);have HPN2:=Lib.hid (HPN.out rfl);clear HPE HPD HPN HDK;go_upto_region 21 with fail
        generalize w6.alloc (.cells #[.slice u2o ul u2c,.string tD.seed,.int .i64 tD.pos] 41)=w7 at hbX hX hP hT hF hQ hB hBW hU3 hM3 ⊢;obtain ⟨gX,hgX⟩:∃g,w6.heap.size=g:=⟨_,rfl⟩;rw [hgX] at hX HSX ⊢;clear hgX;replace hX:Blk w7 gX 41 [.slice u2o ul u2c,.string tD.seed,.int .i64 tD.pos]:=hX;have hXl:=hX.lt;have hTl:=hT.lt;have hMt:=own_ne hM3 hT (by decide);have hBt:=own_ne hB hT (by decide);have hP8:=((hP.other ⟨gT,0,none⟩ (.slice u2o ul u2c) HGW.out.2.2.2.1).other ⟨gT,1,none⟩ (.string tD.seed) HGW.out.2.2.2.1).other ⟨gT,2,none⟩ (.int .i64 tD.pos) HGW.out.2.2.2.1;have hT8:=((hT.set 0 (.slice u2o ul u2c)).set 1 (.string tD.seed)).set 2 (.int .i64 tD.pos);have hF8:=((hF.other ⟨gT,0,none⟩ (.slice u2o ul u2c) HGW.out.2.2.2.2.1).other ⟨gT,1,none⟩ (.string tD.seed) HGW.out.2.2.2.2.1).other ⟨gT,2,none⟩ (.int .i64 tD.pos) HGW.out.2.2.2.2.1;have hQ8:=((hQ.other ⟨gT,0,none⟩ (.slice u2o ul u2c) HGW.out.2.2.2.2.2.1).other ⟨gT,1,none⟩ (.string tD.seed) HGW.out.2.2.2.2.2.1).other ⟨gT,2,none⟩ (.int .i64 tD.pos) HGW.out.2.2.2.2.2.1;have hB8:LmOwn (((w7.setCell ⟨gT,0,none⟩ (.slice u2o ul u2c)).setCell ⟨gT,1,none⟩ (.string tD.seed)).setCell ⟨gT,2,none⟩ (.int .i64 tD.pos)) B (.slice a6 nw c6) (N.lims C K):=own_set (own_set (own_set hB hBt) hBt) hBt;have hM8:ZOwn (((w7.setCell ⟨gT,0,none⟩ (.slice u2o ul u2c)).setCell ⟨gT,1,none⟩ (.string tD.seed)).setCell ⟨gT,2,none⟩ (.int .i64 tD.pos)) wp.heap.size (.slice mo ml mc) M:=own_set (own_set (own_set hM3 hMt) hMt) hMt;have hU8:=((hU3.set_far (i:=0) (x:=.slice u2o ul u2c) f2T).set_far (i:=1) (x:=.string tD.seed) f2T).set_far (i:=2) (x:=.int .i64 tD.pos) f2T;have hbw8:=((hBW.setCell (p:=⟨gT,0,none⟩) HGW.out.1 (.slice u2o ul u2c)).setCell (p:=⟨gT,1,none⟩) HGW.out.1 (.string tD.seed)).setCell (p:=⟨gT,2,none⟩) HGW.out.1 (.int .i64 tD.pos);have HS8:Hid (w5.heap.size≤(((w7.setCell ⟨gT,0,none⟩ (.slice u2o ul u2c)).setCell ⟨gT,1,none⟩ (.string tD.seed)).setCell ⟨gT,2,none⟩ (.int .i64 tD.pos)).heap.size):=by rw [Hid];have h:=HSX.out;have h2:=hXl;simp;omega
        obtain ⟨hXc0,hXf0,hXc1,hXf1,hXc2,hXf2⟩:=hX.x3;obtain ⟨hTc0,hTf0,hTc1,hTf1,hTc2,hTf2⟩:=hT.x3;go_upto_region 22 with fail
        clear hXc0 hXf0 hXc1 hXf1 hXc2 hXf2;clear hTc0 hTf0 hTc1 hTf1 hTc2 hTf2;clear hbX hX hP hT hF hQ hB hBW hU3 hM3 hXl hTl hMt hBt HSX;generalize ((w7.setCell ⟨gT,0,none⟩ (.slice u2o ul u2c)).setCell ⟨gT,1,none⟩ (.string tD.seed)).setCell ⟨gT,2,none⟩ (.int .i64 tD.pos)=w8 at hP8 hT8 hF8 hQ8 hB8 hM8 hU8 hbw8 HS8 ⊢;replace hT8:Blk w8 gT 41 [.slice u2o ul u2c,.string tD.seed,.int .i64 tD.pos]:=hT8;have HMZ:=Lib.hid HDK2.out.2.2.2;have HMN:=Lib.hid HDK2.out.2.2.1;have HI8:=Lib.hid (HIM.out M _ w8 hbw8 hM8.zs HMZ.out HMN.out);obtain ⟨hP8c0,hP8f0,hP8c1,hP8f1,hP8c2,hP8f2⟩:=hP8.x3;go_wp2_with fail
        refine HI8.out.mono ?_;rintro e w9 ⟨fv,rfl,hFO,hb9⟩;clear hP8c0 hP8f0 hP8c1 hP8f1 hP8c2 hP8f2;obtain ⟨fo,fc,rfl⟩:=RAt.form hFO.ss;obtain ⟨fl,hfl⟩:∃l,l=((N.imgs M).map E).length:=⟨_,rfl⟩;rw [←hfl] at hFO ⊢;replace hP8:=hP8.after hb9;replace hT8:=hT8.after hb9;replace hF8:=hF8.after hb9;replace hQ8:=hQ8.after hb9;replace hB8:=hB8.after hb9;have hM9:ZOwn w9 wp.heap.size (.slice mo ml mc) M:=own_after hM8 hb9;replace hU8:=SsAt.after hU8 hb9;have hs8:=hbw8.size;replace hFO:NOwn w9 w.heap.size (.slice fo fl fc) (N.imgs M):=own_mono hFO hs8;replace hbw8:=bt hbw8 hb9;have HS9:Hid (w5.heap.size≤w9.heap.size):=Nat.le_trans HS8.out hb9.size;clear hb9 HI8 hM8 HS8 hfl hs8;have HR9:=Lib.hid (HRS2.out M _ _ _ w9 hbw8 hB8 hM9.zs HMZ.out HMN.out);obtain ⟨hP8c0,hP8f0,hP8c1,hP8f1,hP8c2,hP8f2⟩:=hP8.x3;go_wp2_with fail
        refine HR9.out.mono ?_;rintro e wA ⟨rv,rfl,hYO,hbA⟩;clear hP8c0 hP8f0 hP8c1 hP8f1 hP8c2 hP8f2;obtain ⟨ro,rc,rfl⟩:=hYO.zs.form;obtain ⟨rl,hrl⟩:∃l,l=(N.rspR2 C K c W M).length:=⟨_,rfl⟩;rw [←hrl] at hYO ⊢;replace hP8:=hP8.after hbA;replace hT8:=hT8.after hbA;replace hF8:=hF8.after hbA;replace hQ8:=hQ8.after hbA;replace hB8:=hB8.after hbA;replace hU8:=SsAt.after hU8 hbA;have hFA:NOwn wA w.heap.size (.slice fo fl fc) (N.imgs M):=own_after hFO hbA;have hs9:=hbw8.size;replace hYO:ZOwn wA w.heap.size (.slice ro rl rc) (N.rspR2 C K c W M):=own_mono hYO hs9;replace hbw8:=bt hbw8 hbA;have HSA:Hid (w5.heap.size≤wA.heap.size):=Nat.le_trans HS9.out hbA.size;clear hbA HR9 hFO hM9 HS9 hrl hs9
        have HR15:Hid (N.rsp2 C K c W M=0∨N.rsp2 C K c W M=15):=by
         unfold Hid NSta.rsp2;split
         ·exact .inr rfl
         ·exact .inl rfl
        have HRL:Hid (N.rsp2 C K c W M=0→N.rspR2 C K c W M=N.rspL c W M):=fun h=>by unfold NSta.rspR2;rw [if_pos h]
        generalize N.rsp2 C K c W M=r2 at HR15 HRL HPD2 HPN2 ⊢;rcases HR15.out with h15 | h15
        ·subst h15;have HRR2:=Lib.hid (HPD2.out rfl);have HLL2:=Lib.hid (HRL.out rfl);rw [HLL2.out] at hYO;have hFt:=own_ne hFA hF8 (by decide);have hFq:=own_ne hFA hQ8 (by decide);have hYt:=own_ne hYO hF8 (by decide);have hYq:=own_ne hYO hQ8 (by decide);have hTl:=hT8.lt;have hFl:=hF8.lt;have hQl:=hQ8.lt;have n1':¬ gT=gF:=fun e=>HGW.out.2.2.2.2.1 e.symm
         have n2':¬ gT=gQ:=fun e=>HGW.out.2.2.2.2.2.1 e.symm
         obtain ⟨hT8c0,hT8f0,hT8c1,hT8f1,hT8c2,hT8f2⟩:=hT8.x3;obtain ⟨hF8c0,hF8f0,hF8c1,hF8f1,hF8c2,hF8f2⟩:=hF8.x3;obtain ⟨hQ8c0,hQ8f0,hQ8c1,hQ8f1,hQ8c2,hQ8f2⟩:=hQ8.x3;go_wp2_with fail
         go_region;go_wp2;(try rw [Exit.noGoto_ret])
         refine bodyPost_ret (v:=.tuple #[.agg #[.slice fo fl fc,.string (E c),.slice ro rl rc],.agg #[.slice u2o ul u2c,.string tD.seed,.int .i64 tD.pos],.int .i64 0]) ?_ rfl ?_
         ·simp [results,Tryz.results25,go_sem,hF8c0,hF8c1,hF8c2,hQ8c0,hQ8c1,hQ8c2,hFl,hQl,hq1,hq2]
         ·rw [(HOKR.out (by rw [HRR2.out])).1,(HOKR.out (by rw [HRR2.out])).2,HRR2.out];exact ⟨_,_,_,_,rfl,rfl,World.ownsRow.drew (own_set (own_set (own_set (own_set (own_set (own_set hFA hFt) hFt) hFt) hFq) hFq) hFq),World.ownsRow.drew (own_set (own_set (own_set (own_set (own_set (own_set hYO hYt) hYt) hYt) hYq) hYq) hYq),SsAt.after ((((((hU8.set_far f2F).set_far f2F).set_far f2F).set_far f2Q).set_far f2Q).set_far f2Q) (Below.drew (Below.refl _ _)),((((((hbw8.setCell HGW.out.2.1 _).setCell HGW.out.2.1 _).setCell HGW.out.2.1 _).setCell HGW.out.2.2.1 _).setCell HGW.out.2.2.1 _).setCell HGW.out.2.2.1 _).drew⟩
        ·subst h15;have HPX:=Lib.hid (HPN2.out (by decide));go_wp2;go_roundw
         case rel=>exact ⟨i+1,tD,u2o,ul,u2c,by omega,by go_num,⟨by rw [HFI.out];exact HPX.out,HDK2.out.1,HDK2.out.2.1⟩,hP8,hT8,hF8,hQ8,hB8,hU8,f2T,f2F,f2Q,HSA.out,hbw8⟩
         case measure=>simp [intOf];omega
       ·have hkb:((ke:Int) != 0)=true:=by rw [bne_iff_ne];omega
        have HXR:=Lib.hid (HPE.out hke);have HX:Hid (RR=⟨ke,[],Tp.nil⟩∧RF=[]∧RY=[]):=⟨HXR.out,HER2.out ke hke HXR.out⟩;have HKE:=Lib.hid hke;clear hke HPE HPD HPN HDK hU3 hM3 hX hbX hB hP hT;go_wp2_with fail
        refine (pfail_c _ _).mono ?_;rintro e wf ⟨rfl,hbf⟩;have hFf:=hF.after hbf;have hQf:=hQ.after hbf;have hFl:=hFf.lt;have hQl:=hQf.lt;have hbw:=bt hBW hbf;obtain ⟨hFfc0,hFff0,hFfc1,hFff1,hFfc2,hFff2⟩:=hFf.x3;obtain ⟨hQfc0,hQff0,hQfc1,hQff1,hQfc2,hQff2⟩:=hQf.x3;go_wp2;(try rw [Exit.noGoto_ret])
        refine bodyPost_ret (v:=.tuple #[.agg #[.slice none 0 0,.string ⟨#[]⟩,.slice none 0 0],.agg #[.slice none 0 0,.string ⟨#[]⟩,.int .i64 0],.int .i64 (ke:Int)]) ?_ rfl ?_
        ·simp [results,Tryz.results25,go_sem,hFfc0,hFfc1,hFfc2,hQfc0,hQfc1,hQfc2,hFl,hQl,hq1,hq2]
        ·rw [HX.out.2.1,HX.out.2.2,HX.out.1];exact ppost_err HKE.out rfl rfl ((((((hbw.setCell HGW.out.2.1 _).setCell HGW.out.2.1 _).setCell HGW.out.2.1 _).setCell HGW.out.2.2.1 _).setCell HGW.out.2.2.1 _).setCell HGW.out.2.2.1 _)
      ·obtain rfl:i=64:=by omega
       have HXR:Hid (RR=⟨15,[],Tp.nil⟩):=HPR.out.1;have HX:Hid (RR=⟨15,[],Tp.nil⟩∧RF=[]∧RY=[]):=⟨HXR.out,HER2.out 15 (by decide) HXR.out⟩;go_wp2_with fail
       refine (pfail_c _ _).mono ?_;rintro e wf ⟨rfl,hbf⟩;have hFf:=hF.after hbf;have hQf:=hQ.after hbf;have hFl:=hFf.lt;have hQl:=hQf.lt;have hbw:=bt hBW hbf;obtain ⟨hFfc0,hFff0,hFfc1,hFff1,hFfc2,hFff2⟩:=hFf.x3;obtain ⟨hQfc0,hQff0,hQfc1,hQff1,hQfc2,hQff2⟩:=hQf.x3;go_wp2;(try rw [Exit.noGoto_ret])
       refine bodyPost_ret (v:=.tuple #[.agg #[.slice none 0 0,.string ⟨#[]⟩,.slice none 0 0],.agg #[.slice none 0 0,.string ⟨#[]⟩,.int .i64 0],.int .i64 15]) ?_ rfl ?_
       ·simp [results,Tryz.results25,go_sem,hFfc0,hFfc1,hFfc2,hQfc0,hQfc1,hQfc2,hFl,hQl,hq1,hq2]
       ·rw [HX.out.2.1,HX.out.2.2,HX.out.1];exact ppost_err (by decide) rfl rfl ((((((hbw.setCell HGW.out.2.1 _).setCell HGW.out.2.1 _).setCell HGW.out.2.1 _).setCell HGW.out.2.2.1 _).setCell HGW.out.2.2.1 _).setCell HGW.out.2.2.1 _)
  ·have HX:=Lib.hid (HER.out 2 (by decide) (prv_b (att:=att) (K:=K) (T:=T) HL1.out hcg));have hd:decide (0≤cmpN c C)=true:=decide_eq_true (by have:=cmp_nneg c C hcg;omega);have hcm2:0≤cmpN c C:=of_decide_eq_true hd;clear hcg;generalize cmpN c C=q at HCM hd hcm2;obtain ⟨hRc0,hRf0,hRc1,hRf1⟩:=hR.x2;obtain ⟨hPc0,hPf0,hPc1,hPf1,hPc2,hPf2⟩:=hP.x3;go_wp2_with fail
   refine (HCM.out _).mono ?_;rintro e w' ⟨rfl,rfl⟩;go_wp2_with fail
   refine (pfail_c _ _).mono ?_;rintro e wf ⟨rfl,hbf⟩;have hFf:=hF.after hbf;have hQf:=hQ.after hbf;have hFl:=hFf.lt;have hQl:=hQf.lt;have hbw:=bt hBW hbf;obtain ⟨hFfc0,hFff0,hFfc1,hFff1,hFfc2,hFff2⟩:=hFf.x3;obtain ⟨hQfc0,hQff0,hQfc1,hQff1,hQfc2,hQff2⟩:=hQf.x3;go_wp2;(try rw [Exit.noGoto_ret])
   refine bodyPost_ret (v:=.tuple #[.agg #[.slice none 0 0,.string ⟨#[]⟩,.slice none 0 0],.agg #[.slice none 0 0,.string ⟨#[]⟩,.int .i64 0],.int .i64 2]) ?_ rfl ?_
   ·simp [results,Tryz.results25,go_sem,hFfc0,hFfc1,hFfc2,hQfc0,hQfc1,hQfc2,hFl,hQl,hq1,hq2]
   ·rw [HX.out.2.1,HX.out.2.2,HX.out.1];exact ppost_err (by decide) rfl rfl ((((((hbw.setCell HGW.out.2.1 _).setCell HGW.out.2.1 _).setCell HGW.out.2.1 _).setCell HGW.out.2.2.1 _).setCell HGW.out.2.2.1 _).setCell HGW.out.2.2.1 _)
 ·have HX:=Lib.hid (HER.out 6 (by decide) (prv_a (att:=att) (C:=C) (K:=K) (c:=c) (T:=T) (by rw [←HNW.out,←HN2.out];exact hln)));have h2:((nw:Int) != (n2:Int))=true:=by rw [bne_iff_ne];omega
  have h2':((nw:Int)==(n2:Int))=false:=by rw [beq_eq_false_iff_ne];omega
  clear hln;obtain ⟨hPc0,hPf0,hPc1,hPf1,hPc2,hPf2⟩:=hP.x3;go_wp2_with fail
  refine (pfail_c _ _).mono ?_;rintro e wf ⟨rfl,hbf⟩;have hFf:=hF.after hbf;have hQf:=hQ.after hbf;have hFl:=hFf.lt;have hQl:=hQf.lt;have hbw:=bt hBW hbf;obtain ⟨hFfc0,hFff0,hFfc1,hFff1,hFfc2,hFff2⟩:=hFf.x3;obtain ⟨hQfc0,hQff0,hQfc1,hQff1,hQfc2,hQff2⟩:=hQf.x3;go_wp2;(try rw [Exit.noGoto_ret])
  refine bodyPost_ret (v:=.tuple #[.agg #[.slice none 0 0,.string ⟨#[]⟩,.slice none 0 0],.agg #[.slice none 0 0,.string ⟨#[]⟩,.int .i64 0],.int .i64 6]) ?_ rfl ?_
  ·simp [results,Tryz.results25,go_sem,hFfc0,hFfc1,hFfc2,hQfc0,hQfc1,hQfc2,hFl,hQl,hq1,hq2]
  ·rw [HX.out.2.1,HX.out.2.2,HX.out.1];exact ppost_err (by decide) rfl rfl ((((((hbw.setCell HGW.out.2.1 _).setCell HGW.out.2.1 _).setCell HGW.out.2.1 _).setCell HGW.out.2.2.1 _).setCell HGW.out.2.2.1 _).setCell HGW.out.2.2.1 _)
end
end Go.Proofs.YtcfjcenmcpankaaGreatDoor
