import Derived.Test.YtihjpddbjhcbmaaGreatDoorCo4
import Derived.WalkMore
set_option linter.unusedVariables false
set_option linter.unusedSimpArgs false
set_option maxRecDepth 100000
set_option maxHeartbeats 16000000
namespace Go.Proofs.YtihjpddbjhcbmaaGreatDoor
section
open Go.RowKit Go.Shelf
def DWPost (w:World) (vt:Value) (R:Drw) (e:Ending) (w':World):Prop:=∃v u,e=.returned (.tuple #[v,.agg #[u,.string R.tp.seed,.int .i64 R.tp.pos],.int .i64 (R.err:Int)])∧ZOwn w' w.heap.size v R.msk∧SsAt w' u R.tp.vals∧(∀g,g<w.heap.size→FarS vt g→FarS u g)∧Bw w w'
theorem lims1_lt {N:NSta} (hm:NOk N) {C K:Nat} (hC:C<256^16) (hK:K<256^16) {b:Nat} (hb:b∈N.vars):(lim N.ord C K b).1<256^60:=by
 unfold lim;split
 ·exact Nl (ord_lt hm) P8
 ·exact Nl (lt_mul3 hC hK (hm.v b hb)).2 P8
theorem sdraw_c (att:Att) (N:NSta) (C K B:Nat) (T:Tp) (v1 v2 v3 vl vt:Value) (w:World) (Hm:HAtt att T.seed w) (jJ:T.Ok) (hC:C<256^16) (hK:K<256^16) (hm:NOk N) (hS:NAt w v1 v2 v3 N) (hL:LmOwn w B vl (N.lims C K)) (hV:SsAt w vt T.vals) :
  Calls Tryz.prog 81 #[.agg #[v1,v2,v3],vl,.agg #[vt,.string T.seed,.int .i64 T.pos]] w (DWPost w vt (N.drwR att C K T)):=by
 obtain⟨i1,jK,Hu,Hv,Hw⟩:=info_parts info_Int;have jL:=Kh jK;have jM:=Kh Hu;have jN:=Kh Hv;have jO:=Kh Hw;clear jK Hu Hv Hw;have j4:=Kh Hm;have j5:=Kh jJ;have j6:=Kh (fun b hb=>lims1_lt hm hC hK (b:=b) hb);obtain⟨RR,jc⟩:∃r,r=N.drwR att C K T:=⟨_,rfl⟩;have jP:=Kh jc;rw[←jc];clear jc;obtain⟨at_,ct,rfl⟩:=RAt.form hV;obtain⟨nt,jd⟩:∃n,n=T.vals.length:=⟨_,rfl⟩;have Jg:=Kh jd;rw[←jd]at hV ⊢;obtain⟨a6,c6,rfl⟩:=hL.form;have jQ:Hid ((N.lims C K).length=N.vars.length):=by rw[Hid,NSta.lims,List.length_map]
 rw[jQ.out]at hL ⊢;obtain⟨a1,c1,a2,c2,a3,c3,rfl,rfl,rfl⟩:=hS.forms;obtain⟨n1,jR⟩:∃n,n=N.grps.length:=⟨_,rfl⟩;obtain⟨n2,Hx⟩:∃n,n=N.vars.length:=⟨_,rfl⟩;obtain⟨n3,jS⟩:∃n,n=N.eqs.length:=⟨_,rfl⟩;have H1:=Kh Hx;have l2:n2≤12:=by rw[Hx];exact hm.nv
 rw[←jR,←Hx,←jS]at hS ⊢;rw[←Hx]at hL;clear hm jR Hx jS hC hK Hm jJ jd;obtain⟨hP,hT,hR,hJ⟩:=blk3 w #[.slice a1 n1 c1,.slice a2 n2 c2,.slice a3 n3 c3] #[.slice at_ nt ct,.string T.seed,.int .i64 T.pos] #[.slice none 0 0,.string ⟨#[]⟩,.int .i64 0] 29 33 33;obtain⟨gT,jT⟩:∃g,w.heap.size+1=g:=⟨_,rfl⟩;obtain⟨gR,je⟩:∃g,w.heap.size+1+1=g:=⟨_,rfl⟩;have Hy:w.heap.size+2=gR:=je;obtain⟨gS,jU⟩:∃g,w.heap.size=g:=⟨_,rfl⟩;have H2:=Kh jT;have jV:=Kh je;have jf:=Kh Hy;have jg:=Kh jU;have Hz:FarS (.slice at_ nt ct) gT:=ss_far hV (by omega);have HA:FarS (.slice at_ nt ct) gR:=ss_far hV (by omega);have hd:Hid (w.heap.size≤gT∧w.heap.size≤gR∧gS≠gT∧gS≠gR∧gT≠gR):=by rw[Hid];omega
 clear jT je Hy jU;have jh:=SsAt.after hV hJ;obtain⟨ji,jj,jk,jl,jm,jn⟩:=hP.x3;go_enter Tryz.func81,Tryz.ntmps81
 go_wp2;clear ji jj jk jl jm jn;generalize j7:((w.alloc (.cells #[.slice a1 n1 c1,.slice a2 n2 c2,.slice a3 n3 c3] 29)).alloc (.cells #[.slice at_ nt ct,.string T.seed,.int .i64 T.pos] 33)).alloc (.cells #[.slice none 0 0,.string ⟨#[]⟩,.int .i64 0] 33)=w1 at hP hT hR hJ jh ⊢
 have HB:Hid (gS<w1.heap.size∧gT<w1.heap.size∧gR<w1.heap.size):=by
  have h:=hR.lt;have h2:=jf.out;have h3:=H2.out;have h4:=jg.out;rw[Hid];omega
 have HC:Hid (w.heap.size≤w1.heap.size):=hJ.size;clear j7;rw[jf.out]at hR;rw[H2.out]at hT;rw[jg.out]at hP;rw[jV.out,H2.out,jg.out];clear H2 jV jf;replace hP:Blk w1 gS 29 [.slice a1 n1 c1,.slice a2 n2 c2,.slice a3 n3 c3]:=hP;replace hT:Blk w1 gT 33 [.slice at_ nt ct,.string T.seed,.int .i64 T.pos]:=hT;replace hR:Blk w1 gR 33 [.slice none 0 0,.string ⟨#[]⟩,.int .i64 0]:=hR;go_loopw [9,17] (fun v9 i wr=>∃(k:Nat) (uo:Option Addr) (um uc:Nat),k≤n2∧i=.int .i64 k∧Hid (∀j,j<k→(N.drw att C K T j).1=0)∧ZOwn wr w1.heap.size v9 ((N.drwL att C K T).take k)∧Blk wr gS 29 [.slice a1 n1 c1,.slice a2 n2 c2,.slice a3 n3 c3]∧Blk wr gT 33 [.slice uo um uc,.string T.seed,.int .i64 (T.pos+(k:Int))]∧Blk wr gR 33 [.slice none 0 0,.string ⟨#[]⟩,.int .i64 0]∧SsAt wr (.slice uo um uc) T.vals∧FarS (.slice uo um uc) gT∧FarS (.slice uo um uc) gR∧(∀g,g<w.heap.size→FarS (.slice at_ nt ct) g→FarS (.slice uo um uc) g)∧Hid (w1.heap.size≤wr.heap.size)∧Bw w wr) (fun _ i _=>n2-(intOf i).toNat)
 case atStart=>exact⟨0,at_,nt,ct,by omega,rfl,fun j h=>absurd h (Nat.not_lt_zero _),World.ownsRow_nil _ _ _ _,hP,by rw[show T.pos+((0:Nat):Int)=T.pos by omega];exact hT,hR,jh,Hz,HA,fun g _ h=>h,Nat.le_refl _,hJ⟩
 case round =>
  clear hP hT hR jh Hz HA hJ;obtain⟨k,uo,um,uc,hk,rfl,H3,hO,hP,hT,hR,hU,Hn,hM,hX,hZ,HD⟩:=hrel;obtain⟨wp,j8⟩:∃wp,wp=wr:=⟨_,rfl⟩;subst j8;have j9:=Kh hX;clear hX;by_cases hlt:k<n2
  ·have hY:k<N.vars.length:=by rw[←H1.out];exact hlt
   have jW:k<(N.lims C K).length:=by rw[jQ.out];exact hY
   have H4:=Kh (drw_step N att C K T k hY);have h0:=Kh (drw_at N att C K T k hY);obtain⟨bv,ov,rfl,Ja,x1⟩:=(hS.after HD).vat hY;obtain⟨bu,rfl,jo,u1,u2⟩:=(hL.after HD).at_ jW;rw[lims_at N C K k hY jW]at u1 u2;have h5:=Kh (j6.out _ (Gm hY));have h6:Hid ((N.drw att C K T k).1≠0→RR=⟨(N.drw att C K T k).1,[],Tp.nil⟩):=fun h=>jP.out.trans (drw_bad hY H3.out h)
   have h7:Hid ((N.drw att C K T k).1=0→∀j,j<k+1→(N.drw att C K T j).1=0):=fun h j hj=>by
    by_cases e:j=k
    ·rw[e];exact h
    ·exact H3.out j (by omega)
   clear H3;generalize N.drw att C K T k=dk at h0 h6 h7 H4;generalize (N.vars[k]'hY)=vb at x1 u1 u2 h5 h0;generalize (lim N.ord C K vb).2=lb at u2;have H5:Hid (((N.drwL att C K T).take k).length=k):=by rw[Hid,List.length_take,NSta.drwL,List.length_map,List.length_range];omega
   generalize (N.drwL att C K T).take k=LI at hO H4 H5;replace hO:wp.ownsRow w1.heap.size 74 2 u9 k (ics (LI.map zI)):=by have h:wp.ownsRow _ _ _ _ _ _:=hO;rw[H5.out]at h;exact h
   have Jh:(0:Int)≤(k:Int):=by omega
   have Ji:(k:Int)<(n2:Int):=by omega
   obtain⟨Tk,Ho⟩:∃t,t=T.on k:=⟨_,rfl⟩;have HE:Hid (Tk.vals=T.vals∧Tk.seed=T.seed∧Tk.pos=T.pos+(k:Int)):=by rw[Hid,Ho];exact⟨rfl,rfl,rfl⟩
   have jX:Hid (Tk.after 0=T.on (k+1)):=by rw[Hid,Ho];exact Tp.on_on T k 1
   have H6:Hid (Tk.Ok):=by rw[Hid,Ho];exact j5.out.on k
   have H7:Hid (HAtt att Tk.seed w):=by rw[Hid,Ho];exact j4.out
   rw[←Ho]at h0;clear Ho;rw[←HE.out.1]at hU;have jY:=Kh HE.out.2;rw[←jY.out.1,←jY.out.2]at hT;clear HE;have jZ:Hid (∀w,Calls Tryz.prog 179 #[.agg #[.string (E vb)]] w fun e w'=>e=.returned (.int .i64 (kdN vb:Nat))∧Bw w w'):=fun w=>kindV_c vb _ w rfl
   obtain⟨j0,j1,j2⟩:=blk2 wp #[.string (E vb)] #[.bool false,.string { data:=#[] }] 71 74;obtain⟨gv,j3⟩:∃g,wp.heap.size=g:=⟨_,rfl⟩;obtain⟨gB,Hp⟩:∃g,wp.heap.size+1=g:=⟨_,rfl⟩;have HF:Hid (w1.heap.size≤gB∧wp.heap.size<gB+1∧wp.heap.size+1=gB):=by have:=hZ.out;rw[Hid];omega
   have Jj:=Kh j3;clear j3 Hp;obtain⟨HG,HH⟩:=j0.x1;go_wp2_with fail
   refine (jZ.out _).mono ?_;rintro e w2 ⟨rfl,jp⟩;clear HG HH;have ho:=bt j2 jp;have hN:=j1.after jp;have H8:=own_after hO ho;have H9:=hP.after ho;have Hq:=hT.after ho;have Hr:=hR.after ho;have ja:=SsAt.after hU ho;have uu1:=(ho.cell (p:=⟨bu,k*2,none⟩) jo).trans u1;have ku:=Nl jo ho.size;have hf:=bt HD ho;rw[HF.out.2.2]at hN ⊢
   have hl:Hid (gS≠gB∧gT≠gB∧gR≠gB):=by
    have h1:=HB.out;have h2:=HF.out.1;rw[Hid];omega
   have hh:Hid (u9.ownBlock≠some gB∧u9.ownBlock≠some gT∧u9.ownBlock≠some gR∧∀g,u9.ownBlock=some g→g<w2.heap.size):=by
    have h1:=HB.out;have h2:=HF.out;have h3:=ho.size;refine⟨fun e=>?_,fun e=>?_,fun e=>?_,fun g e=>?_⟩ <;> have h4:=own_lt hO e <;> omega
   have jb:Hid (w1.heap.size≤w2.heap.size):=Nat.le_trans hZ.out ho.size;clear x1 u1 u2 Ja jo hO j0 j2 jp ho jZ hP hT hR hU HD hZ j1;obtain⟨wv,Jb⟩:∃wx,wx=w2:=⟨_,rfl⟩;subst Jb;replace hN:Blk wv gB 74 [.bool false,.string { data:=#[] }]:=hN;by_cases Hs:vb=0
   ·have HI:Hid (kdN vb=0):=by rw[Hs];rfl
    rw[HI.out];have hQ:Hid (dk=((coin att Tk (lim N.ord C K vb).1).1,((coin att Tk (lim N.ord C K vb).1).2:Int))):=by rw[Hid,h0.out,drwJ,if_pos Hs]
    generalize (lim N.ord C K vb).1=mk at uu1 hQ h5;have h8:Hid (∀w',Bw wv w'→Calls Tryz.prog 99 #[.agg #[.slice uo um uc,.string Tk.seed,.int .i64 Tk.pos],.string (E mk)] w' (CPost w' Tk (coin att Tk mk))):=fun w' hb=>cbelow_c att Tk _ mk w' (H7.out.after (bt hf hb)) H6.out (Nl h5.out P8) (SsAt.after ja hb)
    generalize coin att Tk mk=rc at h8 hQ;obtain⟨ke,xe⟩:=rc;have HZ:Hid (dk.1=ke∧zI dk.2=(false,E xe)):=by rw[Hid,hQ.out];exact⟨rfl,by simp[zI,sg_nat]⟩
    clear Hs h0 hQ HI h5 H7 H6;obtain⟨T1,HJ⟩:∃t,t=Tk.after ke:=⟨_,rfl⟩;have hW:=Kh HJ;clear HJ;have HK:=H9.drew;have h9:=Hq.drew;have HL:=Hr.drew;have Ha:=hN.drew;have HM:wv.drew.ownsRow w1.heap.size 74 2 u9 k (ics (LI.map zI)):=World.ownsRow.drew H8;have hi:=hf.drew;have uu0:wv.drew.cell? ⟨bu,k*2,none⟩=some (.string (E mk)):=uu1;have ku0:bu<wv.drew.heap.size:=ku;have Ht:gT<wv.drew.heap.size:=Hq.lt;have Hb:gB<wv.drew.heap.size:=hN.lt;have HN:Hid (gR<wv.drew.heap.size):=Hr.lt;have hp:Hid (w1.heap.size≤wv.drew.heap.size):=jb.out;have HO:Hid (Bw wv wv.drew):=Below.drew Br;have e1:¬ gT=gB:=hl.out.2.1;have e2:¬ gB=gT:=fun e=>hl.out.2.1 e.symm
    clear H9 Hq Hr hN H8 hf uu1 ku jb ja;obtain⟨hq,hr,ht,hu,hv,hw⟩:=h9.x3;obtain⟨hy,hz,hA,hD⟩:=Ha.x2;go_wp2_with fail
    go_cut [13] (fun s13 wx=>s13=.int .i64 (ke:Int)∧∃(uo:Option Addr) (um uc:Nat),Blk wx gT 33 [.slice uo um uc,.string T1.seed,.int .i64 T1.pos]∧Blk wx gB 74 [.bool false,.string (E xe)]∧Blk wx gS 29 [.slice a1 n1 c1,.slice (some ⟨bv,ov,none⟩) n2 c2,.slice a3 n3 c3]∧Blk wx gR 33 [.slice none 0 0,.string ⟨#[]⟩,.int .i64 0]∧SsAt wx (.slice uo um uc) T1.vals∧FarS (.slice uo um uc) gT∧FarS (.slice uo um uc) gR∧(∀g,g<w.heap.size→FarS (.slice uo um uc) g)∧(∀g,u9.ownBlock=some g→FarS (.slice uo um uc) g)∧wx.ownsRow w1.heap.size 74 2 u9 k (ics (LI.map zI))∧Bw w wx∧Hid (w1.heap.size≤wx.heap.size))
    case first =>
     go_region_with (go_at_call 99;(with_reducible refine (h8.out _ HO.out).mono ?_);rintro e wd ⟨t,rfl,⟨u,rfl,HP⟩,hE,hbd⟩;obtain⟨xo,xc,rfl⟩:=RAt.form HP;have he:=h9.after hbd;have hn:=Ha.after hbd;have jq:=HL.after hbd;have jr:=HK.after hbd;have js:=own_after HM hbd;have hJ:=bt hi hbd;have jt:=he.cell 0;have ju:=he.cell 1;have jv:=he.cell 2;have HQ:=he.free 0;have HR:=he.free 1;have HS:=he.free 2;have jw:=hn.cell 0;have jx:=hn.cell 1;have Hc:=hn.free 0;have Hd:=hn.free 1;have jy:=he.lt;have jz:=hn.lt)
     all_goals
      go_wp2_with fail
      go_meet
      have fT:=hE.far Ht;have fB:=hE.far Hb;have Hp:w.heap.size≤gB:=Nat.le_trans HC.out HF.out.1;rw[hW.out];exact⟨rfl,xo,_,xc,(((he.other _ _ hl.out.2.1).set 0 _).set 1 _).set 2 _,(((hn.set 1 _).other _ _ e2).other _ _ e2).other _ _ e2,(((jr.other _ _ hl.out.1).other _ _ hd.out.2.2.1).other _ _ hd.out.2.2.1).other _ _ hd.out.2.2.1,(((jq.other _ _ hl.out.2.2).other _ _ hd.out.2.2.2.2.symm).other _ _ hd.out.2.2.2.2.symm).other _ _ hd.out.2.2.2.2.symm,(((HP.set_far fB).set_far fT).set_far fT).set_far fT,fT,hE.far HN.out,fun g hg=>hE.far (Nl hg hi.size),fun g hg=>hE.far (hh.out.2.2.2 g hg),own_set (own_set (own_set (own_set js hh.out.1) hh.out.2.1) hh.out.2.1) hh.out.2.1,(((hJ.setCell Hp _).setCell hd.out.1 _).setCell hd.out.1 _).setCell hd.out.1 _,by have h:=Nat.le_trans hp.out hbd.size;simpa [Hid] using h⟩
    case rest =>
    clear HK h9 HL Ha HM hi uu0 ku0 Ht Hb HN hp HO e1 e2 h8 hq hr ht hu hv hw hy hz hA hD;obtain⟨rfl,xo,xm,xc,hT,hB,hP,hR,hU,Hn,hM,hX,HT,hO,hf,hZ⟩:=hcut;have He:=Kh hX;clear hX;obtain⟨wy,jA⟩:∃wy,wy=wc:=⟨_,rfl⟩;subst jA;by_cases Hf:ke=0
    ·subst Hf;have Hg:=Kh (h7.out HZ.out.1);clear h7 h6;rw[jX.out]at hW;have Hh:Hid (T1.vals=T.vals∧T1.seed=T.seed∧T1.pos=T.pos+((k+1:Nat):Int)):=by rw[Hid,hW.out];exact⟨rfl,rfl,rfl⟩
     rw[Hh.out.1]at hU;have Hi:=Kh Hh.out.2;rw[Hi.out.1,Hi.out.2]at hT;clear Hh hW Hi;have Hb:=hB.lt;have Hj:=hZ.out;obtain⟨jB,Hc,jC,Hd⟩:=hB.x2;go_wp2_with (at_builtin;refine wpList_append_lies _ rfl (.tmp 52) (.tmp 54) _ rfl w1.heap.size 74 i1 _ 2 24 Tryz.underlying30 jL.out jM.out jN.out jO.out rfl (by omega) u9 k (ics (LI.map zI)) rfl (own_after hO (b1 _ (.cells #[.bool false,.string (E xe)] 74))) ⟨(wy).heap.size,0,none⟩ 1 1 [.bool false,.string (E xe)] rfl rfl (Blk.new (wy) #[.bool false,.string (E xe)] 74).cells (by simp[Value.oneCell']) (by omega) (by simp only[maxLen];omega) (by omega) (by rw[World.size_alloc];omega) ((wy).heap.size+1) (by simp) ?_;intro ga ca' wz hF hc Hm Hk)
     have HU:ZOwn wz w1.heap.size (.slice (some ⟨ga,0,none⟩) (k+1) ca') (LI++[dk.2]):=by
      rw[ZOwn,List.length_append,H5.out,←ics_app];have h:ics [zI dk.2]=[.bool false,.string (E xe)]:=by rw[HZ.out.2];rfl
      rw[List.map_cons,List.map_nil,h];exact hF
     rw[←H4.out]at HU;have jD:=(ba hf (.cells #[.bool false,.string (E xe)] 74)).grown hc (by have:=hf.size;rw[World.size_alloc];omega) (fun x hx=>Nat.le_trans HC.out (own_lt hO hx).2);have jE:=Blk.grown (hT.alloc (.cells #[.bool false,.string (E xe)] 74)) hc hh.out.2.1;have jF:=Blk.grown (hR.alloc (.cells #[.bool false,.string (E xe)] 74)) hc hh.out.2.2.1;have jG:=Blk.grown (hP.alloc (.cells #[.bool false,.string (E xe)] 74)) hc (fun e=>by have h1:=(own_lt hO e).2;have h2:=HB.out;omega);have jH:=SsAt.grown (SsAt.after hU (b1 wy (.cells #[.bool false,.string (E xe)] 74))) hc HT;have Hl:w1.heap.size≤wz.heap.size:=by have h:=hc.size;rw[World.size_alloc]at h;omega
     clear hF hc Hm Hk hO hB hf hT hR hP hU Hj;go_wp2;go_roundw
     case rel=>exact⟨k+1,xo,xm,xc,by omega,by go_num,Hg.out,HU,jG,jE,jF,jH,Hn,hM,fun g hg _=>He.out g hg,Hl,jD⟩
     case measure=>simp[intOf];omega
    ·have Jc:((ke:Int) != 0)=true:=by rw[bne_iff_ne];omega
     have HX:=Kh (h6.out (by rw[HZ.out.1];exact Hf));rw[HZ.out.1]at HX;clear Hf h6 h7 hT hB hP hU Hn hM HT hO;have HV:=hR.lt;obtain⟨hG,HW,hH,HY,hI,H0⟩:=hR.x3;go_wp2;refine bodyPost_ret (v:=.tuple #[.slice none 0 0,.agg #[.slice none 0 0,.string ⟨#[]⟩,.int .i64 0],.int .i64 (ke:Int)]) ?_ rfl ?_
     ·simp[results,Tryz.results81,go_sem,hG,hH,hI,HV]
     ·rw[HX.out];exact⟨_,_,rfl,World.ownsRow_nil _ _ _ _,ss_nil _,(fun g _ _ b o n c e _=>by cases e),((hf.setCell hd.out.2.1 _).setCell hd.out.2.1 _).setCell hd.out.2.1 _⟩
   ·have HI:Hid (kdN vb=1):=by unfold Hid kdN;rw[if_neg Hs]
    rw[HI.out];have hQ:Hid (dk=csgn att Tk (lim N.ord C K vb).1):=by rw[Hid,h0.out,drwJ,if_neg Hs]
    generalize (lim N.ord C K vb).1=mk at uu1 hQ h5;have h8:Hid (∀w',Bw wv w'→Calls Tryz.prog 98 #[.agg #[.slice uo um uc,.string Tk.seed,.int .i64 Tk.pos],.string (E mk)] w' (SCPost w' Tk (csgn att Tk mk))):=fun w' hb=>csigned_c att Tk _ mk w' (H7.out.after (bt hf hb)) H6.out h5.out (SsAt.after ja hb)
    generalize csgn att Tk mk=rc at h8 hQ;obtain⟨ke,xe⟩:=rc;have HZ:Hid (dk.1=ke∧zI dk.2=(sg xe,E xe.natAbs)):=by rw[Hid,hQ.out];exact⟨rfl,rfl⟩
    clear Hs h0 hQ HI h5 H7 H6;obtain⟨T1,HJ⟩:∃t,t=Tk.after ke:=⟨_,rfl⟩;have hW:=Kh HJ;clear HJ;have HK:=H9.drew;have h9:=Hq.drew;have HL:=Hr.drew;have Ha:=hN.drew;have HM:wv.drew.ownsRow w1.heap.size 74 2 u9 k (ics (LI.map zI)):=World.ownsRow.drew H8;have hi:=hf.drew;have uu0:wv.drew.cell? ⟨bu,k*2,none⟩=some (.string (E mk)):=uu1;have ku0:bu<wv.drew.heap.size:=ku;have Ht:gT<wv.drew.heap.size:=Hq.lt;have Hb:gB<wv.drew.heap.size:=hN.lt;have HN:Hid (gR<wv.drew.heap.size):=Hr.lt;have hp:Hid (w1.heap.size≤wv.drew.heap.size):=jb.out;have HO:Hid (Bw wv wv.drew):=Below.drew Br;have e1:¬ gT=gB:=hl.out.2.1;have e2:¬ gB=gT:=fun e=>hl.out.2.1 e.symm
    clear H9 Hq Hr hN H8 hf uu1 ku jb ja;obtain⟨hq,hr,ht,hu,hv,hw⟩:=h9.x3;obtain⟨hy,hz,hA,hD⟩:=Ha.x2;go_wp2_with fail
    go_cut [13] (fun s13 wx=>s13=.int .i64 (ke:Int)∧∃(uo:Option Addr) (um uc:Nat),Blk wx gT 33 [.slice uo um uc,.string T1.seed,.int .i64 T1.pos]∧Blk wx gB 74 [.bool (sg xe),.string (E xe.natAbs)]∧Blk wx gS 29 [.slice a1 n1 c1,.slice (some ⟨bv,ov,none⟩) n2 c2,.slice a3 n3 c3]∧Blk wx gR 33 [.slice none 0 0,.string ⟨#[]⟩,.int .i64 0]∧SsAt wx (.slice uo um uc) T1.vals∧FarS (.slice uo um uc) gT∧FarS (.slice uo um uc) gR∧(∀g,g<w.heap.size→FarS (.slice uo um uc) g)∧(∀g,u9.ownBlock=some g→FarS (.slice uo um uc) g)∧wx.ownsRow w1.heap.size 74 2 u9 k (ics (LI.map zI))∧Bw w wx∧Hid (w1.heap.size≤wx.heap.size))
    case first =>
     go_region_with (go_at_call 98;(with_reducible refine (h8.out _ HO.out).mono ?_);rintro e wd ⟨t,rfl,⟨u,rfl,HP⟩,hE,hbd⟩;obtain⟨xo,xc,rfl⟩:=RAt.form HP;have he:=h9.after hbd;have hn:=Ha.after hbd;have jq:=HL.after hbd;have jr:=HK.after hbd;have js:=own_after HM hbd;have hJ:=bt hi hbd;have jt:=he.cell 0;have ju:=he.cell 1;have jv:=he.cell 2;have HQ:=he.free 0;have HR:=he.free 1;have HS:=he.free 2;have jw:=hn.cell 0;have jx:=hn.cell 1;have Hc:=hn.free 0;have Hd:=hn.free 1;have jy:=he.lt;have jz:=hn.lt)
     all_goals
      go_wp2_with fail
      go_meet
      have fT:=hE.far Ht;have fB:=hE.far Hb;have Hp:w.heap.size≤gB:=Nat.le_trans HC.out HF.out.1;rw[hW.out];exact⟨rfl,xo,_,xc,((((he.other _ _ hl.out.2.1).other _ _ hl.out.2.1).set 0 _).set 1 _).set 2 _,((((hn.set 0 _).set 1 _).other _ _ e2).other _ _ e2).other _ _ e2,((((jr.other _ _ hl.out.1).other _ _ hl.out.1).other _ _ hd.out.2.2.1).other _ _ hd.out.2.2.1).other _ _ hd.out.2.2.1,((((jq.other _ _ hl.out.2.2).other _ _ hl.out.2.2).other _ _ hd.out.2.2.2.2.symm).other _ _ hd.out.2.2.2.2.symm).other _ _ hd.out.2.2.2.2.symm,((((HP.set_far fB).set_far fB).set_far fT).set_far fT).set_far fT,fT,hE.far HN.out,fun g hg=>hE.far (Nl hg hi.size),fun g hg=>hE.far (hh.out.2.2.2 g hg),own_set (own_set (own_set (own_set (own_set js hh.out.1) hh.out.1) hh.out.2.1) hh.out.2.1) hh.out.2.1,((((hJ.setCell Hp _).setCell Hp _).setCell hd.out.1 _).setCell hd.out.1 _).setCell hd.out.1 _,by have h:=Nat.le_trans hp.out hbd.size;simpa [Hid] using h⟩
    case rest =>
    clear HK h9 HL Ha HM hi uu0 ku0 Ht Hb HN hp HO e1 e2 h8 hq hr ht hu hv hw hy hz hA hD;obtain⟨rfl,xo,xm,xc,hT,hB,hP,hR,hU,Hn,hM,hX,HT,hO,hf,hZ⟩:=hcut;have He:=Kh hX;clear hX;obtain⟨wy,jA⟩:∃wy,wy=wc:=⟨_,rfl⟩;subst jA;by_cases Hf:ke=0
    ·subst Hf;have Hg:=Kh (h7.out HZ.out.1);clear h7 h6;rw[jX.out]at hW;have Hh:Hid (T1.vals=T.vals∧T1.seed=T.seed∧T1.pos=T.pos+((k+1:Nat):Int)):=by rw[Hid,hW.out];exact⟨rfl,rfl,rfl⟩
     rw[Hh.out.1]at hU;have Hi:=Kh Hh.out.2;rw[Hi.out.1,Hi.out.2]at hT;clear Hh hW Hi;have Hb:=hB.lt;have Hj:=hZ.out;obtain⟨jB,Hc,jC,Hd⟩:=hB.x2;go_wp2_with (at_builtin;refine wpList_append_lies _ rfl (.tmp 52) (.tmp 54) _ rfl w1.heap.size 74 i1 _ 2 24 Tryz.underlying30 jL.out jM.out jN.out jO.out rfl (by omega) u9 k (ics (LI.map zI)) rfl (own_after hO (b1 _ (.cells #[.bool (sg xe),.string (E xe.natAbs)] 74))) ⟨(wy).heap.size,0,none⟩ 1 1 [.bool (sg xe),.string (E xe.natAbs)] rfl rfl (Blk.new (wy) #[.bool (sg xe),.string (E xe.natAbs)] 74).cells (by simp[Value.oneCell']) (by omega) (by simp only[maxLen];omega) (by omega) (by rw[World.size_alloc];omega) ((wy).heap.size+1) (by simp) ?_;intro ga ca' wz hF hc Hm Hk)
     have HU:ZOwn wz w1.heap.size (.slice (some ⟨ga,0,none⟩) (k+1) ca') (LI++[dk.2]):=by
      rw[ZOwn,List.length_append,H5.out,←ics_app];have h:ics [zI dk.2]=[.bool (sg xe),.string (E xe.natAbs)]:=by rw[HZ.out.2];rfl
      rw[List.map_cons,List.map_nil,h];exact hF
     rw[←H4.out]at HU;have jD:=(ba hf (.cells #[.bool (sg xe),.string (E xe.natAbs)] 74)).grown hc (by have:=hf.size;rw[World.size_alloc];omega) (fun x hx=>Nat.le_trans HC.out (own_lt hO hx).2);have jE:=Blk.grown (hT.alloc (.cells #[.bool (sg xe),.string (E xe.natAbs)] 74)) hc hh.out.2.1;have jF:=Blk.grown (hR.alloc (.cells #[.bool (sg xe),.string (E xe.natAbs)] 74)) hc hh.out.2.2.1;have jG:=Blk.grown (hP.alloc (.cells #[.bool (sg xe),.string (E xe.natAbs)] 74)) hc (fun e=>by have h1:=(own_lt hO e).2;have h2:=HB.out;omega);have jH:=SsAt.grown (SsAt.after hU (b1 wy (.cells #[.bool (sg xe),.string (E xe.natAbs)] 74))) hc HT;have Hl:w1.heap.size≤wz.heap.size:=by have h:=hc.size;rw[World.size_alloc]at h;omega
     clear hF hc Hm Hk hO hB hf hT hR hP hU Hj;go_wp2;go_roundw
     case rel=>exact⟨k+1,xo,xm,xc,by omega,by go_num,Hg.out,HU,jG,jE,jF,jH,Hn,hM,fun g hg _=>He.out g hg,Hl,jD⟩
     case measure=>simp[intOf];omega
    ·have Jc:((ke:Int) != 0)=true:=by rw[bne_iff_ne];omega
     have HX:=Kh (h6.out (by rw[HZ.out.1];exact Hf));rw[HZ.out.1]at HX;clear Hf h6 h7 hT hB hP hU Hn hM HT hO;have HV:=hR.lt;obtain⟨hG,HW,hH,HY,hI,H0⟩:=hR.x3;go_wp2;refine bodyPost_ret (v:=.tuple #[.slice none 0 0,.agg #[.slice none 0 0,.string ⟨#[]⟩,.int .i64 0],.int .i64 (ke:Int)]) ?_ rfl ?_
     ·simp[results,Tryz.results81,go_sem,hG,hH,hI,HV]
     ·rw[HX.out];exact⟨_,_,rfl,World.ownsRow_nil _ _ _ _,ss_nil _,(fun g _ _ b o n c e _=>by cases e),((hf.setCell hd.out.2.1 _).setCell hd.out.2.1 _).setCell hd.out.2.1 _⟩
  ·obtain rfl:n2=k:=by omega
   have HE:Hid ((N.drwL att C K T).take n2=N.drwL att C K T):=List.take_of_length_le (by rw[NSta.drwL,List.length_map,List.length_range,←H1.out];exact Nat.le_refl _);have HX:Hid (RR=⟨0,N.drwL att C K T,T.on n2⟩):=by rw[Hid,jP.out,drw_ok (fun j hj=>H3.out j (by rw[H1.out];exact hj)),H1.out]
   rw[HE.out]at hO;have Ht:=hT.lt;have HV:=hR.lt;have n1':¬ gT=gR:=hd.out.2.2.2.2;obtain⟨Jd,HQ,Je,HR,Jf,HS⟩:=hT.x3;obtain⟨hG,HW,hH,HY,hI,H0⟩:=hR.x3;go_wp2_with fail
   go_region;go_wp2;refine bodyPost_ret (v:=.tuple #[u9,.agg #[.slice uo um uc,.string T.seed,.int .i64 (T.pos+(n2:Int))],.int .i64 0]) ?_ rfl ?_
   ·simp[results,Tryz.results81,go_sem,hG,hH,hI,HV]
   ·rw[HX.out];have jI:u9.ownBlock≠some gR:=fun e=>by have h1:=(own_lt hO e).2;have h2:=HB.out;omega
    exact⟨_,_,rfl,own_mono (World.ownsRow.drew (own_set (own_set (own_set hO jI) jI) jI)) HC.out,SsAt.after (((hU.set_far hM).set_far hM).set_far hM) (Below.drew Br),j9.out,(((HD.setCell hd.out.2.1 _).setCell hd.out.2.1 _).setCell hd.out.2.1 _).drew⟩
end
section
open Go.RowKit Go.Shelf
def NSta.prvR (N:NSta) (att:Att) (C K c:Nat) (W:List Int) (T:Tp):Drw:=
 if W.length≠N.vars.length then ⟨6,[],Tp.nil⟩ else if C≤c then ⟨2,[],Tp.nil⟩ else if ra N.vars.length (inJ N W)=false then ⟨2,[],Tp.nil⟩
 else if N.hldB W=false then ⟨18,[],Tp.nil⟩ else N.prv att C K c W 64 T
def NSta.fstR (N:NSta) (R:Drw):List Nat:=if R.err=0 then N.imgs R.msk else []
def NSta.rspO (N:NSta) (c:Nat) (W:List Int) (R:Drw):List Int:=if R.err=0 then N.rspL c W R.msk else []
def PPost (w:World) (c:ByteArray) (R:Drw) (F:List Nat) (Y:List Int) (e:Ending) (w':World):Prop:=∃fv rv u ch,e=.returned (.tuple #[.agg #[fv,.string ch,rv],.agg #[u,.string R.tp.seed,.int .i64 R.tp.pos],.int .i64 (R.err:Int)]) ∧
 (ch=if R.err=0 then c else ⟨#[]⟩)∧NOwn w' w.heap.size fv F∧ZOwn w' w.heap.size rv Y∧SsAt w' u R.tp.vals∧Bw w w'
theorem ppost_err {w w':World} {c:ByteArray} {k:Nat} {F:List Nat} {Y:List Int} (hk:k≠0) (hF:F=[]) (hY:Y=[]) (h:Bw w w') :
  PPost w c ⟨k,[],Tp.nil⟩ F Y (.returned (.tuple #[.agg #[.slice none 0 0,.string ⟨#[]⟩,.slice none 0 0],.agg #[.slice none 0 0,.string ⟨#[]⟩,.int .i64 0],.int .i64 (k:Int)])) w':=
 ⟨_,_,_,_,rfl,by rw[if_neg hk],by rw[hF];exact World.ownsRow_nil _ _ _ _,by rw[hY];exact World.ownsRow_nil _ _ _ _,ss_nil _,h⟩
theorem prv_a {N:NSta} {att:Att} {C K c:Nat} {W:List Int} {T:Tp} (h:W.length≠N.vars.length):N.prvR att C K c W T=⟨6,[],Tp.nil⟩:=by unfold NSta.prvR;rw[if_pos h]
theorem prv_b {N:NSta} {att:Att} {C K c:Nat} {W:List Int} {T:Tp} (h:W.length=N.vars.length) (h1:C≤c):N.prvR att C K c W T=⟨2,[],Tp.nil⟩:=by unfold NSta.prvR;rw[if_neg (by omega),if_pos h1]
theorem prv_c {N:NSta} {att:Att} {C K c:Nat} {W:List Int} {T:Tp} (h:W.length=N.vars.length) (h1:c<C) (h2:ra N.vars.length (inJ N W)=false):N.prvR att C K c W T=⟨2,[],Tp.nil⟩:=by unfold NSta.prvR;rw[if_neg (by omega),if_neg (by omega),if_pos h2]
theorem prv_d {N:NSta} {att:Att} {C K c:Nat} {W:List Int} {T:Tp} (h:W.length=N.vars.length) (h1:c<C) (h2:ra N.vars.length (inJ N W)=true) (h3:N.hldB W=false):N.prvR att C K c W T=⟨18,[],Tp.nil⟩:=by
 unfold NSta.prvR;rw[if_neg (by omega),if_neg (by omega),if_neg (by rw[h2];decide),if_pos h3]
theorem prv_e {N:NSta} {att:Att} {C K c:Nat} {W:List Int} {T:Tp} (h:W.length=N.vars.length) (h1:c<C) (h2:ra N.vars.length (inJ N W)=true) (h3:N.hldB W=true):N.prvR att C K c W T=N.prv att C K c W 64 T:=by
 unfold NSta.prvR;rw[if_neg (by omega),if_neg (by omega),if_neg (by rw[h2];decide),if_neg (by rw[h3];decide)]
theorem prv_err {N:NSta} {att:Att} {C K c f:Nat} {W:List Int} {T:Tp} (h:(N.drwR att C K T).err≠0):N.prv att C K c W (f+1) T=⟨(N.drwR att C K T).err,[],Tp.nil⟩:=by
 rw[NSta.prv,if_pos h]
theorem prv_done {N:NSta} {att:Att} {C K c f:Nat} {W:List Int} {T:Tp} (h:(N.drwR att C K T).err=0) (h2:N.rsp2 C K c W (N.drwR att C K T).msk=0):N.prv att C K c W (f+1) T=N.drwR att C K T:=by
 rw[NSta.prv,if_neg (by omega),if_pos h2]
theorem prv_next {N:NSta} {att:Att} {C K c f:Nat} {W:List Int} {T:Tp} (h:(N.drwR att C K T).err=0) (h2:N.rsp2 C K c W (N.drwR att C K T).msk≠0):N.prv att C K c W (f+1) T=N.prv att C K c W f (N.drwR att C K T).tp:=by
 rw[NSta.prv,if_neg (by omega),if_neg h2]
theorem drw_inv {N:NSta} {att:Att} {C K:Nat} {T:Tp} (h:(N.drwR att C K T).err=0):N.drwR att C K T=⟨0,N.drwL att C K T,T.on N.vars.length⟩∧∀j,j<N.vars.length→(N.drw att C K T j).1=0:=by
 have hb:∀j,j<N.vars.length→(N.drw att C K T j).1=0:=by
  intro j hj;apply Classical.byContradiction
  intro hn;unfold NSta.drwR at h;split at h
  ·rename_i k hk;have:=List.find?_some hk;simp at this;exact this h
  ·rename_i hk;have:=List.find?_eq_none.1 hk j (List.mem_range.2 hj);simp at this;exact hn this
 exact⟨drw_ok hb,hb⟩
theorem coin_lt {att:Att} {T:Tp} {n:Nat} (h:(coin att T n).1=0):(coin att T n).2<n:=by
 unfold coin at *;split at h
 ·simp at h
 ·rename_i h1;rw[if_neg h1];split at h
  ·simp at h
  ·rename_i h2;rw[if_neg h2];exact coinD_lt h
theorem csgn_lt {att:Att} {T:Tp} {m:Nat} (hm:m<256^60) (h:(csgn att T m).1=0):(csgn att T m).2.natAbs<256^64:=by
 have h9:256^60*2≤256^64:=by decide
 unfold csgn at *;split at h
 ·rename_i h1;exact absurd h h1
 ·rename_i h1;rw[if_neg h1];split at h
  ·rename_i h2;rw[if_pos h2];have:=coinD_lt h2;generalize (256:Nat)^60=x at *;generalize (256:Nat)^64=y at *;simp only[];omega
  ·rename_i h2;exact absurd h h2
theorem drw_size {N:NSta} (hm:NOk N) {att:Att} {C K:Nat} {T:Tp} (hC:C<256^16) (hK:K<256^16) (h:∀j,j<N.vars.length→(N.drw att C K T j).1=0):∀z∈N.drwL att C K T,z.natAbs<256^64:=by
 intro z hz;obtain⟨j,hj,rfl⟩:=List.mem_map.1 hz;have hb:=List.mem_range.1 hj;have h1:=h j hb;rw[drw_at N att C K T j hb]at h1 ⊢;have hl:=lims1_lt hm hC hK (Gm hb);unfold drwJ at *;split at h1
 ·rename_i h2;rw[if_pos h2];have h3:=coin_lt h1;simp only[Int.natAbs_natCast];exact Nat.lt_trans h3 (Nl hl P8)
 ·rename_i h2;rw[if_neg h2];exact csgn_lt hl h1
theorem pfail_c (k:Int) (w:World):Calls Tryz.prog 76 #[.int .i64 k] w fun e w'=>e=.returned (.tuple #[.agg #[.slice none 0 0,.string ⟨#[]⟩,.slice none 0 0],.agg #[.slice none 0 0,.string ⟨#[]⟩,.int .i64 0],.int .i64 k])∧Bw w w':=by
 obtain⟨hA,hB,hh⟩:=blk2 w #[.slice none 0 0,.string ⟨#[]⟩,.slice none 0 0] #[.slice none 0 0,.string ⟨#[]⟩,.int .i64 0] 40 33;have hi:=hA.lt;have hj:=hB.lt;obtain⟨hb,hk,hc,hl,hd,hm⟩:=hA.x3;obtain⟨he,hn,hf,ho,hg,hp⟩:=hB.x3;go_enter Tryz.func76,Tryz.ntmps76
 go_wp2;refine bodyPost_ret (v:=.tuple #[.agg #[.slice none 0 0,.string ⟨#[]⟩,.slice none 0 0],.agg #[.slice none 0 0,.string ⟨#[]⟩,.int .i64 0],.int .i64 k]) ?_ rfl ⟨rfl,?_⟩
 ·simp[results,Tryz.results76,go_sem,hb,hc,hd,he,hf,hg,hi,hj]
 ·exact hh
end
section
open Go.RowKit Go.Shelf
theorem sprove_num (att:Att) (N:NSta) (C K c:Nat) (W:List Int) (T:Tp) (v1 v2 v3 vw vt:Value) (w:World) (jX:HAtt att T.seed w) (jY:T.Ok) (hC:C<256^16) (hK:K<256^16) (hm:NOk N) (hS:NAt w v1 v2 v3 N) (h0:N.chk=0)
  (jZ:∀w',Bw w w'→Calls Tryz.prog 77 #[.agg #[.string (E C),.string (E K)],.agg #[v1,v2,v3]] w' (BPost w' (N.lims C K)))
  (hW:ZsAt w vw W) (hV:SsAt w vt T.vals) (hc:c<256^100) (jc:W.length≤1000) (HD:∀z∈W,z.natAbs<256^64) (j0:N.vars.any vz=true→0<N.ord) :
  Calls Tryz.prog 18 #[.agg #[.string (E C),.string (E K)],.agg #[v1,v2,v3],vw,.string (E c),.agg #[vt,.string T.seed,.int .i64 T.pos]] w (PPost w (E c) (N.prvR att C K c W T) (N.fstR (N.prvR att C K c W T)) (N.rspO c W (N.prvR att C K c W T))):=by
 obtain⟨RR,jd⟩:∃r,r=N.prvR att C K c W T:=⟨_,rfl⟩;obtain⟨RF,HH⟩:∃r,r=N.fstR RR:=⟨_,rfl⟩;obtain⟨RY,HI⟩:∃r,r=N.rspO c W RR:=⟨_,rfl⟩;have j1:=Kh jd;rw[←jd,←HH,←HI]
 have HJ:Hid (∀k,k≠0→N.prvR att C K c W T=⟨k,[],Tp.nil⟩→RR=⟨k,[],Tp.nil⟩∧RF=[]∧RY=[]):=fun k hk h=>by
  have e:=jd.trans h;exact⟨e,by rw[HH,e];unfold NSta.fstR;rw[if_neg hk],by rw[HI,e];unfold NSta.rspO;rw[if_neg hk]⟩
 have HK:Hid (RR.err=0→RF=N.imgs RR.msk∧RY=N.rspL c W RR.msk):=fun h=>⟨by rw[HH];unfold NSta.fstR;rw[if_pos h],by rw[HI];unfold NSta.rspO;rw[if_pos h]⟩
 have HL:Hid (∀k,k≠0→RR=⟨k,[],Tp.nil⟩→RF=[]∧RY=[]):=fun k hk e=>⟨by rw[HH,e];unfold NSta.fstR;rw[if_neg hk],by rw[HI,e];unfold NSta.rspO;rw[if_neg hk]⟩
 clear jd HH HI;have jq:=Kh jZ
 have jr:Hid (∀w',Bw w w'→Calls Tryz.prog 78 #[vw] w' fun e w''=>e=.returned (.bool true)∧Bw w' w''):=fun w' hb =>
  svalidV_c (W.map zI) vw true w' (by rw[List.length_map];exact jc) (fun x hx=>by obtain⟨z,js,rfl⟩:=List.mem_map.1 hx;exact Nat.le_trans ((E_size_le _ 64).2 (HD z js)) (by decide)) (hW.after hb) (by rw[List.all_map,List.all_eq_true];intro z js;exact ivB_I z (lt64 (HD z js)))
 have j2:Hid (∀w,Calls Tryz.prog 79 #[.string (E c)] w fun e w'=>e=.returned (.bool true)∧w=w'):=fun w=>validE_c c w (Nl hc P8)
 have HM:Hid (∀w,Calls Tryz.prog 34 #[.string (E c),.string (E C)] w fun e w'=>e=.returned (.int .i64 (cmpN c C))∧w=w'):=fun w=>cmp_c c C w (Nl hc P8) (Nl hC P8)
 obtain⟨bi,jt⟩:∃b:Bool,b=ra N.vars.length (inJ N W):=⟨_,rfl⟩;have je:=Kh jt;have jf:Hid (W.length=N.vars.length→∀w',Bw w w'→Calls Tryz.prog 80 #[.agg #[v1,v2,v3],vw] w' fun e w''=>e=.returned (.bool bi)∧Bw w' w''):=fun h w' hb=>by rw[jt];exact sinr_c N W v1 v2 v3 vw w' hm (hS.after hb) (hW.after hb) HD h
 obtain⟨bh,ju⟩:∃b:Bool,b=N.hldB W:=⟨_,rfl⟩;have jv:=Kh ju
 have jg:Hid (W.length=N.vars.length→∀w',Bw w w'→Calls Tryz.prog 30 #[.agg #[v1,v2,v3],vw] w' fun e w''=>e=.returned (.tuple #[.bool bh,.int .i64 0])∧Bw w' w''):=fun h w' hb=>by
  have h1:=holds_c N W v1 v2 v3 vw w' hm (hS.after hb) (hW.after hb) HD jc h0;rw[←ju,show N.hldE W=0 by unfold NSta.hldE;rw[if_neg (by omega)]]at h1;exact h1
 have j3:Hid (∀(Ti:Tp) (B:Nat) (vl u:Value) w',HAtt att Ti.seed w→Ti.Ok→Bw w w'→LmOwn w' B vl (N.lims C K)→SsAt w' u Ti.vals→Calls Tryz.prog 81 #[.agg #[v1,v2,v3],vl,.agg #[u,.string Ti.seed,.int .i64 Ti.pos]] w' (DWPost w' u (N.drwR att C K Ti))):=fun Ti B vl u w' ha ho hb hL hu =>
  sdraw_c att N C K B Ti v1 v2 v3 vl u w' (ha.after hb) ho hC hK hm (hS.after hb) hL hu
 have j4:Hid (∀(Z:List Int) (vz:Value) w',Bw w w'→ZsAt w' vz Z→(∀z∈Z,z.natAbs<256^64)→Z.length=N.vars.length→Calls Tryz.prog 82 #[.agg #[v1,v2,v3],vz] w' (LPost w' (N.imgs Z))):=fun Z vz w' hb hz h1 h2=>Images_c N Z v1 v2 v3 vz w' hm (hS.after hb) hz h1 h2 h0
 have jh:Hid (c<C→W.length=N.vars.length→∀(M:List Int) (B:Nat) (vl vm:Value) w',Bw w w'→LmOwn w' B vl (N.lims C K)→ZsAt w' vm M→(∀z∈M,z.natAbs<256^64)→M.length=N.vars.length→Calls Tryz.prog 83 #[.agg #[v1,v2,v3],vl,vw,vm,.string (E c)] w' (EPost w' (N.rsp2 C K c W M) (N.rspR2 C K c W M))):=fun JH h1 M B vl vm w' hb hL hz JI h2 =>
  srespond_c N C K c B W M v1 v2 v3 vl vw vm w' hC hK hm (hS.after hb) hL (hW.after hb) hz (Nat.lt_trans JH hC) h1 h2 HD JI j0
 have j5:Hid (∀Ti,(N.drwR att C K Ti).err=0→(N.drwR att C K Ti).tp=Ti.on N.vars.length∧(N.drwR att C K Ti).msk.length=N.vars.length∧∀z∈(N.drwR att C K Ti).msk,z.natAbs<256^64):=fun Ti h=>by
  obtain⟨e,ha⟩:=drw_inv h;rw[e];exact⟨rfl,by simp[NSta.drwL],drw_size hm hC hK ha⟩
 have JS:Hid (∀Ti,(N.drwR att C K Ti).err≠0→N.drwR att C K Ti=⟨(N.drwR att C K Ti).err,[],Tp.nil⟩):=fun Ti h=>by
  unfold NSta.drwR at *;split
  ·rfl
  ·rename_i hn;rw[hn]at h;exact absurd rfl h
 have JJ:=Kh jX;have JK:=Kh jY;obtain⟨a4,c4,rfl⟩:=hW.form;obtain⟨a5,c5,rfl⟩:=RAt.form hV;obtain⟨nt,j6⟩:∃n,n=T.vals.length:=⟨_,rfl⟩;rw[←j6]at hV ⊢;obtain⟨nw,ji⟩:∃n,n=W.length:=⟨_,rfl⟩;have j7:=Kh ji;rw[←ji]at hW jr jf jg jh ⊢;obtain⟨a1,c1,a2,c2,a3,c3,rfl,rfl,rfl⟩:=hS.forms;obtain⟨n1,jw⟩:∃n,n=N.grps.length:=⟨_,rfl⟩;obtain⟨n2,HE⟩:∃n,n=N.vars.length:=⟨_,rfl⟩;obtain⟨n3,jx⟩:∃n,n=N.eqs.length:=⟨_,rfl⟩;have jy:=Kh HE;have l2:n2≤12:=by rw[HE];exact hm.nv
 have lw:nw≤1000:=by rw[ji];exact jc
 rw[←jw,←HE,←jx]at hS jq j3 j4 ⊢;rw[←jw,←HE,←jx]at jf jg jh;rw[←HE]at j5;clear hm jw HE jx ji hC hK hc jZ jc HD j0 jt ju jX jY h0 hW j6;obtain⟨hR,hP,hT,hF,hQ,hr⟩:=blk5 w #[.string (E C),.string (E K)] #[.slice a1 n1 c1,.slice a2 n2 c2,.slice a3 n3 c3] #[.slice a5 nt c5,.string T.seed,.int .i64 T.pos] #[.slice none 0 0,.string ⟨#[]⟩,.slice none 0 0] #[.slice none 0 0,.string ⟨#[]⟩,.int .i64 0] 24 29 33 40 33;obtain⟨gS,j8⟩:∃g,w.heap.size+1=g:=⟨_,rfl⟩;obtain⟨gT,j9⟩:∃g,w.heap.size+1+1=g:=⟨_,rfl⟩;obtain⟨gF,Ja⟩:∃g,w.heap.size+1+1+1=g:=⟨_,rfl⟩;obtain⟨gQ,Jb⟩:∃g,w.heap.size+1+1+1+1=g:=⟨_,rfl⟩;have jz:=Kh j8;have jA:=Kh j9;have jB:=Kh Ja;have jC:=Kh Jb;have he:Hid (w.heap.size≤gT∧w.heap.size≤gF∧w.heap.size≤gQ∧gS≠gT∧gF≠gT∧gQ≠gT∧gF≠gQ):=by rw[Hid];omega
 have HN:FarS (.slice a5 nt c5) gT:=ss_far hV (by omega);have HO:FarS (.slice a5 nt c5) gF:=ss_far hV (by omega);have HP:FarS (.slice a5 nt c5) gQ:=ss_far hV (by omega);clear j8 j9 Ja Jb;replace hS:=hS.after hr;replace hV:=SsAt.after hV hr;obtain⟨Hi,Hj,Hk,Hl⟩:=hR.x2;obtain⟨hw,hy,hA,hD,hE,hG⟩:=hP.x3;go_enter Tryz.func18,Tryz.ntmps18
 go_upto_region 1 with fail
 go_step3
 go_wp2_with fail
 refine (jq.out _ hr).mono ?_;rintro e w2 ⟨lv,rfl,hL,Ho⟩;clear Hi Hj Hk Hl;clear hw hy hA hD hE hG;replace hR:=hR.after Ho;replace hP:=hP.after Ho;replace hT:=hT.after Ho;replace hF:=hF.after Ho;replace hQ:=hQ.after Ho;replace hV:=SsAt.after hV Ho;replace hr:=bt hr Ho;clear Ho jq hS;rw[jC.out]at hQ;rw[jB.out]at hF;rw[jA.out]at hT;rw[jz.out]at hP;rw[jC.out,jB.out,jA.out,jz.out];clear jz jA jB jC;replace hR:Blk w2 w.heap.size 24 [.string (E C),.string (E K)]:=hR;replace hP:Blk w2 gS 29 [.slice a1 n1 c1,.slice a2 n2 c2,.slice a3 n3 c3]:=hP;replace hT:Blk w2 gT 33 [.slice a5 nt c5,.string T.seed,.int .i64 T.pos]:=hT;replace hF:Blk w2 gF 40 [.slice none 0 0,.string ⟨#[]⟩,.slice none 0 0]:=hF;replace hQ:Blk w2 gQ 33 [.slice none 0 0,.string ⟨#[]⟩,.int .i64 0]:=hQ;obtain⟨a6,c6,rfl⟩:=hL.form;obtain⟨B,hB⟩:∃B,LmOwn w2 B (.slice a6 (N.lims C K).length c6) (N.lims C K):=⟨_,hL⟩;clear hL;have JL:Hid ((N.lims C K).length=n2):=by rw[Hid,NSta.lims,List.length_map,jy.out]
 rw[JL.out]at hB ⊢;have Hp:¬ gF=gQ:=he.out.2.2.2.2.2.2;have Ht:¬ gQ=gF:=fun e=>Hp e.symm
 go_wp2_with fail
 refine (jr.out _ hr).mono ?_;rintro e w3 ⟨rfl,Hm⟩;replace hR:=hR.after Hm;replace hP:=hP.after Hm;replace hT:=hT.after Hm;replace hF:=hF.after Hm;replace hQ:=hQ.after Hm;replace hB:=hB.after Hm;replace hV:=SsAt.after hV Hm;replace hr:=bt hr Hm;clear Hm jr;go_wp2_with fail
 refine (j2.out _).mono ?_;rintro e w' ⟨rfl,rfl⟩;clear j2;by_cases HF:nw=n2
 ·have jj:Hid (W.length=N.vars.length):=by rw[Hid,←j7.out,←jy.out];exact HF
  have HQ:=Kh (jf.out HF);have HR:=Kh (jg.out HF);clear jf jg;subst HF;rcases Nat.lt_or_ge c C with jD | jE
  ·have JM:=cmp_neg c C jD;have h5:¬ 0≤cmpN c C:=by omega
   have hd:decide (0≤cmpN c C)=false:=decide_eq_false h5;have jk:=Kh jD;clear jD JM;generalize cmpN c C=q at HM hd h5;have jF:=Kh (jh.out jk.out rfl);clear jh;obtain⟨Hi,Hj,Hk,Hl⟩:=hR.x2;obtain⟨hw,hy,hA,hD,hE,hG⟩:=hP.x3;go_wp2_with fail
   refine (HM.out _).mono ?_;rintro e w' ⟨rfl,rfl⟩;clear HM;go_wp2_with fail
   refine (HQ.out _ hr).mono ?_;rintro e w4 ⟨rfl,hb4⟩;clear Hi Hj Hk Hl;clear hw hy hA hD hE hG;replace hR:=hR.after hb4;replace hP:=hP.after hb4;replace hT:=hT.after hb4;replace hF:=hF.after hb4;replace hQ:=hQ.after hb4;replace hB:=hB.after hb4;replace hV:=SsAt.after hV hb4;replace hr:=bt hr hb4;clear hb4 HQ hd h5;cases bi
   ·have HX:=Kh (HJ.out 2 (by decide) (prv_c (att:=att) (K:=K) (T:=T) jj.out jk.out je.out.symm));go_wp2_with fail
    refine (pfail_c _ _).mono ?_;rintro e wf ⟨rfl,ht⟩;have hH:=hF.after ht;have hI:=hQ.after ht;have hZ:=hH.lt;have h3:=hI.lt;have h6:=bt hr ht;obtain⟨hg,hJ,hh,hM,hj,hN⟩:=hH.x3;obtain⟨hl,hO,hp,hU,hq,hY⟩:=hI.x3;go_wp2;(try rw[Exit.noGoto_ret])
    refine bodyPost_ret (v:=.tuple #[.agg #[.slice none 0 0,.string ⟨#[]⟩,.slice none 0 0],.agg #[.slice none 0 0,.string ⟨#[]⟩,.int .i64 0],.int .i64 2]) ?_ rfl ?_
    ·simp[results,Tryz.results18,go_sem,hg,hh,hj,hl,hp,hq,hZ,h3,Hp,Ht]
    ·rw[HX.out.2.1,HX.out.2.2,HX.out.1];exact ppost_err (by decide) rfl rfl ((((((h6.setCell he.out.2.1 _).setCell he.out.2.1 _).setCell he.out.2.1 _).setCell he.out.2.2.1 _).setCell he.out.2.2.1 _).setCell he.out.2.2.1 _)
   ·clear hR;obtain⟨hw,hy,hA,hD,hE,hG⟩:=hP.x3;go_wp2_with fail
    refine (HR.out _ hr).mono ?_;rintro e w5 ⟨rfl,Hq⟩;clear hw hy hA hD hE hG;replace hP:=hP.after Hq;replace hT:=hT.after Hq;replace hF:=hF.after Hq;replace hQ:=hQ.after Hq;replace hB:=hB.after Hq;replace hV:=SsAt.after hV Hq;replace hr:=bt hr Hq;clear Hq HR;cases bh
    ·have HX:=Kh (HJ.out 18 (by decide) (prv_d (att:=att) (K:=K) (T:=T) jj.out jk.out je.out.symm jv.out.symm));go_wp2_with fail
     refine (pfail_c _ _).mono ?_;rintro e wf ⟨rfl,ht⟩;have hH:=hF.after ht;have hI:=hQ.after ht;have hZ:=hH.lt;have h3:=hI.lt;have h6:=bt hr ht;obtain⟨hg,hJ,hh,hM,hj,hN⟩:=hH.x3;obtain⟨hl,hO,hp,hU,hq,hY⟩:=hI.x3;go_wp2;(try rw[Exit.noGoto_ret])
     refine bodyPost_ret (v:=.tuple #[.agg #[.slice none 0 0,.string ⟨#[]⟩,.slice none 0 0],.agg #[.slice none 0 0,.string ⟨#[]⟩,.int .i64 0],.int .i64 18]) ?_ rfl ?_
     ·simp[results,Tryz.results18,go_sem,hg,hh,hj,hl,hp,hq,hZ,h3,Hp,Ht]
     ·rw[HX.out.2.1,HX.out.2.2,HX.out.1];exact ppost_err (by decide) rfl rfl ((((((h6.setCell he.out.2.1 _).setCell he.out.2.1 _).setCell he.out.2.1 _).setCell he.out.2.2.1 _).setCell he.out.2.2.1 _).setCell he.out.2.2.1 _)
    ·have h4:Hid (RR=N.prv att C K c W 64 T):=j1.out.trans (prv_e (att:=att) (K:=K) (T:=T) jj.out jk.out je.out.symm jv.out.symm);clear HJ j1 je jv;have JT:Hid (gS<w5.heap.size∧gT<w5.heap.size∧gF<w5.heap.size∧gQ<w5.heap.size):=⟨hP.lt,hT.lt,hF.lt,hQ.lt⟩;go_wp2;go_step3
     go_wp2;go_loopw [101] (fun v wr=>∃(i:Nat) (Ti:Tp) (uo:Option Addr) (um uc:Nat),i≤64∧v=.int .i64 i∧Hid (RR=N.prv att C K c W (64-i) Ti∧Ti.seed=T.seed∧Ti.Ok)∧Blk wr gS 29 [.slice a1 n1 c1,.slice a2 nw c2,.slice a3 n3 c3]∧Blk wr gT 33 [.slice uo um uc,.string Ti.seed,.int .i64 Ti.pos]∧Blk wr gF 40 [.slice none 0 0,.string ⟨#[]⟩,.slice none 0 0]∧Blk wr gQ 33 [.slice none 0 0,.string ⟨#[]⟩,.int .i64 0]∧LmOwn wr B (.slice a6 nw c6) (N.lims C K)∧SsAt wr (.slice uo um uc) Ti.vals∧FarS (.slice uo um uc) gT∧FarS (.slice uo um uc) gF∧FarS (.slice uo um uc) gQ∧Hid (w5.heap.size≤wr.heap.size)∧Bw w wr) (fun v _=>64-(intOf v).toNat)
     case atStart=>exact⟨0,T,a5,nt,c5,by omega,rfl,⟨h4.out,rfl,JK.out⟩,hP,hT,hF,hQ,hB,hV,HN,HO,HP,Nat.le_refl _,hr⟩
     case round =>
      clear hP hT hF hQ hB hV HN HO HP hr h4;obtain⟨i,Ti,uo,um,uc,hi,rfl,h4,hP,hT,hF,hQ,hB,hV,Jc,Jd,Je,Jf,hr⟩:=hrel;obtain⟨wp,JN⟩:∃wp,wp=wr:=⟨_,rfl⟩;subst JN;by_cases hlt:i<64
      ·obtain⟨f,hf⟩:∃f,64-i=f+1:=⟨63-i,by omega⟩;have JO:Hid (64-(i+1)=f):=by rw[Hid];omega
       rw[hf]at h4;clear hf;have jG:=Kh (j3.out Ti _ _ _ wp (by rw[h4.out.2.1];exact JJ.out) h4.out.2.2 hr hB hV);have HS:Hid ((N.drwR att C K Ti).err≠0→RR=⟨(N.drwR att C K Ti).err,[],Tp.nil⟩):=fun h=>h4.out.1.trans (prv_err h)
       have HT:Hid ((N.drwR att C K Ti).err=0→N.rsp2 C K c W (N.drwR att C K Ti).msk=0→RR=N.drwR att C K Ti):=fun h h2=>h4.out.1.trans (prv_done h h2)
       have HU:Hid ((N.drwR att C K Ti).err=0→N.rsp2 C K c W (N.drwR att C K Ti).msk≠0→RR=N.prv att C K c W f (N.drwR att C K Ti).tp):=fun h h2=>h4.out.1.trans (prv_next h h2)
       have HV:Hid ((N.drwR att C K Ti).err=0→(N.drwR att C K Ti).tp.seed=T.seed∧(N.drwR att C K Ti).tp.Ok∧(N.drwR att C K Ti).msk.length=nw∧∀z∈(N.drwR att C K Ti).msk,z.natAbs<256^64):=fun h=>by
        obtain⟨e1,e2,e3⟩:=j5.out Ti h;rw[e1];exact⟨h4.out.2.1,h4.out.2.2.on _,e2,e3⟩
       clear h4;generalize N.drwR att C K Ti=D at jG HS HT HU HV;obtain⟨ke,M,tD⟩:=D;simp only[]at HS HT HU HV;have jl:=hT.lt;obtain⟨hw,hy,hA,hD,hE,hG⟩:=hP.x3;obtain⟨Hu,Hv,Hw,Hx,Hy,Hz⟩:=hT.x3;go_wp2_with fail
       refine jG.out.mono ?_;rintro e w6 ⟨mv,u2,rfl,HW,HY,HZ,Jg⟩;clear hw hy hA hD hE hG;clear Hu Hv Hw Hx Hy Hz;simp only[]at HW HY HZ ⊢;have f2T:=HZ gT hT.lt Jc;have f2F:=HZ gF hF.lt Jd;have f2Q:=HZ gQ hQ.lt Je;obtain⟨u2o,u2c,rfl⟩:=RAt.form HY;obtain⟨ul,Jh⟩:∃l,l=tD.vals.length:=⟨_,rfl⟩;rw[←Jh]at HY f2T f2F f2Q ⊢;obtain⟨mo,mc,rfl⟩:=HW.zs.form;obtain⟨ml,jH⟩:∃l,l=M.length:=⟨_,rfl⟩;have JU:=Kh jH;rw[←jH]at HW ⊢;clear HZ hV Jc Jd Je jl Jh jH jG;have Hd:=bt Jg (b1 w6 (.cells #[.slice u2o ul u2c,.string tD.seed,.int .i64 tD.pos] 33));have hX:=Blk.new w6 #[.slice u2o ul u2c,.string tD.seed,.int .i64 tD.pos] 33;replace hP:=hP.after Hd;replace hT:=hT.after Hd;replace hF:=hF.after Hd;replace hQ:=hQ.after Hd;replace hB:=hB.after Hd;replace hr:=bt hr Hd;have jI:Hid (w5.heap.size≤w6.heap.size+1):=by have h:=Nat.le_trans Jf.out Hd.size;rw[World.size_alloc]at h;exact h
       have jm:=SsAt.after HY (b1 w6 (.cells #[.slice u2o ul u2c,.string tD.seed,.int .i64 tD.pos] 33));have H0:ZOwn _ wp.heap.size (.slice mo ml mc) M:=own_after HW (b1 w6 (.cells #[.slice u2o ul u2c,.string tD.seed,.int .i64 tD.pos] 33));clear HY HW Jg Jf;by_cases H1:ke=0
       ·subst H1;have Hn:=Kh (HV.out rfl);have H2:=Kh (HT.out rfl);have H3:=Kh (HU.out rfl);clear HS HT HU HV;go_upto_region 21 with fail
        generalize w6.alloc (.cells #[.slice u2o ul u2c,.string tD.seed,.int .i64 tD.pos] 33)=w7 at Hd hX hP hT hF hQ hB hr jm H0 ⊢;obtain⟨gX,Ji⟩:∃g,w6.heap.size=g:=⟨_,rfl⟩;rw[Ji]at hX jI ⊢;clear Ji;replace hX:Blk w7 gX 33 [.slice u2o ul u2c,.string tD.seed,.int .i64 tD.pos]:=hX;have Jj:=hX.lt;have jl:=hT.lt;have jn:=own_ne H0 hT (by decide);have jo:=own_ne hB hT (by decide);have Hr:=((hP.other ⟨gT,0,none⟩ (.slice u2o ul u2c) he.out.2.2.2.1).other ⟨gT,1,none⟩ (.string tD.seed) he.out.2.2.2.1).other ⟨gT,2,none⟩ (.int .i64 tD.pos) he.out.2.2.2.1;have He:=((hT.set 0 (.slice u2o ul u2c)).set 1 (.string tD.seed)).set 2 (.int .i64 tD.pos);have Hf:=((hF.other ⟨gT,0,none⟩ (.slice u2o ul u2c) he.out.2.2.2.2.1).other ⟨gT,1,none⟩ (.string tD.seed) he.out.2.2.2.2.1).other ⟨gT,2,none⟩ (.int .i64 tD.pos) he.out.2.2.2.2.1;have Hg:=((hQ.other ⟨gT,0,none⟩ (.slice u2o ul u2c) he.out.2.2.2.2.2.1).other ⟨gT,1,none⟩ (.string tD.seed) he.out.2.2.2.2.2.1).other ⟨gT,2,none⟩ (.int .i64 tD.pos) he.out.2.2.2.2.2.1;have HA:LmOwn (((w7.setCell ⟨gT,0,none⟩ (.slice u2o ul u2c)).setCell ⟨gT,1,none⟩ (.string tD.seed)).setCell ⟨gT,2,none⟩ (.int .i64 tD.pos)) B (.slice a6 nw c6) (N.lims C K):=own_set (own_set (own_set hB jo) jo) jo;have jp:ZOwn (((w7.setCell ⟨gT,0,none⟩ (.slice u2o ul u2c)).setCell ⟨gT,1,none⟩ (.string tD.seed)).setCell ⟨gT,2,none⟩ (.int .i64 tD.pos)) wp.heap.size (.slice mo ml mc) M:=own_set (own_set (own_set H0 jn) jn) jn;have HB:=((jm.set_far (i:=0) (x:=.slice u2o ul u2c) f2T).set_far (i:=1) (x:=.string tD.seed) f2T).set_far (i:=2) (x:=.int .i64 tD.pos) f2T;have hv:=((hr.setCell (p:=⟨gT,0,none⟩) he.out.1 (.slice u2o ul u2c)).setCell (p:=⟨gT,1,none⟩) he.out.1 (.string tD.seed)).setCell (p:=⟨gT,2,none⟩) he.out.1 (.int .i64 tD.pos);have jJ:Hid (w5.heap.size≤(((w7.setCell ⟨gT,0,none⟩ (.slice u2o ul u2c)).setCell ⟨gT,1,none⟩ (.string tD.seed)).setCell ⟨gT,2,none⟩ (.int .i64 tD.pos)).heap.size):=by rw[Hid];have h:=jI.out;have h2:=Jj;simp;omega
        obtain⟨jK,jL,jM,jN,jO,jP⟩:=hX.x3;obtain⟨Hu,Hv,Hw,Hx,Hy,Hz⟩:=hT.x3;go_upto_region 22 with fail
        clear jK jL jM jN jO jP;clear Hu Hv Hw Hx Hy Hz;clear Hd hX hP hT hF hQ hB hr jm H0 Jj jl jn jo jI;generalize ((w7.setCell ⟨gT,0,none⟩ (.slice u2o ul u2c)).setCell ⟨gT,1,none⟩ (.string tD.seed)).setCell ⟨gT,2,none⟩ (.int .i64 tD.pos)=w8 at Hr He Hf Hg HA jp HB hv jJ ⊢;replace He:Blk w8 gT 33 [.slice u2o ul u2c,.string tD.seed,.int .i64 tD.pos]:=He;have Jk:=Kh Hn.out.2.2.2;have Jl:=Kh Hn.out.2.2.1;have Jm:=Kh (j4.out M _ w8 hv jp.zs Jk.out Jl.out);obtain⟨h7,h8,h9,Ha,Hb,Hc⟩:=Hr.x3;go_wp2_with fail
        refine Jm.out.mono ?_;rintro e w9 ⟨fv,rfl,HG,hb9⟩;clear h7 h8 h9 Ha Hb Hc;obtain⟨fo,fc,rfl⟩:=RAt.form HG.ss;obtain⟨fl,Jn⟩:∃l,l=((N.imgs M).map E).length:=⟨_,rfl⟩;rw[←Jn]at HG ⊢;replace Hr:=Hr.after hb9;replace He:=He.after hb9;replace Hf:=Hf.after hb9;replace Hg:=Hg.after hb9;replace HA:=HA.after hb9;have Jo:ZOwn w9 wp.heap.size (.slice mo ml mc) M:=own_after jp hb9;replace HB:=SsAt.after HB hb9;have Jp:=hv.size;replace HG:NOwn w9 w.heap.size (.slice fo fl fc) (N.imgs M):=own_mono HG Jp;replace hv:=bt hv hb9;have Jq:Hid (w5.heap.size≤w9.heap.size):=Nat.le_trans jJ.out hb9.size;clear hb9 Jm jp jJ Jn Jp;have Jr:=Kh (jF.out M _ _ _ w9 hv HA Jo.zs Jk.out Jl.out);obtain⟨h7,h8,h9,Ha,Hb,Hc⟩:=Hr.x3;go_wp2_with fail
        refine Jr.out.mono ?_;rintro e wA ⟨rv,rfl,Hs,Hh⟩;clear h7 h8 h9 Ha Hb Hc;obtain⟨ro,rc,rfl⟩:=Hs.zs.form;obtain⟨rl,Js⟩:∃l,l=(N.rspR2 C K c W M).length:=⟨_,rfl⟩;rw[←Js]at Hs ⊢;replace Hr:=Hr.after Hh;replace He:=He.after Hh;replace Hf:=Hf.after Hh;replace Hg:=Hg.after Hh;replace HA:=HA.after Hh;replace HB:=SsAt.after HB Hh;have jQ:NOwn wA w.heap.size (.slice fo fl fc) (N.imgs M):=own_after HG Hh;have Jt:=hv.size;replace Hs:ZOwn wA w.heap.size (.slice ro rl rc) (N.rspR2 C K c W M):=own_mono Hs Jt;replace hv:=bt hv Hh;have JP:Hid (w5.heap.size≤wA.heap.size):=Nat.le_trans Jq.out Hh.size;clear Hh Jr HG Jo Jq Js Jt
        have H4:Hid (N.rsp2 C K c W M=0∨N.rsp2 C K c W M=15):=by
         unfold Hid NSta.rsp2;split
         ·exact .inr rfl
         ·exact .inl rfl
        have Ju:Hid (N.rsp2 C K c W M=0→N.rspR2 C K c W M=N.rspL c W M):=fun h=>by unfold NSta.rspR2;rw[if_pos h]
        generalize N.rsp2 C K c W M=r2 at H4 Ju H2 H3 ⊢;rcases H4.out with jR | jR
        ·subst jR;have HC:=Kh (H2.out rfl);have jS:=Kh (Ju.out rfl);rw[jS.out]at Hs;have jT:=own_ne jQ Hf (by decide);have jU:=own_ne jQ Hg (by decide);have jV:=own_ne Hs Hf (by decide);have jW:=own_ne Hs Hg (by decide);have jl:=He.lt;have hZ:=Hf.lt;have h3:=Hg.lt;have n1':¬ gT=gF:=fun e=>he.out.2.2.2.2.1 e.symm
         have n2':¬ gT=gQ:=fun e=>he.out.2.2.2.2.2.1 e.symm
         obtain⟨Jv,Jw,Jx,Jy,Jz,JA⟩:=He.x3;obtain⟨H5,JB,H6,JC,H7,JD⟩:=Hf.x3;obtain⟨H8,JE,H9,JF,ja,JG⟩:=Hg.x3;go_wp2_with fail
         go_region;go_wp2;(try rw[Exit.noGoto_ret])
         refine bodyPost_ret (v:=.tuple #[.agg #[.slice fo fl fc,.string (E c),.slice ro rl rc],.agg #[.slice u2o ul u2c,.string tD.seed,.int .i64 tD.pos],.int .i64 0]) ?_ rfl ?_
         ·simp[results,Tryz.results18,go_sem,H5,H6,H7,H8,H9,ja,hZ,h3,Hp,Ht]
         ·rw[(HK.out (by rw[HC.out])).1,(HK.out (by rw[HC.out])).2,HC.out];exact⟨_,_,_,_,rfl,rfl,World.ownsRow.drew (own_set (own_set (own_set (own_set (own_set (own_set jQ jT) jT) jT) jU) jU) jU),World.ownsRow.drew (own_set (own_set (own_set (own_set (own_set (own_set Hs jV) jV) jV) jW) jW) jW),SsAt.after ((((((HB.set_far f2F).set_far f2F).set_far f2F).set_far f2Q).set_far f2Q).set_far f2Q) (Below.drew Br),((((((hv.setCell he.out.2.1 _).setCell he.out.2.1 _).setCell he.out.2.1 _).setCell he.out.2.2.1 _).setCell he.out.2.2.1 _).setCell he.out.2.2.1 _).drew⟩
        ·subst jR;have JQ:=Kh (H3.out (by decide));go_wp2;go_roundw
         case rel=>exact⟨i+1,tD,u2o,ul,u2c,by omega,by go_num,⟨by rw[JO.out];exact JQ.out,Hn.out.1,Hn.out.2.1⟩,Hr,He,Hf,Hg,HA,HB,f2T,f2F,f2Q,JP.out,hv⟩
         case measure=>simp[intOf];omega
       ·have JV:((ke:Int) != 0)=true:=by rw[bne_iff_ne];omega
        have jb:=Kh (HS.out H1);have HX:Hid (RR=⟨ke,[],Tp.nil⟩∧RF=[]∧RY=[]):=⟨jb.out,HL.out ke H1 jb.out⟩;have JR:=Kh H1;clear H1 HS HT HU HV jm H0 hX Hd hB hP hT;go_wp2_with fail
        refine (pfail_c _ _).mono ?_;rintro e wf ⟨rfl,ht⟩;have hH:=hF.after ht;have hI:=hQ.after ht;have hZ:=hH.lt;have h3:=hI.lt;have h6:=bt hr ht;obtain⟨hg,hJ,hh,hM,hj,hN⟩:=hH.x3;obtain⟨hl,hO,hp,hU,hq,hY⟩:=hI.x3;go_wp2;(try rw[Exit.noGoto_ret])
        refine bodyPost_ret (v:=.tuple #[.agg #[.slice none 0 0,.string ⟨#[]⟩,.slice none 0 0],.agg #[.slice none 0 0,.string ⟨#[]⟩,.int .i64 0],.int .i64 (ke:Int)]) ?_ rfl ?_
        ·simp[results,Tryz.results18,go_sem,hg,hh,hj,hl,hp,hq,hZ,h3,Hp,Ht]
        ·rw[HX.out.2.1,HX.out.2.2,HX.out.1];exact ppost_err JR.out rfl rfl ((((((h6.setCell he.out.2.1 _).setCell he.out.2.1 _).setCell he.out.2.1 _).setCell he.out.2.2.1 _).setCell he.out.2.2.1 _).setCell he.out.2.2.1 _)
      ·obtain rfl:i=64:=by omega
       have jb:Hid (RR=⟨15,[],Tp.nil⟩):=h4.out.1;have HX:Hid (RR=⟨15,[],Tp.nil⟩∧RF=[]∧RY=[]):=⟨jb.out,HL.out 15 (by decide) jb.out⟩;go_wp2_with fail
       refine (pfail_c _ _).mono ?_;rintro e wf ⟨rfl,ht⟩;have hH:=hF.after ht;have hI:=hQ.after ht;have hZ:=hH.lt;have h3:=hI.lt;have h6:=bt hr ht;obtain⟨hg,hJ,hh,hM,hj,hN⟩:=hH.x3;obtain⟨hl,hO,hp,hU,hq,hY⟩:=hI.x3;go_wp2;(try rw[Exit.noGoto_ret])
       refine bodyPost_ret (v:=.tuple #[.agg #[.slice none 0 0,.string ⟨#[]⟩,.slice none 0 0],.agg #[.slice none 0 0,.string ⟨#[]⟩,.int .i64 0],.int .i64 15]) ?_ rfl ?_
       ·simp[results,Tryz.results18,go_sem,hg,hh,hj,hl,hp,hq,hZ,h3,Hp,Ht]
       ·rw[HX.out.2.1,HX.out.2.2,HX.out.1];exact ppost_err (by decide) rfl rfl ((((((h6.setCell he.out.2.1 _).setCell he.out.2.1 _).setCell he.out.2.1 _).setCell he.out.2.2.1 _).setCell he.out.2.2.1 _).setCell he.out.2.2.1 _)
  ·have HX:=Kh (HJ.out 2 (by decide) (prv_b (att:=att) (K:=K) (T:=T) jj.out jE));have hd:decide (0≤cmpN c C)=true:=Dt (by have:=cmp_nneg c C jE;omega);have h5:0≤cmpN c C:=of_decide_eq_true hd;clear jE;generalize cmpN c C=q at HM hd h5;obtain⟨Hi,Hj,Hk,Hl⟩:=hR.x2;obtain⟨hw,hy,hA,hD,hE,hG⟩:=hP.x3;go_wp2_with fail
   refine (HM.out _).mono ?_;rintro e w' ⟨rfl,rfl⟩;go_wp2_with fail
   refine (pfail_c _ _).mono ?_;rintro e wf ⟨rfl,ht⟩;have hH:=hF.after ht;have hI:=hQ.after ht;have hZ:=hH.lt;have h3:=hI.lt;have h6:=bt hr ht;obtain⟨hg,hJ,hh,hM,hj,hN⟩:=hH.x3;obtain⟨hl,hO,hp,hU,hq,hY⟩:=hI.x3;go_wp2;(try rw[Exit.noGoto_ret])
   refine bodyPost_ret (v:=.tuple #[.agg #[.slice none 0 0,.string ⟨#[]⟩,.slice none 0 0],.agg #[.slice none 0 0,.string ⟨#[]⟩,.int .i64 0],.int .i64 2]) ?_ rfl ?_
   ·simp[results,Tryz.results18,go_sem,hg,hh,hj,hl,hp,hq,hZ,h3,Hp,Ht]
   ·rw[HX.out.2.1,HX.out.2.2,HX.out.1];exact ppost_err (by decide) rfl rfl ((((((h6.setCell he.out.2.1 _).setCell he.out.2.1 _).setCell he.out.2.1 _).setCell he.out.2.2.1 _).setCell he.out.2.2.1 _).setCell he.out.2.2.1 _)
 ·have HX:=Kh (HJ.out 6 (by decide) (prv_a (att:=att) (C:=C) (K:=K) (c:=c) (T:=T) (by rw[←j7.out,←jy.out];exact HF)));have h2:((nw:Int) != (n2:Int))=true:=by rw[bne_iff_ne];omega
  have JW:((nw:Int)==(n2:Int))=false:=by rw[beq_eq_false_iff_ne];omega
  clear HF;obtain⟨hw,hy,hA,hD,hE,hG⟩:=hP.x3;go_wp2_with fail
  refine (pfail_c _ _).mono ?_;rintro e wf ⟨rfl,ht⟩;have hH:=hF.after ht;have hI:=hQ.after ht;have hZ:=hH.lt;have h3:=hI.lt;have h6:=bt hr ht;obtain⟨hg,hJ,hh,hM,hj,hN⟩:=hH.x3;obtain⟨hl,hO,hp,hU,hq,hY⟩:=hI.x3;go_wp2;(try rw[Exit.noGoto_ret])
  refine bodyPost_ret (v:=.tuple #[.agg #[.slice none 0 0,.string ⟨#[]⟩,.slice none 0 0],.agg #[.slice none 0 0,.string ⟨#[]⟩,.int .i64 0],.int .i64 6]) ?_ rfl ?_
  ·simp[results,Tryz.results18,go_sem,hg,hh,hj,hl,hp,hq,hZ,h3,Hp,Ht]
  ·rw[HX.out.2.1,HX.out.2.2,HX.out.1];exact ppost_err (by decide) rfl rfl ((((((h6.setCell he.out.2.1 _).setCell he.out.2.1 _).setCell he.out.2.1 _).setCell he.out.2.2.1 _).setCell he.out.2.2.1 _).setCell he.out.2.2.1 _)
end
end Go.Proofs.YtihjpddbjhcbmaaGreatDoor
