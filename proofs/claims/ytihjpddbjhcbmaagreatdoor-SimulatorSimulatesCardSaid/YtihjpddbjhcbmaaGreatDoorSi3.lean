/- simulator.drawn: the draws of the responses. -/
import Derived.Test.YtihjpddbjhcbmaaGreatDoorDrp
import Derived.Test.YtihjpddbjhcbmaaGreatDoorPrv2
set_option linter.unusedVariables false
set_option linter.unusedSimpArgs false
set_option maxRecDepth 100000
set_option maxHeartbeats 16000000
namespace Go.Proofs.YtihjpddbjhcbmaaGreatDoor
section
/- What simulator.Simulate draws,in numbers. -/
open Go.RowKit Go.Shelf
def smpJ (att:Att) (q C K b:Nat) (T:Tp):Nat × Int:=
 if b=0 then ((coin att T (lim q C K b).2).1,((coin att T (lim q C K b).2).2:Int)) else csgn att T (lim q C K b).2
def NSta.smp (N:NSta) (att:Att) (C K:Nat) (T:Tp) (j:Nat):Nat × Int:=smpJ att N.ord C K (N.vars.getD j 0) (T.on j)
def NSta.smpL (N:NSta) (att:Att) (C K:Nat) (T:Tp):List Int:=(List.range N.vars.length).map fun j=>(N.smp att C K T j).2
def NSta.smpR (N:NSta) (att:Att) (C K:Nat) (T:Tp):Drw:=
 match (List.range N.vars.length).find? (fun j=>(N.smp att C K T j).1 != 0) with
 | some j=>⟨(N.smp att C K T j).1,[],Tp.nil⟩
 | none=>⟨0,N.smpL att C K T,T.on N.vars.length⟩
theorem smp_bad {N:NSta} {att:Att} {C K:Nat} {T:Tp} {k:Nat} (hk:k<N.vars.length) (h:∀j,j<k→(N.smp att C K T j).1=0) (he:(N.smp att C K T k).1≠0):N.smpR att C K T=⟨(N.smp att C K T k).1,[],Tp.nil⟩:=by
 unfold NSta.smpR;rw[find_range (p:=fun j=>(N.smp att C K T j).1 != 0) hk (fun j hj=>by rw[h j hj];rfl) (bne_iff_ne.2 he)]
theorem smp_ok {N:NSta} {att:Att} {C K:Nat} {T:Tp} (h:∀j,j<N.vars.length→(N.smp att C K T j).1=0):N.smpR att C K T=⟨0,N.smpL att C K T,T.on N.vars.length⟩:=by
 unfold NSta.smpR;rw[List.find?_eq_none.2 (fun j hj=>by have:=h j (List.mem_range.1 hj);simp[this])]
theorem smp_step (N:NSta) (att:Att) (C K:Nat) (T:Tp) (k:Nat) (h:k<N.vars.length):(N.smpL att C K T).take (k+1)=(N.smpL att C K T).take k++[(N.smp att C K T k).2]:=by
 unfold NSta.smpL;rw[←List.map_take,List.take_succ_eq_append_getElem (by simpa using h),List.map_append,List.map_take];simp only[List.getElem_range,List.map_cons,List.map_nil]
theorem smp_at (N:NSta) (att:Att) (C K:Nat) (T:Tp) (k:Nat) (h:k<N.vars.length):N.smp att C K T k=smpJ att N.ord C K N.vars[k] (T.on k):=by
 unfold NSta.smp;rw[List.getD_eq_getElem?_getD,List.getElem?_eq_getElem h,Option.getD_some]
theorem smp_inv {N:NSta} {att:Att} {C K:Nat} {T:Tp} (h:(N.smpR att C K T).err=0):N.smpR att C K T=⟨0,N.smpL att C K T,T.on N.vars.length⟩∧∀j,j<N.vars.length→(N.smp att C K T j).1=0:=by
 have hb:∀j,j<N.vars.length→(N.smp att C K T j).1=0:=by
  intro j hj;apply Classical.byContradiction
  intro hn;unfold NSta.smpR at h;split at h
  ·rename_i k hk;have:=List.find?_some hk;simp at this;exact this h
  ·rename_i hk;have:=List.find?_eq_none.1 hk j (List.mem_range.2 hj);simp at this;exact hn this
 exact⟨smp_ok hb,hb⟩
theorem lims2_lt {N:NSta} (hm:NOk N) {C K:Nat} (hC:C<256^16) (hK:K<256^16) {b:Nat} (hb:b∈N.vars):(lim N.ord C K b).2<256^60:=by
 have h:=lims1_lt hm hC hK hb;unfold lim at *;split at h
 ·rename_i h0;rw[if_pos h0];exact h
 ·rename_i h0;rw[if_neg h0];exact Nat.lt_of_le_of_lt (Nat.sub_le _ _) h
end
section
/- simulator.tape: whether a tape is well-formed. -/
open Go.RowKit Go.Shelf
theorem idx_stp (l:List ByteArray) (p:ByteArray→Bool) (v:Value) (w:World) (hn:l.length≤1000) (hR:SsAt w v l)
  (hf:∀k (hk:k<l.length) (w':World),Bw w w'→Calls Tryz.prog 192 #[.string (l[k]'hk)] w' fun e w''=>e=.returned (.bool (p (l[k]'hk)))∧Bw w' w'') :
  Calls Tryz.prog 252 #[v,.func (.func 192) #[] #[]] w (IPost (l.any p) w):=by
 obtain⟨ao,c,rfl⟩:=RAt.form hR;obtain⟨n,hd⟩:∃n,n=l.length:=⟨_,rfl⟩;have HN:=Kh hd;rw[←hd]at hR hn ⊢;clear hd;have HF:=Kh hf;clear hf;go_enter Tryz.func252,Tryz.ntmps252
 go_wp2;go_loopw [8] (fun i wr=>∃k:Nat,k≤n∧i=.int .i64 k∧Hid ((l.take k).any p=false)∧Bw w wr) (fun i _=>n-(intOf i).toNat)
 case atStart=>exact⟨0,by omega,rfl,rfl,Br⟩
 case round =>
  obtain⟨k,hk,rfl,HA,hc⟩:=hrel;obtain⟨wp,hg⟩:∃wp,wp=wr:=⟨_,rfl⟩;subst hg;replace hR:=SsAt.after hR hc;by_cases hlt:k<n
  ·have hb:k<l.length:=by rw[←HN.out];exact hlt
   have HT:=Kh (any_take p l k hb);have HB:Hid (p (l[k]'hb)=true→l.any p=true):=any_hit p l k hb;obtain⟨b,o,rfl,hi,x1⟩:=SsAt.at_ hR hb;have HC:=Kh (HF.out k hb _ hc);generalize p (l[k]'hb)=pk at HT HB HC;generalize (l[k]'hb)=x at x1 HC;have hh:(0:Int)≤(k:Int):=by omega
   have hj:(k:Int)<(n:Int):=by omega
   clear hR;cases pk
   ·have HX:Hid ((l.take (k+1)).any p=false):=by rw[Hid,HT.out,HA.out];rfl
    clear HT HB;go_wp2_with fail
    refine (HC.out).mono ?_;rintro e w2 ⟨rfl,he⟩;go_wp2;go_roundw
    case rel=>exact⟨k+1,by omega,by go_num,HX,bt hc he⟩
    case measure=>simp[intOf];omega
   ·have HX:Hid (l.any p=true):=HB.out rfl;clear HT HB;go_wp2_with fail
    refine (HC.out).mono ?_;rintro e w2 ⟨rfl,he⟩;go_wp2;go_ret
    exact⟨(k:Int),rfl,by rw[HX.out];exact Dt hh,bt hc he⟩
  ·have HX:Hid (l.any p=false):=any_end p l k (by rw[←HN.out];omega) HA.out;go_wp2;go_ret
   exact⟨-1,rfl,by rw[HX.out];rfl,hc⟩
theorem cont_stp (l:List ByteArray) (p:ByteArray→Bool) (b:Bool) (v:Value) (w:World) (hn:l.length≤1000) (hR:SsAt w v l) (hb:l.any p=b)
  (hf:∀k (hk:k<l.length) (w':World),Bw w w'→Calls Tryz.prog 192 #[.string (l[k]'hk)] w' fun e w''=>e=.returned (.bool (p (l[k]'hk)))∧Bw w' w'') :
  Calls Tryz.prog 175 #[v,.func (.func 192) #[] #[]] w fun e w'=>e=.returned (.bool b)∧Bw w w':=by
 have HE:=Kh (idx_stp l p v w hn hR hf);rw[hb]at HE;obtain⟨ao,c,rfl⟩:=RAt.form hR;generalize l.length=n at HE;clear hn hR hf hb;go_enter Tryz.func175,Tryz.ntmps175
 go_wp2_with fail
 refine HE.out.mono ?_;rintro e w1 ⟨i,rfl,hi,hc⟩;have HI:=Kh hi;clear hi;cases b
 ·have hi:decide (0≤i)=false:=HI.out;go_wp2;go_ret
  exact⟨rfl,hc⟩
 ·have hi:decide (0≤i)=true:=HI.out;go_wp2;go_ret
  exact⟨rfl,hc⟩
theorem stp1_c (s:ByteArray) (w:World) (hs:s.size≤1000) :
  Calls Tryz.prog 192 #[.string s] w fun e w'=>e=.returned (.bool (!(vldB s)))∧Bw w w':=by
 have HV:Hid (∀w,Calls Tryz.prog 79 #[.string s] w fun e w'=>e=.returned (.bool (vldB s))∧w'=w):=fun w=>valB_c s _ w hs rfl
 generalize vldB s=b at HV ⊢;cases b
 ·go_enter Tryz.func192,Tryz.ntmps192
  go_wp2_with fail
  refine (HV.out _).mono ?_;rintro e w2 ⟨rfl,rfl⟩;go_wp2;go_ret
  exact⟨rfl,Br⟩
 ·go_enter Tryz.func192,Tryz.ntmps192
  go_wp2_with fail
  refine (HV.out _).mono ?_;rintro e w2 ⟨rfl,rfl⟩;go_wp2;go_ret
  exact⟨rfl,Br⟩
theorem stape_c (T:Tp) (v:Value) (w:World) (hl:T.Ok) (hV:SsAt w v T.vals) :
  Calls Tryz.prog 95 #[.agg #[v,.string T.seed,.int .i64 T.pos]] w fun e w'=>e=.returned (.bool T.good)∧Bw w w':=by
 obtain⟨V,sd,p⟩:=T;have HG:Hid (Tp.good ⟨V,sd,p⟩=(V.all vldB&&(decide (0≤p)&&decide (p≤2147483647)))):=rfl
 have HC:Hid (∀w',Bw w w'→Calls Tryz.prog 175 #[v,.func (.func 192) #[] #[]] w' fun e w''=>e=.returned (.bool (!(V.all vldB)))∧Bw w' w''):=fun w' hb =>
  cont_stp V (fun x=>!(vldB x)) _ v w' (by have:=hl.n;simp only[]at this;omega) (SsAt.after hV hb) (any_not V) (fun k hk w2 _=>stp1_c _ w2 (by have:=hl.s _ (Gm hk);omega))
 obtain⟨ao,c,rfl⟩:=RAt.form hV;simp only[];generalize Tp.good ⟨V,sd,p⟩=g at HG ⊢;generalize V.all vldB=b at HG HC;generalize V.length=n at HC ⊢;clear hl hV;obtain⟨hP,hj⟩:=blk1 w #[.slice ao n c,.string sd,.int .i64 p] 33;obtain⟨t1,hm⟩:∃t:Bool,t=decide (0≤p):=⟨_,rfl⟩;obtain⟨t2,hn⟩:∃t:Bool,t=decide (p≤2147483647):=⟨_,rfl⟩;rw[←hm,←hn]at HG;have d1:=hm.symm;have d2:=hn.symm;clear hm hn;have HB:=Kh (And.intro d1 d2);clear d1 d2;cases b
 ·have HX:Hid (g=false):=by rw[Hid,HG.out];rfl
  obtain⟨hc,hd,he,hf,hg,hh⟩:=hP.x3;go_enter Tryz.func95,Tryz.ntmps95
  go_wp2_with fail
  refine (HC.out _ hj).mono ?_;rintro e w2 ⟨rfl,hi⟩;clear hc hd he hf hg hh;go_wp2;go_ret
  rw[HX.out];exact⟨rfl,bt hj hi⟩
 ·cases t1
  ·have HX:Hid (g=false):=by rw[Hid,HG.out];rfl
   obtain⟨hc,hd,he,hf,hg,hh⟩:=hP.x3;go_enter Tryz.func95,Tryz.ntmps95
   go_wp2_with fail
   refine (HC.out _ hj).mono ?_;rintro e w2 ⟨rfl,hi⟩;clear hc hd he hf hg hh;replace hP:=hP.after hi;have d1:=HB.out.1;obtain⟨hc,hd,he,hf,hg,hh⟩:=hP.x3;go_wp2;go_ret
   rw[HX.out];exact⟨rfl,bt hj hi⟩
  ·have HX:Hid (g=t2):=by rw[Hid,HG.out];rfl
   obtain⟨hc,hd,he,hf,hg,hh⟩:=hP.x3;go_enter Tryz.func95,Tryz.ntmps95
   go_wp2_with fail
   refine (HC.out _ hj).mono ?_;rintro e w2 ⟨rfl,hi⟩;clear hc hd he hf hg hh;replace hP:=hP.after hi;have d1:=HB.out.1;have d2:=HB.out.2;obtain⟨hc,hd,he,hf,hg,hh⟩:=hP.x3;go_wp2;go_ret
   rw[HX.out];exact⟨rfl,bt hj hi⟩
end
section
/- simulator.Simulate's closure: the draw of one response. -/
open Go.RowKit Go.Shelf
theorem coin_le (att:Att) (T:Tp) (n:Nat):(coin att T n).2≤n:=by
 unfold coin;split
 ·exact Nat.zero_le _
 ·split
  ·exact Nat.zero_le _
  ·unfold coinD;split
   ·split
    ·rename_i h;exact Nat.le_of_lt h
    ·exact Nat.zero_le _
   ·split
    ·exact Nat.zero_le _
    ·unfold coinS;split
     ·rename_i a ha;have:=List.find?_some ha;simp at this;exact Nat.le_of_lt this
     ·exact Nat.zero_le _
theorem sclo_s (att:Att) (N:NSta) (C K k gS gB:Nat) (T:Tp) (v1 v2 v3 vu vt:Value) (w:World) (hO:HAtt att T.seed w) (hW:T.Ok) (hC:C<256^16) (hK:K<256^16) (hm:NOk N) (hk:k<N.vars.length) (ht:¬ N.vars[k]=0) (hS:NAt w v1 v2 v3 N) (hP:Blk w gS 29 [v1,v2,v3]) (hQ:Blk w gB 31 [vu]) (hU:SsAt w vu (((N.lims C K).map (·.2)).map E)) (hV:SsAt w vt T.vals) :
  Calls Tryz.prog 97 #[.int .i64 (k:Int),.agg #[vt,.string T.seed,.int .i64 T.pos],.pointer (some ⟨gS,0,none⟩),.pointer (some ⟨gB,0,none⟩)] w (SCPost w T (smpJ att N.ord C K N.vars[k] T)):=by
 have hX:=lims2_lt hm hC hK (Gm hk);rw[show smpJ att N.ord C K N.vars[k] T=csgn att T (lim N.ord C K N.vars[k]).2 from if_neg ht];have hu:Hid (∀w',Bw w w'→Calls Tryz.prog 98 #[.agg #[vt,.string T.seed,.int .i64 T.pos],.string (E (lim N.ord C K N.vars[k]).2)] w' (SCPost w' T (csgn att T (lim N.ord C K N.vars[k]).2))):=fun w' hb=>csigned_c att T vt _ w' (hO.after hb) hW hX (SsAt.after hV hb)
 have hY:k<(((N.lims C K).map (·.2)).map E).length:=by simpa [NSta.lims] using hk
 have hZ:(((N.lims C K).map (·.2)).map E)[k]=E (lim N.ord C K N.vars[k]).2:=by simp[NSta.lims]
 have h0:Hid ((((N.lims C K).map (·.2)).map E).length=N.vars.length):=by rw[Hid,List.length_map,List.length_map,NSta.lims,List.length_map]
 obtain⟨a1,c1,a2,c2,a3,c3,rfl,rfl,rfl⟩:=hS.forms;obtain⟨bv,ov,rfl,hx,x1⟩:=hS.vat hk;obtain⟨a6,c6,rfl⟩:=RAt.form hU;rw[h0.out]at hU hQ;obtain⟨bu,ou,rfl,hy,y1⟩:=SsAt.at_ hU hY;rw[hZ]at y1;obtain⟨at_,ct,rfl⟩:=RAt.form hV;have Hv:(0:Int)≤(k:Int):=by omega
 have Hf:(k:Int)<(N.vars.length:Int):=by omega
 clear hU hS hY hZ h0 hX hm hO hW hV hC hK;generalize csgn att T (lim N.ord C K N.vars[k]).2=rc at hu ⊢;generalize (lim N.ord C K N.vars[k]).2=mk at y1 hu;obtain⟨ke,xe⟩:=rc;generalize (N.vars[k]'hk)=vb at x1 ht;clear hk;generalize N.vars.length=n2 at hP hQ Hf;generalize N.grps.length=n1 at hP;generalize N.eqs.length=n3 at hP;obtain⟨nt,h1⟩:∃n,n=T.vals.length:=⟨_,rfl⟩;rw[←h1]at hu ⊢;clear h1;obtain⟨hT,hI,hR,hc⟩:=blk3 w #[.slice at_ nt ct,.string T.seed,.int .i64 T.pos] #[.bool false,.string { data:=#[] }] #[.slice none 0 0,.string ⟨#[]⟩,.int .i64 0] 33 74 33;obtain⟨gI,h2⟩:∃g,w.heap.size+1=g:=⟨_,rfl⟩;obtain⟨gR,hz⟩:∃g,w.heap.size+1+1=g:=⟨_,rfl⟩;have hh:w.heap.size+2=gR:=hz;obtain⟨gT,h3⟩:∃g,w.heap.size=g:=⟨_,rfl⟩;have hA:=Kh h2;have h4:=Kh hz;have h5:=Kh hh;have hB:=Kh h3;have hd:Hid (w.heap.size≤gT∧w.heap.size≤gI∧w.heap.size≤gR∧gT≠gI∧gT≠gR∧gI≠gR):=by rw[Hid];omega
 clear h2 hz hh h3;have hv:=hP.after hc;have hw:=hQ.after hc;have x2:=(hc.cell (p:=⟨bv,ov+k,none⟩) hx).trans x1;have y2:=(hc.cell (p:=⟨bu,ou+k,none⟩) hy).trans y1;have hi:=Nl hx hc.size;have he:=Nl hy hc.size;clear x1 y1 hx hy hP hQ;go_enter Tryz.func97,Tryz.ntmps97
 go_upto_region 1 with fail
 generalize Hg:((w.alloc (.cells #[.slice at_ nt ct,.string T.seed,.int .i64 T.pos] 33)).alloc (.cells #[.bool false,.string { data:=#[] }] 74)).alloc (.cells #[.slice none 0 0,.string ⟨#[]⟩,.int .i64 0] 33)=w1 at hT hI hR hc hv hw x2 y2 hi he ⊢;clear Hg;rw[h5.out]at hR;rw[hA.out]at hI;rw[hB.out]at hT;rw[h4.out,hA.out,hB.out];clear hA h4 h5 hB;replace hT:Blk w1 gT 33 [.slice at_ nt ct,.string T.seed,.int .i64 T.pos]:=hT;replace hI:Blk w1 gI 74 [.bool false,.string { data:=#[] }]:=hI;replace hR:Blk w1 gR 33 [.slice none 0 0,.string ⟨#[]⟩,.int .i64 0]:=hR;have Hh:=hv.lt;have Hi:=nzE (Nat.pos_of_ne_zero ht);clear ht;obtain⟨hj,hl,hn,ho,hp,hq⟩:=hv.x3;go_wp2_with fail
 clear hj hl hn ho hp hq;clear x2 hi Hi Hh hv;have Hj:=hT.drew;have Hk:=hI.drew;have Hl:=hR.drew;have Hm:=hw.drew;have hf:=hc.drew;have yy0:w1.drew.cell? ⟨bu,ou+k,none⟩=some (.string (E mk)):=y2;have ku0:bu<w1.drew.heap.size:=he;have Hw:gT<w1.drew.heap.size:=hT.lt;have Hn:gI<w1.drew.heap.size:=hI.lt;have Ho:gR<w1.drew.heap.size:=hR.lt;have Hx:gB<w1.drew.heap.size:=hw.lt;have Hp:Hid (Bw w w1.drew):=hf;have e1:¬ gI=gR:=hd.out.2.2.2.2.2;have e2:¬ gR=gI:=fun e=>e1 e.symm
 have e3:¬ gT=gI:=hd.out.2.2.2.1;have e4:¬ gT=gR:=hd.out.2.2.2.2.1;have e5:¬ gI=gT:=fun e=>e3 e.symm
 have e6:¬ gR=gT:=fun e=>e4 e.symm
 clear hT hI hR hw y2 he hc;obtain⟨h6,h7,h8,h9,Ha,Hb⟩:=Hj.x3;obtain⟨Hc,Hd⟩:=Hm.x1;go_region_with (go_at_call 98;(with_reducible refine (hu.out _ Hp.out).mono ?_);rintro e wd ⟨t,rfl,⟨u,rfl,He⟩,hD,hbd⟩;obtain⟨xo,xc,rfl⟩:=RAt.form He;have hr:=Hk.after hbd;have hg:=Hl.after hbd;have hE:=bt hf hbd;have hF:=hr.cell 0;have hG:=hr.cell 1;have Hq:=hr.free 0;have Hr:=hr.free 1;have hH:=hg.cell 0;have hJ:=hg.cell 1;have hL:=hg.cell 2;have Hs:=hg.free 0;have Ht:=hg.free 1;have Hu:=hg.free 2;have hM:=hr.lt;have hN:=hg.lt)
 all_goals
  go_wp2;have fI:=hD.far Hn;have fR:=hD.far Ho;refine bodyPost_ret (v:=.tuple #[.agg #[.bool (sg xe),.string (E xe.natAbs)],.agg #[.slice xo (T.after ke).vals.length xc,.string (T.after ke).seed,.int .i64 (T.after ke).pos],.int .i64 (ke:Int)]) ?_ rfl ?_
  ·simp[results,Tryz.results97,go_sem,hF,hG,hH,hJ,hL,hM,hN,e1,e2]
  ·exact⟨_,rfl,⟨_,rfl,((((He.set_far fI).set_far fI).set_far fR).set_far fR).set_far fR⟩,hD.mono hf.size,((((hE.setCell hd.out.2.1 _).setCell hd.out.2.1 _).setCell hd.out.2.2.1 _).setCell hd.out.2.2.1 _).setCell hd.out.2.2.1 _⟩
theorem sclo_b (att:Att) (N:NSta) (C K k gS gB:Nat) (T:Tp) (v1 v2 v3 vu vt:Value) (w:World) (Hg:HAtt att T.seed w) (Hh:T.Ok) (hC:C<256^16) (hK:K<256^16) (hm:NOk N) (hk:k<N.vars.length) (hG:N.vars[k]=0) (hS:NAt w v1 v2 v3 N) (hP:Blk w gS 29 [v1,v2,v3]) (hQ:Blk w gB 31 [vu]) (hU:SsAt w vu (((N.lims C K).map (·.2)).map E)) (hV:SsAt w vt T.vals) :
  Calls Tryz.prog 97 #[.int .i64 (k:Int),.agg #[vt,.string T.seed,.int .i64 T.pos],.pointer (some ⟨gS,0,none⟩),.pointer (some ⟨gB,0,none⟩)] w (SCPost w T (smpJ att N.ord C K N.vars[k] T)):=by
 have hW:=lims2_lt hm hC hK (Gm hk);rw[show smpJ att N.ord C K N.vars[k] T=((coin att T (lim N.ord C K N.vars[k]).2).1,((coin att T (lim N.ord C K N.vars[k]).2).2:Int)) from if_pos hG];have hu:Hid (∀w',Bw w w'→Calls Tryz.prog 99 #[.agg #[vt,.string T.seed,.int .i64 T.pos],.string (E (lim N.ord C K N.vars[k]).2)] w' (CPost w' T (coin att T (lim N.ord C K N.vars[k]).2))):=fun w' hb=>cbelow_c att T vt _ w' (Hg.after hb) Hh (Nl hW P8) (SsAt.after hV hb)
 have hX:Hid ((coin att T (lim N.ord C K N.vars[k]).2).2<256^128):=Nat.lt_of_le_of_lt (coin_le _ _ _) (Nl hW P8);have Hi:k<(((N.lims C K).map (·.2)).map E).length:=by simpa [NSta.lims] using hk
 have Hj:(((N.lims C K).map (·.2)).map E)[k]=E (lim N.ord C K N.vars[k]).2:=by simp[NSta.lims]
 have Hk:Hid ((((N.lims C K).map (·.2)).map E).length=N.vars.length):=by rw[Hid,List.length_map,List.length_map,NSta.lims,List.length_map]
 obtain⟨a1,c1,a2,c2,a3,c3,rfl,rfl,rfl⟩:=hS.forms;obtain⟨bv,ov,rfl,hY,x1⟩:=hS.vat hk;obtain⟨a6,c6,rfl⟩:=RAt.form hU;rw[Hk.out]at hU hQ;obtain⟨bu,ou,rfl,hZ,y1⟩:=SsAt.at_ hU Hi;rw[Hj]at y1;obtain⟨at_,ct,rfl⟩:=RAt.form hV;have HS:(0:Int)≤(k:Int):=by omega
 have HA:(k:Int)<(N.vars.length:Int):=by omega
 clear hU hS Hi Hj Hk hW hm Hg Hh hV hC hK;generalize coin att T (lim N.ord C K N.vars[k]).2=rc at hu hX ⊢;generalize (lim N.ord C K N.vars[k]).2=mk at y1 hu;obtain⟨ke,xe⟩:=rc;generalize (N.vars[k]'hk)=vb at x1 hG;clear hk;generalize N.vars.length=n2 at hP hQ HA;generalize N.grps.length=n1 at hP;generalize N.eqs.length=n3 at hP;obtain⟨nt,Hl⟩:∃n,n=T.vals.length:=⟨_,rfl⟩;rw[←Hl]at hu ⊢;clear Hl;obtain⟨hT,hI,hR,hf⟩:=blk3 w #[.slice at_ nt ct,.string T.seed,.int .i64 T.pos] #[.bool false,.string { data:=#[] }] #[.slice none 0 0,.string ⟨#[]⟩,.int .i64 0] 33 74 33;obtain⟨gI,Hm⟩:∃g,w.heap.size+1=g:=⟨_,rfl⟩;obtain⟨gR,h0⟩:∃g,w.heap.size+1+1=g:=⟨_,rfl⟩;have hv:w.heap.size+2=gR:=h0;obtain⟨gT,Hn⟩:∃g,w.heap.size=g:=⟨_,rfl⟩;have h1:=Kh Hm;have Ho:=Kh h0;have Hp:=Kh hv;have h2:=Kh Hn;have he:Hid (w.heap.size≤gT∧w.heap.size≤gI∧w.heap.size≤gR∧gT≠gI∧gT≠gR∧gI≠gR):=by rw[Hid];omega
 clear Hm h0 hv Hn;have hH:=hP.after hf;have hJ:=hQ.after hf;have x2:=(hf.cell (p:=⟨bv,ov+k,none⟩) hY).trans x1;have y2:=(hf.cell (p:=⟨bu,ou+k,none⟩) hZ).trans y1;have hw:=Nl hY hf.size;have hp:=Nl hZ hf.size;clear x1 y1 hY hZ hP hQ;go_enter Tryz.func97,Tryz.ntmps97
 go_upto_region 1 with fail
 generalize HB:((w.alloc (.cells #[.slice at_ nt ct,.string T.seed,.int .i64 T.pos] 33)).alloc (.cells #[.bool false,.string { data:=#[] }] 74)).alloc (.cells #[.slice none 0 0,.string ⟨#[]⟩,.int .i64 0] 33)=w1 at hT hI hR hf hH hJ x2 y2 hw hp ⊢;clear HB;rw[Hp.out]at hR;rw[h1.out]at hI;rw[h2.out]at hT;rw[Ho.out,h1.out,h2.out];clear h1 Ho Hp h2;replace hT:Blk w1 gT 33 [.slice at_ nt ct,.string T.seed,.int .i64 T.pos]:=hT;replace hI:Blk w1 gI 74 [.bool false,.string { data:=#[] }]:=hI;replace hR:Blk w1 gR 33 [.slice none 0 0,.string ⟨#[]⟩,.int .i64 0]:=hR;have HC:=hH.lt;have HD:=zE hG;clear hG;obtain⟨hx,hy,hz,hA,hB,hD⟩:=hH.x3;go_wp2_with fail
 clear hx hy hz hA hB hD;clear x2 hw HD HC hH;have ht:=hT.drew;have hL:=hI.drew;have hM:=hR.drew;have Hq:=hJ.drew;have hc:=hf.drew;have yy0:w1.drew.cell? ⟨bu,ou+k,none⟩=some (.string (E mk)):=y2;have ku0:bu<w1.drew.heap.size:=hp;have h3:gT<w1.drew.heap.size:=hT.lt;have Hr:gI<w1.drew.heap.size:=hI.lt;have Hs:gR<w1.drew.heap.size:=hR.lt;have HE:gB<w1.drew.heap.size:=hJ.lt;have Ht:Hid (Bw w w1.drew):=hc;have e1:¬ gI=gR:=he.out.2.2.2.2.2;have e2:¬ gR=gI:=fun e=>e1 e.symm
 have e3:¬ gT=gI:=he.out.2.2.2.1;have e4:¬ gT=gR:=he.out.2.2.2.2.1;have e5:¬ gI=gT:=fun e=>e3 e.symm
 have e6:¬ gR=gT:=fun e=>e4 e.symm
 clear hT hI hR hJ y2 hp hf;obtain⟨T1,Hu⟩:∃t,t=T.after ke:=⟨_,rfl⟩;have Hv:=Kh Hu;clear Hu;have Hw:Hid (gR<w1.drew.heap.size):=Hs;have Hx:Hid (gI<w1.drew.heap.size):=Hr;clear Hs Hr;obtain⟨hh,hi,hj,hl,hn,ho⟩:=ht.x3;obtain⟨hE,hF⟩:=Hq.x1;go_cut [9,10] (fun s9 s10 wx=>s9=.string (E xe)∧s10=.int .i64 (ke:Int)∧∃(uo:Option Addr) (um uc:Nat),Blk wx gT 33 [.slice uo um uc,.string T1.seed,.int .i64 T1.pos]∧Blk wx gI 74 [.bool false,.string { data:=#[] }]∧Blk wx gR 33 [.slice none 0 0,.string ⟨#[]⟩,.int .i64 0]∧SsAt wx (.slice uo um uc) T1.vals∧FarS (.slice uo um uc) gI∧FarS (.slice uo um uc) gR∧TFar (.agg #[.slice uo um uc,.string T1.seed,.int .i64 T1.pos]) w.heap.size∧Bw w wx)
 case first =>
  go_region_with (go_at_call 99;(with_reducible refine (hu.out _ Ht.out).mono ?_);rintro e wd ⟨t,rfl,⟨u,rfl,hN⟩,hO,hbd⟩;obtain⟨xo,xc,rfl⟩:=RAt.form hN;have hd:=ht.after hbd;have hq:=hL.after hbd;have hg:=hM.after hbd;have hr:=bt hc hbd;have h4:=hd.cell 0;have h5:=hd.cell 1;have h6:=hd.cell 2;have HF:=hd.free 0;have HG:=hd.free 1;have HH:=hd.free 2;have h7:=hd.lt)
  all_goals
   go_wp2_with fail
   go_meet
   have fT:=hO.far h3;rw[Hv.out];exact⟨rfl,rfl,xo,_,xc,((hd.set 0 _).set 1 _).set 2 _,((hq.other _ _ e5).other _ _ e5).other _ _ e5,((hg.other _ _ e6).other _ _ e6).other _ _ e6,((hN.set_far fT).set_far fT).set_far fT,hO.far Hx.out,hO.far Hw.out,hO.mono hc.size,((hr.setCell he.out.1 _).setCell he.out.1 _).setCell he.out.1 _⟩
 case rest =>
 clear ht hL hM Hq hc yy0 ku0 h3 HE Ht hu hh hi hj hl hn ho hE hF Hw Hx;obtain⟨rfl,rfl,xo,xm,xc,hT,hI,hR,hU,Hy,h8,HI,Hz⟩:=hcut;obtain⟨wy,HJ⟩:∃wy,wy=wc:=⟨_,rfl⟩;subst HJ
 have HK:Hid (∀w,Calls Tryz.prog 100 #[.string (E xe)] w fun e w'=>e=.returned (.agg #[.bool false,.string (E xe)])∧Bw w w'):=fun w=>by
  have h:=ifrom_c xe w hX.out;rwa [Int.natAbs_natCast,sg_nat]at h
 have HL:Hid ((Value.agg #[.bool false,.string (E xe)])=.agg #[.bool (sg (xe:Int)),.string (E (xe:Int).natAbs)]):=by rw[Hid,Int.natAbs_natCast,sg_nat]
 clear hX;have ht:=hT.drew;have hL:=hI.drew;have hM:=hR.drew;have HM:SsAt wy.drew (.slice xo xm xc) T1.vals:=SsAt.after hU (Below.drew Br);have hc:=Hz.drew;have h3:gT<wy.drew.heap.size:=hT.lt;clear hT hI hR hU Hz;obtain⟨hh,hi,hj,hl,hn,ho⟩:=ht.x3;go_wp2_with fail
 go_region_with (go_at_call 100;(with_reducible refine (HK.out _).mono ?_);rintro e wd ⟨rfl,hbd⟩;have hd:=ht.after hbd;have hq:=hL.after hbd;have hg:=hM.after hbd;have hr:=bt hc hbd;have hN:=SsAt.after HM hbd;have h4:=hd.cell 0;have h5:=hd.cell 1;have h6:=hd.cell 2;have h7:=hd.lt;have h9:=hq.cell 0;have Ha:=hq.cell 1;have HN:=hq.free 0;have HO:=hq.free 1;have Hb:=hg.cell 0;have Hc:=hg.cell 1;have Hd:=hg.cell 2;have HP:=hg.free 0;have HQ:=hg.free 1;have HR:=hg.free 2;have He:=hq.lt;have Hf:=hg.lt)
 all_goals
  go_wp2;refine bodyPost_ret (v:=.tuple #[.agg #[.bool false,.string (E xe)],.agg #[.slice xo xm xc,.string T1.seed,.int .i64 T1.pos],.int .i64 (ke:Int)]) ?_ rfl ?_
  ·simp[results,Tryz.results97,go_sem,h9,Ha,Hb,Hc,Hd,He,Hf,e1,e2]
  ·rw[HL.out];refine⟨_,rfl,?_,HI,((((hr.setCell he.out.2.1 _).setCell he.out.2.1 _).setCell he.out.2.2.1 _).setCell he.out.2.2.1 _).setCell he.out.2.2.1 _⟩;show TAt _ _ (T.after ke);rw[←Hv.out];exact⟨_,rfl,((((hN.set_far Hy).set_far Hy).set_far h8).set_far h8).set_far h8⟩
theorem sclo_c (att:Att) (N:NSta) (C K k gS gB:Nat) (T:Tp) (v1 v2 v3 vu vt:Value) (w:World) (hb:HAtt att T.seed w) (hc:T.Ok) (hC:C<256^16) (hK:K<256^16) (hm:NOk N) (hk:k<N.vars.length) (hS:NAt w v1 v2 v3 N) (hP:Blk w gS 29 [v1,v2,v3]) (hQ:Blk w gB 31 [vu]) (hU:SsAt w vu (((N.lims C K).map (·.2)).map E)) (hV:SsAt w vt T.vals) :
  Calls Tryz.prog 97 #[.int .i64 (k:Int),.agg #[vt,.string T.seed,.int .i64 T.pos],.pointer (some ⟨gS,0,none⟩),.pointer (some ⟨gB,0,none⟩)] w (SCPost w T (smpJ att N.ord C K N.vars[k] T)):=by
 by_cases h:N.vars[k]=0
 ·exact sclo_b att N C K k gS gB T v1 v2 v3 vu vt w hb hc hC hK hm hk h hS hP hQ hU hV
 ·exact sclo_s att N C K k gS gB T v1 v2 v3 vu vt w hb hc hC hK hm hk h hS hP hQ hU hV
end
section
open Go.RowKit Go.Shelf
theorem sdrawn_c (att:Att) (N:NSta) (C K gS gB:Nat) (T:Tp) (v1 v2 v3 vu vt:Value) (w:World) (He:HAtt att T.seed w) (HO:T.Ok) (hC:C<256^16) (hK:K<256^16) (hm:NOk N) (hS:NAt w v1 v2 v3 N) (hP:Blk w gS 29 [v1,v2,v3]) (hQ:Blk w gB 31 [vu]) (hU:SsAt w vu (((N.lims C K).map (·.2)).map E)) (hV:SsAt w vt T.vals) :
  Calls Tryz.prog 96 #[.agg #[v1,v2,v3],.agg #[vt,.string T.seed,.int .i64 T.pos],.func (.func 97) #[] #[.pointer (some ⟨gS,0,none⟩),.pointer (some ⟨gB,0,none⟩)]] w (DWPost w vt (N.smpR att C K T)):=by
 obtain⟨i1,HP,hq,hr,ht⟩:=info_parts info_Int;have jv:=Kh HP;have jw:=Kh hq;have jx:=Kh hr;have jy:=Kh ht;clear HP hq hr ht
 have HF:Hid (∀(k:Nat) (hk:k<N.vars.length) (v:Value) (w':World),Bw w w'→SsAt w' v T.vals→Calls Tryz.prog 97 #[.int .i64 (k:Int),.agg #[v,.string T.seed,.int .i64 (T.pos+(k:Int))],.pointer (some ⟨gS,0,none⟩),.pointer (some ⟨gB,0,none⟩)] w' (SCPost w' (T.on k) (N.smp att C K T k))):=fun k hk v w' hb hv=>by
  rw[smp_at N att C K T k hk];exact sclo_c att N C K k gS gB (T.on k) v1 v2 v3 vu v w' (He.after hb) (HO.on k) hC hK hm hk (hS.after hb) (hP.after hb) (hQ.after hb) (SsAt.after hU hb) hv
 obtain⟨RR,Hf⟩:∃r,r=N.smpR att C K T:=⟨_,rfl⟩;have HQ:=Kh Hf;rw[←Hf];clear Hf;obtain⟨at_,ct,rfl⟩:=RAt.form hV;obtain⟨nt,HR⟩:∃n,n=T.vals.length:=⟨_,rfl⟩;rw[←HR]at hV ⊢;obtain⟨a1,c1,a2,c2,a3,c3,rfl,rfl,rfl⟩:=hS.forms;obtain⟨n2,hW⟩:∃n,n=N.vars.length:=⟨_,rfl⟩;have hY:=Kh hW;have l2:n2≤12:=by rw[hW];exact hm.nv
 rw[←hW];clear hS hP hQ hU hm hC hK He HO HR hW;generalize N.grps.length=n1;generalize N.eqs.length=n3;obtain⟨hP,hT,hR,hu⟩:=blk3 w #[.slice a1 n1 c1,.slice a2 n2 c2,.slice a3 n3 c3] #[.slice at_ nt ct,.string T.seed,.int .i64 T.pos] #[.slice none 0 0,.string ⟨#[]⟩,.int .i64 0] 29 33 33;obtain⟨gT,HS⟩:∃g,w.heap.size+1=g:=⟨_,rfl⟩;obtain⟨gR,Hg⟩:∃g,w.heap.size+1+1=g:=⟨_,rfl⟩;have hw:w.heap.size+2=gR:=Hg;have Hh:=Kh HS;have HT:=Kh Hg;have HU:=Kh hw;have hy:FarS (.slice at_ nt ct) gT:=ss_far hV (by omega);have hz:FarS (.slice at_ nt ct) gR:=ss_far hV (by omega);have hd:Hid (w.heap.size≤gT∧w.heap.size≤gR∧gT≠gR):=by rw[Hid];omega
 clear HS Hg hw;have Hi:=SsAt.after hV hu;obtain⟨Hj,Hk,Hl,Hm,Hn,Ho⟩:=hP.x3;go_enter Tryz.func96,Tryz.ntmps96
 go_wp2;clear Hj Hk Hl Hm Hn Ho;generalize jz:((w.alloc (.cells #[.slice a1 n1 c1,.slice a2 n2 c2,.slice a3 n3 c3] 29)).alloc (.cells #[.slice at_ nt ct,.string T.seed,.int .i64 T.pos] 33)).alloc (.cells #[.slice none 0 0,.string ⟨#[]⟩,.int .i64 0] 33)=w1 at hT hR hu Hi ⊢;clear hP;have HV:Hid (w.heap.size≤w1.heap.size):=hu.size;clear jz;rw[HU.out]at hR;rw[Hh.out]at hT;rw[HT.out,Hh.out];have hA:Hid (gT<w1.heap.size∧gR<w1.heap.size):=⟨hT.lt,hR.lt⟩;clear Hh HT HU;replace hT:Blk w1 gT 33 [.slice at_ nt ct,.string T.seed,.int .i64 T.pos]:=hT;replace hR:Blk w1 gR 33 [.slice none 0 0,.string ⟨#[]⟩,.int .i64 0]:=hR;go_loopw [9,17] (fun v9 i wr=>∃(k:Nat) (uo:Option Addr) (um uc:Nat),k≤n2∧i=.int .i64 k∧Hid (∀j,j<k→(N.smp att C K T j).1=0)∧ZOwn wr w1.heap.size v9 ((N.smpL att C K T).take k)∧Blk wr gT 33 [.slice uo um uc,.string T.seed,.int .i64 (T.pos+(k:Int))]∧Blk wr gR 33 [.slice none 0 0,.string ⟨#[]⟩,.int .i64 0]∧SsAt wr (.slice uo um uc) T.vals∧FarS (.slice uo um uc) gT∧FarS (.slice uo um uc) gR∧(∀g,g<w.heap.size→FarS (.slice at_ nt ct) g→FarS (.slice uo um uc) g)∧Hid (w1.heap.size≤wr.heap.size)∧Bw w wr) (fun _ i _=>n2-(intOf i).toNat)
 case atStart=>exact⟨0,at_,nt,ct,by omega,rfl,fun j h=>absurd h (Nat.not_lt_zero _),World.ownsRow_nil _ _ _ _,by rw[show T.pos+((0:Nat):Int)=T.pos by omega];exact hT,hR,Hi,hy,hz,fun g _ h=>h,Nat.le_refl _,hu⟩
 case round =>
  clear hT hR Hi hy hz hu;obtain⟨k,uo,um,uc,hk,rfl,hZ,hO,hT,hR,hU,jA,h0,HW,HY,hB⟩:=hrel;obtain⟨wp,jB⟩:∃wp,wp=wr:=⟨_,rfl⟩;subst jB;have jC:=Kh HW;clear HW;by_cases hlt:k<n2
  ·have Hp:k<N.vars.length:=by rw[←hY.out];exact hlt
   have Hq:=Kh (smp_step N att C K T k Hp);have HC:=Kh (HF.out k Hp _ wp hB hU);have h3:Hid ((N.smp att C K T k).1≠0→RR=⟨(N.smp att C K T k).1,[],Tp.nil⟩):=fun h=>HQ.out.trans (smp_bad Hp hZ.out h)
   have h5:Hid ((N.smp att C K T k).1=0→∀j,j<k+1→(N.smp att C K T j).1=0):=fun h j hj=>by
    by_cases e:j=k
    ·rw[e];exact h
    ·exact hZ.out j (by omega)
   clear hZ hU;generalize N.smp att C K T k=dk at HC h3 h5 Hq;obtain⟨ke,xe⟩:=dk;have Hr:Hid (((N.smpL att C K T).take k).length=k):=by rw[Hid,List.length_take,NSta.smpL,List.length_map,List.length_range];omega
   generalize (N.smpL att C K T).take k=LI at hO Hq Hr;replace hO:wp.ownsRow w1.heap.size 74 2 u9 k (ics (LI.map zI)):=by have h:wp.ownsRow _ _ _ _ _ _:=hO;rw[Hr.out]at h;exact h
   have j0:(0:Int)≤(k:Int):=by omega
   have j1:(k:Int)<(n2:Int):=by omega
   obtain⟨T1,HZ⟩:∃t,t=(T.on k).after ke:=⟨_,rfl⟩;have h6:=Kh HZ;clear HZ;have h7:=hT.lt;have hp:=hR.lt;obtain⟨hD,hf,hE,hh,hF,hi⟩:=hT.x3;go_wp2_with fail
   refine (HC.out).mono ?_;rintro e wd ⟨t,rfl,⟨u,rfl,hG⟩,hl,hbd⟩;clear hD hf hE hh hF hi;rw[←h6.out]at hG hl;rw[←h6.out];obtain⟨xo,xc,rfl⟩:=RAt.form hG;obtain⟨xm,H0⟩:∃m,m=T1.vals.length:=⟨_,rfl⟩;rw[←H0]at hG hl ⊢;clear H0;have h8:=Kh (hl.far h7);have jD:=Kh (hl.far hp);have jE:Hid (∀g,u9.ownBlock=some g→FarS (.slice xo xm xc) g):=fun g hg=>hl.far (own_lt hO hg).1
   have jF:Hid (∀g,g<w.heap.size→FarS (.slice xo xm xc) g):=fun g hg=>hl.far (Nl hg hB.size)
   have H1:=hT.after hbd;have H2:=hR.after hbd;have Hs:=own_after hO hbd;have H3:=bt hB hbd;have Ht:Hid (w1.heap.size≤wd.heap.size):=Nat.le_trans HY.out hbd.size;clear hT hR hO hB hbd HC hl jA h0 h7 hp HY;obtain⟨hI,hX,hn⟩:=blk2 wd #[.bool (sg xe),.string (E xe.natAbs)] #[.slice xo xm xc,.string T1.seed,.int .i64 T1.pos] 74 33;obtain⟨gI,H4⟩:∃g,wd.heap.size=g:=⟨_,rfl⟩;obtain⟨gX,H5⟩:∃g,wd.heap.size+1=g:=⟨_,rfl⟩;have H6:Hid (w1.heap.size≤gI∧w1.heap.size≤gX∧gI≠gX):=by have:=Ht.out;rw[Hid];omega
   have Hu:Hid (u9.ownBlock≠some gI∧u9.ownBlock≠some gX∧u9.ownBlock≠some gT∧u9.ownBlock≠some gR):=by
    have h1:=hA.out;refine⟨fun e=>?_,fun e=>?_,fun e=>?_,fun e=>?_⟩ <;> have h4:=own_lt Hs e <;> omega
   have Hv:=Kh H4;have Hw:=Kh H5;clear H4 H5;go_upto_region 6 with fail
   have Ha:=H1.after hn;have hH:=H2.after hn;have Hb:_:=own_after Hs hn;have hJ:=SsAt.after hG hn;have Hc:=bt H3 hn;have Hx:Hid (w1.heap.size≤((wd.alloc (.cells #[.bool (sg xe),.string (E xe.natAbs)] 74)).alloc (.cells #[.slice xo xm xc,.string T1.seed,.int .i64 T1.pos] 33)).heap.size):=Nat.le_trans Ht.out hn.size;generalize (wd.alloc (.cells #[.bool (sg xe),.string (E xe.natAbs)] 74)).alloc (.cells #[.slice xo xm xc,.string T1.seed,.int .i64 T1.pos] 33)=wy at hI hX Ha hH Hb hJ Hc Hx ⊢;clear hn H1 H2 Hs hG H3 Ht;rw[Hw.out]at hX;rw[Hv.out]at hI;rw[Hw.out,Hv.out];clear Hw Hv;replace hI:Blk wy gI 74 [.bool (sg xe),.string (E xe.natAbs)]:=hI;replace hX:Blk wy gX 33 [.slice xo xm xc,.string T1.seed,.int .i64 T1.pos]:=hX;by_cases Hy:ke=0
   ·subst Hy;have Hz:=Kh (h5.out rfl);clear h5 h3
    have HA:Hid (T1.vals=T.vals∧T1.seed=T.seed∧T1.pos=T.pos+((k+1:Nat):Int)):=by
     rw[Hid,h6.out,show (T.on k).after 0=T.on (k+1) from Tp.on_on T k 1];exact⟨rfl,rfl,rfl⟩
    rw[HA.out.1]at hJ;have HB:=Kh HA.out.2;rw[HB.out.1,HB.out.2]at hX;clear HA h6 HB;have H7:=hI;have HD:=hX;have HE:=Ha;have jG:=hH;have H8:=Hb;have jH:=hJ;have H9:=Hc;have HG:=Hx;have jI:=HG.out;have j2:=H7.lt;have j3:=HD.lt;have h7:=HE.lt;have e1:¬ gI=gT:=by have h1:=H6.out;have h2:=hA.out;omega
    have e2:¬ gX=gT:=by have h1:=H6.out;have h2:=hA.out;omega
    have e3:¬ gT=gR:=hd.out.2.2;clear hI hX Ha hH Hb hJ Hc Hx;obtain⟨ja,jb,jc,jd⟩:=H7.x2;obtain⟨je,jf,jg,jh,ji,jj⟩:=HD.x3;obtain⟨jk,jl,jm,jn,jo,jp⟩:=HE.x3;go_upto_region 8 with fail
    go_region_law (first | (refine step_append_lies _ (by rfl) (.tmp 32) (.tmp 34) _ (by rfl) w1.heap.size 74 i1 _ 2 24 Tryz.underlying30 jv.out jw.out jx.out jy.out rfl (by omega) u9 k (ics (LI.map zI)) (by rfl) (World.ownsRow.drew (own_after H8 (b1 wy (.cells #[.bool (sg xe),.string (E xe.natAbs)] 74)))) ⟨wy.heap.size,0,none⟩ 1 1 [.bool (sg xe),.string (E xe.natAbs)] (by rfl) rfl (Blk.new wy #[.bool (sg xe),.string (E xe.natAbs)] 74).drew.cells (by simp[Value.oneCell']) (by omega) (by simp only[maxLen];omega) (by omega) (by show w1.heap.size≤(wy.alloc (.cells #[.bool (sg xe),.string (E xe.natAbs)] 74)).heap.size;rw[World.size_alloc];have h9:w1.heap.size≤wy.heap.size:=HG.out;omega) (wy.heap.size+1) (by simp) ?_;intro ga ca wa ho hc He jJ;have he:=Blk.grown (HE.alloc (.cells #[.bool (sg xe),.string (E xe.natAbs)] 74)).drew hc Hu.out.2.2.1;have Hd:=Blk.grown (HD.alloc (.cells #[.bool (sg xe),.string (E xe.natAbs)] 74)).drew hc Hu.out.2.1;have jK:=Blk.grown (jG.alloc (.cells #[.bool (sg xe),.string (E xe.natAbs)] 74)).drew hc Hu.out.2.2.2;have jL:=SsAt.grown (SsAt.after (SsAt.after jH (b1 wy (.cells #[.bool (sg xe),.string (E xe.natAbs)] 74))) (Below.drew Br)) hc jE.out;have jM:=(ba H9 (.cells #[.bool (sg xe),.string (E xe.natAbs)] 74)).drew.grown hc (by have:=H9.size;show w.heap.size≤(wy.alloc (.cells #[.bool (sg xe),.string (E xe.natAbs)] 74)).heap.size;rw[World.size_alloc];omega) (fun x hx=>Nat.le_trans HV.out (own_lt H8 hx).2);have jN:Hid (w1.heap.size≤wa.heap.size):=Nat.le_trans (Nat.le_trans HG.out (b1 wy (.cells #[.bool (sg xe),.string (E xe.natAbs)] 74)).size) hc.size;have jO:=he.cell 0;have jP:=he.cell 1;have jQ:=he.cell 2;have hf:=he.free 0;have hh:=he.free 1;have hi:=he.free 2;have jR:=he.lt;have jS:=Hd.cell 0;have jT:=Hd.cell 1;have jU:=Hd.cell 2;have jV:=Hd.lt))
    all_goals
     have jq:ga≠gT:=fun e=>by have h1:=(own_lt ho (g:=ga) rfl).2;have h2:=hA.out;omega
     have HH:gR≠gT:=fun e=>e3 e.symm
     have HI:(Value.slice (some ⟨ga,0,none⟩) (k+1) ca).ownBlock≠some gT:=fun e=>jq (by simpa [Value.ownBlock] using e)
     have HJ:Hid ((N.smpL att C K T).take (k+1)=LI++[xe]):=Hq.out
     have jr:ZOwn wa w1.heap.size (.slice (some ⟨ga,0,none⟩) (k+1) ca) (LI++[xe]):=by
      rw[ZOwn,List.length_append,Hr.out,←ics_app];exact ho
     rw[←HJ.out]at jr;clear ho jq;go_wp2;go_roundw
     case rel=>exact⟨k+1,xo,xm,xc,by omega,by go_num,Hz.out,own_set (own_set (own_set jr HI) HI) HI,((he.set 0 _).set 1 _).set 2 _,((jK.other _ _ HH).other _ _ HH).other _ _ HH,((jL.set_far h8.out).set_far h8.out).set_far h8.out,h8.out,jD.out,fun g hg _=>jF.out g hg,by simp only[Hid,World.size_setCell];exact jN.out,((jM.setCell hd.out.1 _).setCell hd.out.1 _).setCell hd.out.1 _⟩
     case measure=>simp[intOf];omega
   ·have j4:((ke:Int) != 0)=true:=by rw[bne_iff_ne];omega
    have HX:=Kh (h3.out Hy);clear Hy h3 h5 hI hX Hb hJ Ha;have hp:=hH.lt;obtain⟨hL,js,hM,jt,hN,ju⟩:=hH.x3;go_wp2;refine bodyPost_ret (v:=.tuple #[.slice none 0 0,.agg #[.slice none 0 0,.string ⟨#[]⟩,.int .i64 0],.int .i64 (ke:Int)]) ?_ rfl ?_
    ·simp[results,Tryz.results96,go_sem,hL,hM,hN,hp]
    ·rw[HX.out];exact⟨_,_,rfl,World.ownsRow_nil _ _ _ _,ss_nil _,(fun g _ _ b o n c e _=>by cases e),((Hc.setCell hd.out.2.1 _).setCell hd.out.2.1 _).setCell hd.out.2.1 _⟩
  ·obtain rfl:n2=k:=by omega
   have jW:Hid ((N.smpL att C K T).take n2=N.smpL att C K T):=List.take_of_length_le (by rw[NSta.smpL,List.length_map,List.length_range,←hY.out];exact Nat.le_refl _);have HX:Hid (RR=⟨0,N.smpL att C K T,T.on n2⟩):=by rw[Hid,HQ.out,smp_ok (fun j hj=>hZ.out j (by rw[hY.out];exact hj)),hY.out]
   rw[jW.out]at hO;have h7:=hT.lt;have hp:=hR.lt;have n1':¬ gT=gR:=hd.out.2.2;obtain⟨hD,hf,hE,hh,hF,hi⟩:=hT.x3;obtain⟨HK,jX,HL,jY,HM,jZ⟩:=hR.x3;go_wp2_with fail
   go_region;go_wp2;refine bodyPost_ret (v:=.tuple #[u9,.agg #[.slice uo um uc,.string T.seed,.int .i64 (T.pos+(n2:Int))],.int .i64 0]) ?_ rfl ?_
   ·simp[results,Tryz.results96,go_sem,HK,HL,HM,hp]
   ·rw[HX.out];have HN:u9.ownBlock≠some gR:=fun e=>by have h1:=(own_lt hO e).2;have h2:=hA.out;omega
    exact⟨_,_,rfl,own_mono (World.ownsRow.drew (own_set (own_set (own_set hO HN) HN) HN)) HV.out,SsAt.after (((hU.set_far h0).set_far h0).set_far h0) (Below.drew Br),jC.out,(((hB.setCell hd.out.2.1 _).setCell hd.out.2.1 _).setCell hd.out.2.1 _).drew⟩
end
end Go.Proofs.YtihjpddbjhcbmaaGreatDoor
