/- dominoref16.Commit: masks,first messages,tape. -/
import Derived.Test.YtihjpddbjhcbmaaGreatDoorPrv2
import Derived.Test.YtihjpddbjhcbmaaGreatDoorAtr
set_option linter.unusedVariables false
set_option linter.unusedSimpArgs false
set_option maxRecDepth 100000
set_option maxHeartbeats 16000000
namespace Go.Proofs.YtihjpddbjhcbmaaGreatDoor
section
/- sigma.Commit: masks,first messages,tape. -/
open Go.RowKit Go.Shelf
def CMPost (w:World) (vt:Value) (R:Drw) (F:List Nat) (e:Ending) (w':World):Prop:=∃mv fv u,e=.returned (.tuple #[mv,fv,.agg #[u,.string R.tp.seed,.int .i64 R.tp.pos],.int .i64 (R.err:Int)])∧ZOwn w' w.heap.size mv R.msk∧NOwn w' w.heap.size fv F∧SsAt w' u R.tp.vals∧(∀g,g<w.heap.size→FarS vt g→FarS u g)∧Bw w w'
theorem cmpost_err {w w':World} {vt:Value} {k:Nat} {R:Drw} {F:List Nat} (hR:R=⟨k,[],Tp.nil⟩) (hF:F=[]) (h:Bw w w') :
  CMPost w vt R F (.returned (.tuple #[.slice none 0 0,.slice none 0 0,.agg #[.slice none 0 0,.string ⟨#[]⟩,.int .i64 0],.int .i64 (k:Int)])) w':=by
 subst hR hF;exact⟨_,_,_,rfl,World.ownsRow_nil _ _ _ _,World.ownsRow_nil _ _ _ _,ss_nil _,(fun g _ _ b o n c e _=>by cases e),h⟩
theorem blk4 (w:World) (A B C D:Array Value) (TA TB TC TD:TypeId) :
  Blk ((((w.alloc (.cells A TA)).alloc (.cells B TB)).alloc (.cells C TC)).alloc (.cells D TD)) w.heap.size TA A.toList ∧
  Blk ((((w.alloc (.cells A TA)).alloc (.cells B TB)).alloc (.cells C TC)).alloc (.cells D TD)) (w.heap.size+1) TB B.toList ∧
  Blk ((((w.alloc (.cells A TA)).alloc (.cells B TB)).alloc (.cells C TC)).alloc (.cells D TD)) (w.heap.size+1+1) TC C.toList ∧
  Blk ((((w.alloc (.cells A TA)).alloc (.cells B TB)).alloc (.cells C TC)).alloc (.cells D TD)) (w.heap.size+1+1+1) TD D.toList ∧
  Bw w ((((w.alloc (.cells A TA)).alloc (.cells B TB)).alloc (.cells C TC)).alloc (.cells D TD)):=by
 refine⟨(((Blk.new w A TA).alloc _).alloc _).alloc _,((blkN (by simp)).alloc _).alloc _,(blkN (by simp)).alloc _,blkN (by simp),ba (b3 w _ _ _) _⟩
end
section
open Go.RowKit Go.Shelf
theorem rcommit_num (att:Att) (N:NSta) (C K:Nat) (T:Tp) (v1 v2 v3 vt:Value) (w:World) (HF:RAtt att T.seed) (Jc:T.Ok) (hC:C<256^16) (hK:K<256^16) (hm:NOk N) (hS:NAt w v1 v2 v3 N) (h0:N.chk=0)
  (Jd:∀w',Bw w w'→Calls Tryz.prog 84 #[.agg #[.string (E C),.string (E K)],.agg #[v1,v2,v3]] w' (B2Post w' (N.lims C K))) (hV:SsAt w vt T.vals) :
  Calls Tryz.prog 89 #[.agg #[.string (E C),.string (E K)],.agg #[v1,v2,v3],.agg #[vt,.string T.seed,.int .i64 T.pos]] w (CMPost w vt (N.drwR att C K T) (N.fstR (N.drwR att C K T))):=by
 obtain⟨i1,Je,HS,HT,HU⟩:=info_parts info_Int;have Jf:=Kh Je;have Jg:=Kh HS;have Jh:=Kh HT;have Ji:=Kh HU;clear Je HS HT HU;have ju:=Kh Jd;have JF:=Kh HF;have JG:=Kh Jc;have JH:=Kh (fun b hb=>lims1_lt hm hC hK (b:=b) hb)
 have ji:Hid ((N.drwR att C K T).err=0→∀(vz:Value) w',Bw w w'→ZsAt w' vz (N.drwR att C K T).msk→Calls Tryz.prog 189 #[.agg #[v1,v2,v3],vz] w' (LPost w' (N.imgs (N.drwR att C K T).msk))):=fun he vz w' hb hz=>by
  obtain⟨e,ha⟩:=drw_inv he;exact rImages_c N _ v1 v2 v3 vz w' hm (hS.after hb) hz (by rw[e];exact drw_size hm hC hK ha) (by rw[e];simp[NSta.drwL]) h0
 have jj:Hid ((N.drwR att C K T).err=0→N.fstR (N.drwR att C K T)=N.imgs (N.drwR att C K T).msk):=fun h=>by unfold NSta.fstR;rw[if_pos h]
 have HV:Hid ((N.drwR att C K T).err≠0→N.fstR (N.drwR att C K T)=[]):=fun h=>by unfold NSta.fstR;rw[if_neg h]
 generalize N.fstR (N.drwR att C K T)=RF at jj HV ⊢;obtain⟨RR,jv⟩:∃r,r=N.drwR att C K T:=⟨_,rfl⟩;have Jj:=Kh jv;rw[←jv]at ji jj HV ⊢;clear jv;obtain⟨a1,c1,a2,c2,a3,c3,rfl,rfl,rfl⟩:=hS.forms;obtain⟨xt,ct,rfl⟩:=RAt.form hV;obtain⟨nt,Jk⟩:∃n,n=T.vals.length:=⟨_,rfl⟩;rw[←Jk]at hV ⊢;have jw:∀g,w.heap.size≤g→FarS (.slice xt nt ct) g:=fun g hg=>ss_far hV hg
 obtain⟨n1,Jl⟩:∃n,n=N.grps.length:=⟨_,rfl⟩;obtain⟨n2,jk⟩:∃n,n=N.vars.length:=⟨_,rfl⟩;obtain⟨n3,Jm⟩:∃n,n=N.eqs.length:=⟨_,rfl⟩;have HG:=Kh jk;have l2:n2≤12:=by rw[jk];exact hm.nv
 rw[←Jl,←jk,←Jm]at hS ju ji ⊢;clear hm Jl jk Jm hC hK Jd h0 HF Jc Jk;obtain⟨hQ,hP,hT,hR,hD⟩:=blk4 w #[.string (E C),.string (E K)] #[.slice a1 n1 c1,.slice a2 n2 c2,.slice a3 n3 c3] #[.slice xt nt ct,.string T.seed,.int .i64 T.pos] #[.slice none 0 0,.string ⟨#[]⟩,.int .i64 0] 24 29 33 33;have HW:=SsAt.after hV hD;go_enter Tryz.func89,Tryz.ntmps89
 go_upto_region 1 with fail
 generalize (((w.alloc (.cells #[.string (E C),.string (E K)] 24)).alloc (.cells #[.slice a1 n1 c1,.slice a2 n2 c2,.slice a3 n3 c3] 29)).alloc (.cells #[.slice xt nt ct,.string T.seed,.int .i64 T.pos] 33)).alloc (.cells #[.slice none 0 0,.string ⟨#[]⟩,.int .i64 0] 33)=w1 at hQ hP hT hR hD HW ⊢;obtain⟨gQ,jx⟩:∃g,w.heap.size=g:=⟨_,rfl⟩;obtain⟨gS,jy⟩:∃g,w.heap.size+1=g:=⟨_,rfl⟩;obtain⟨gT,jz⟩:∃g,w.heap.size+1+1=g:=⟨_,rfl⟩;obtain⟨gR,jA⟩:∃g,w.heap.size+1+1+1=g:=⟨_,rfl⟩;rw[jA,jz,jy,jx];rw[jx]at hQ;rw[jy]at hP;rw[jz]at hT;rw[jA]at hR;have hd:Hid (w.heap.size≤gT∧w.heap.size≤gR∧gS≠gT∧gS≠gR∧gT≠gR):=by rw[Hid];omega
 have jB:=Kh (jw gT hd.out.1);have jC:=Kh (jw gR hd.out.2.1);clear jx jy jz jA jw;replace hQ:Blk w1 gQ 24 [.string (E C),.string (E K)]:=hQ;replace hP:Blk w1 gS 29 [.slice a1 n1 c1,.slice a2 n2 c2,.slice a3 n3 c3]:=hP;replace hT:Blk w1 gT 33 [.slice xt nt ct,.string T.seed,.int .i64 T.pos]:=hT;replace hR:Blk w1 gR 33 [.slice none 0 0,.string ⟨#[]⟩,.int .i64 0]:=hR;obtain⟨jD,jE,jF,jG⟩:=hQ.x2;obtain⟨ho,hp,hq,hr,ht,hu⟩:=hP.x3;go_wp2_with fail
 refine (ju.out _ hD).mono ?_;rintro e w4 ⟨mv,uv,rfl,jH,Jn,HH⟩;clear jD jE jF jG;clear ho hp hq hr ht hu;have hf:=jH.ss
 have jl:∀g,g<w1.heap.size→FarS mv g:=fun g hg b o n c e hn hb=>by
  have:=(own_lt jH (g:=b) (by rw[e];rfl)).2;omega
 obtain⟨u6,c7,rfl⟩:=RAt.form Jn.ss;generalize (((N.lims C K).map (·.2)).map E).length=n7;clear jH Jn ju;have Hg:=Kh (And.intro (jl gT hT.lt) (jl gR hR.lt));obtain⟨a6,c6,rfl⟩:=RAt.form hf;have Jo:Hid ((((N.lims C K).map (·.1)).map E).length=n2):=by rw[Hid,List.length_map,List.length_map,NSta.lims,List.length_map,HG.out]
 rw[Jo.out]at hf jl Hg ⊢;replace hP:=hP.after HH;replace hT:=hT.after HH;replace hR:=hR.after HH;replace hD:=bt hD HH;replace HW:=SsAt.after HW HH;clear HH hQ jl hV;have jm:Hid (gS<w4.heap.size∧gT<w4.heap.size∧gR<w4.heap.size):=⟨hP.lt,hT.lt,hR.lt⟩;have HY:Hid (w.heap.size≤w4.heap.size):=hD.size;have Jp:Hid (∀g,w4.heap.size≤g→FarS (.slice a6 n2 c6) g):=fun g hg=>ss_far hf hg
 go_wp2;go_loopw [13,14,15,16] (fun v13 v14 v15 v16 wr=>∃(k:Nat) (uo:Option Addr) (um uc:Nat),k≤n2∧v14=.int .i64 k∧Hid (∀j,j<k→(N.drw att C K T j).1=0)∧ZOwn wr w4.heap.size v13 ((N.drwL att C K T).take k)∧Blk wr gS 29 [.slice a1 n1 c1,.slice a2 n2 c2,.slice a3 n3 c3]∧Blk wr gT 33 [.slice uo um uc,.string T.seed,.int .i64 (T.pos+(k:Int))]∧Blk wr gR 33 [.slice none 0 0,.string ⟨#[]⟩,.int .i64 0]∧SsAt wr (.slice uo um uc) T.vals∧FarS (.slice uo um uc) gT∧FarS (.slice uo um uc) gR∧(∀g,g<w.heap.size→FarS (.slice xt nt ct) g→FarS (.slice uo um uc) g)∧w4.heap.size≤wr.heap.size∧SsAt wr (.slice a6 n2 c6) (((N.lims C K).map (·.1)).map E)∧Bw w wr) (fun _ i _ _ _=>n2-(intOf i).toNat)
 case atStart=>exact⟨0,xt,nt,ct,by omega,rfl,fun j h=>absurd h (Nat.not_lt_zero _),World.ownsRow_nil _ _ _ _,hP,by rw[show T.pos+((0:Nat):Int)=T.pos by omega];exact hT,hR,HW,jB.out,jC.out,fun g _ h=>h,Nat.le_refl _,hf,hD⟩
 case round =>
  clear hP hT hR HW hD hf;obtain⟨k,uo,um,uc,hk,rfl,jn,hO,hP,hT,hR,hU,HI,h6,Hb,H0,hf,Hc⟩:=hrel;obtain⟨wp,JI⟩:∃wp,wp=wr:=⟨_,rfl⟩;subst JI;have JJ:=Kh Hb;clear Hb;by_cases hlt:k<n2
  ·have Hh:k<N.vars.length:=by rw[←HG.out];exact hlt
   have JK:k<(((N.lims C K).map (·.1)).map E).length:=by rw[Jo.out];exact hlt
   have jo:=Kh (drw_step N att C K T k Hh);have Hi:=Kh (drw_at N att C K T k Hh);obtain⟨bv,ov,rfl,Jq,x1⟩:=(hS.after Hc).vat Hh;obtain⟨bu,ou,rfl,jp,u1⟩:=SsAt.at_ hf JK;rw[show (((N.lims C K).map (·.1)).map E)[k]=E (lim N.ord C K (N.vars[k]'Hh)).1 by simp[NSta.lims]]at u1;have Hj:=Kh (JH.out _ (Gm Hh));have Hk:Hid ((N.drw att C K T k).1≠0→RR=⟨(N.drw att C K T k).1,[],Tp.nil⟩):=fun h=>Jj.out.trans (drw_bad Hh jn.out h)
   have Hl:Hid ((N.drw att C K T k).1=0→∀j,j<k+1→(N.drw att C K T j).1=0):=fun h j hj=>by
    by_cases e:j=k
    ·rw[e];exact h
    ·exact jn.out j (by omega)
   clear jn;generalize N.drw att C K T k=dk at Hi Hk Hl jo;generalize (N.vars[k]'Hh)=vb at x1 u1 Hj Hi;have jq:Hid (((N.drwL att C K T).take k).length=k):=by rw[Hid,List.length_take,NSta.drwL,List.length_map,List.length_range];omega
   generalize (N.drwL att C K T).take k=LI at hO jo jq;replace hO:wp.ownsRow w4.heap.size 74 2 u13 k (ics (LI.map zI)):=by have h:wp.ownsRow _ _ _ _ _ _:=hO;rw[jq.out]at h;exact h
   have JN:(0:Int)≤(k:Int):=by omega
   have JO:(k:Int)<(n2:Int):=by omega
   obtain⟨Tk,HJ⟩:∃t,t=T.on k:=⟨_,rfl⟩;have HK:Hid (Tk.vals=T.vals∧Tk.seed=T.seed∧Tk.pos=T.pos+(k:Int)):=by rw[Hid,HJ];exact⟨rfl,rfl,rfl⟩
   have Jr:Hid (Tk.after 0=T.on (k+1)):=by rw[Hid,HJ];exact Tp.on_on T k 1
   have jr:Hid (Tk.Ok):=by rw[Hid,HJ];exact JG.out.on k
   have js:Hid (RAtt att Tk.seed):=by rw[Hid,HJ];exact JF.out
   rw[←HJ]at Hi;clear HJ;rw[←HK.out.1]at hU;have Js:=Kh HK.out.2;rw[←Js.out.1,←Js.out.2]at hT;clear HK;have H1:Hid (FarS (.slice (some ⟨bu,ou,none⟩) n2 c6) wp.heap.size):=ss_far hf (Nat.le_refl _);obtain⟨hy,hE⟩:=blk1 wp #[.bool false,.string ⟨#[]⟩] 74;have HL:=own_after hO hE;have HM:=hP.after hE;have Hd:=hT.after hE;have He:=hR.after hE;have HN:=SsAt.after hU hE;have HO:=SsAt.after hf hE;have uu1:=(hE.cell jp).trans u1;have ku:=Nl jp hE.size;have hl:=bt Hc hE
   have hv:Hid (gS≠wp.heap.size∧gT≠wp.heap.size∧gR≠wp.heap.size):=by
    have h1:=jm.out;rw[Hid];omega
   have hh:Hid (u13.ownBlock≠some wp.heap.size∧u13.ownBlock≠some gT∧u13.ownBlock≠some gR∧∀g,u13.ownBlock=some g→g<wp.heap.size):=by
    have h1:=jm.out;refine⟨fun e=>?_,fun e=>?_,fun e=>?_,fun g e=>?_⟩ <;> have h4:=own_lt hO e <;> omega
   have Hf:Hid (w4.heap.size≤wp.heap.size):=H0;have h3:Hid (wp.heap.size≤(wp.alloc (.cells #[.bool false,.string ⟨#[]⟩] 74)).heap.size):=hE.size;have Jt:=hP.lt;by_cases HP:vb=0
   ·have jI:=zE HP;have h7:Hid (dk=((coin att Tk (lim N.ord C K vb).1).1,((coin att Tk (lim N.ord C K vb).1).2:Int))):=by rw[Hid,Hi.out,drwJ,if_pos HP]
    generalize (lim N.ord C K vb).1=mk at uu1 h7 Hj;have h8:Hid (∀w',Below (wp.alloc (.cells #[.bool false,.string ⟨#[]⟩] 74)).heap.size (wp.alloc (.cells #[.bool false,.string ⟨#[]⟩] 74)) w'→Calls Tryz.prog 104 #[.agg #[.slice uo um uc,.string Tk.seed,.int .i64 Tk.pos],.string (E mk)] w' (CPost w' Tk (coin att Tk mk))):=fun w' hb=>rbelow_v att Tk _ mk w' js.out jr.out (Nl Hj.out P8) (SsAt.after HN hb)
    generalize coin att Tk mk=rc at h8 h7;obtain⟨ke,xe⟩:=rc;have HZ:Hid (dk.1=ke∧zI dk.2=(false,E xe)):=by rw[Hid,h7.out];exact⟨rfl,by simp[zI,sg_nat]⟩
    clear HP;obtain⟨ho,hp,hq,hr,ht,hu⟩:=hP.x3;go_upto_region 11 with fail
    clear ho hp hq hr ht hu;clear h7 Hi Hj js jr hP hT hR hU hO hf Hc x1 u1 Jq jp Jt hE H0 jI;generalize wp.alloc (.cells #[.bool false,.string ⟨#[]⟩] 74)=wv at hy HL HM Hd He HN HO uu1 ku hl h8 h3 ⊢;generalize wp.heap.size=gB at hy H1 hv hh Hf h3 ⊢;replace hy:Blk wv gB 74 [.bool false,.string ⟨#[]⟩]:=hy;obtain⟨T1,H2⟩:∃t,t=Tk.after ke:=⟨_,rfl⟩;have h9:=Kh H2;clear H2;have H3:=HM.drew;have Hm:=Hd.drew;have H4:=He.drew;have Hn:=hy.drew;have H5:wv.drew.ownsRow w4.heap.size 74 2 u13 k (ics (LI.map zI)):=World.ownsRow.drew HL;have H6:SsAt wv.drew (.slice (some ⟨bu,ou,none⟩) n2 c6) (((N.lims C K).map (·.1)).map E):=SsAt.after HO (Below.drew Br);have hw:=hl.drew;have uu0:wv.drew.cell? ⟨bu,ou+k,none⟩=some (.string (E mk)):=uu1;have ku0:bu<wv.drew.heap.size:=ku;have Ho:gT<wv.drew.heap.size:=Hd.lt;have Hp:gB<wv.drew.heap.size:=hy.lt;have H7:Hid (gR<wv.drew.heap.size):=He.lt;have Hq:Hid (w4.heap.size≤wv.drew.heap.size):=Nat.le_trans Hf.out h3.out;have H8:Hid (Bw wv wv.drew):=Below.drew Br;have e1:¬ gT=gB:=hv.out.2.1;have e2:¬ gB=gT:=fun e=>hv.out.2.1 e.symm
    have HQ:Hid (w.heap.size≤gB∧∀g,g<w.heap.size→g<wv.drew.heap.size):=⟨Nat.le_trans HY.out Hf.out,fun g hg=>Nl hg hw.size⟩;have jJ:Hid (∀g,u13.ownBlock=some g→g<wv.drew.heap.size):=fun g hg=>Nl (hh.out.2.2.2 g hg) h3.out
    clear HM Hd He hy HL hl uu1 ku h3 HN HO;obtain⟨hF,hG,hH,hI,hJ,hL⟩:=Hm.x3;obtain⟨hM,hN,hW,hX⟩:=Hn.x2;go_cut [16] from 30 to 73 (fun s16 wx=>s16=.int .i64 (ke:Int)∧∃(uo:Option Addr) (um uc:Nat),Blk wx gT 33 [.slice uo um uc,.string T1.seed,.int .i64 T1.pos]∧Blk wx gB 74 [.bool false,.string (E xe)]∧Blk wx gS 29 [.slice a1 n1 c1,.slice (some ⟨bv,ov,none⟩) n2 c2,.slice a3 n3 c3]∧Blk wx gR 33 [.slice none 0 0,.string ⟨#[]⟩,.int .i64 0]∧SsAt wx (.slice uo um uc) T1.vals∧FarS (.slice uo um uc) gT∧FarS (.slice uo um uc) gR∧(∀g,g<w.heap.size→FarS (.slice uo um uc) g)∧(∀g,u13.ownBlock=some g→FarS (.slice uo um uc) g)∧wx.ownsRow w4.heap.size 74 2 u13 k (ics (LI.map zI))∧SsAt wx (.slice (some ⟨bu,ou,none⟩) n2 c6) (((N.lims C K).map (·.1)).map E)∧Bw w wx∧Hid (gB<wx.heap.size))
    case first =>
     go_region_with (go_at_call 104;(with_reducible refine (h8.out _ H8.out).mono ?_);rintro e wd ⟨t,rfl,⟨u,rfl,H9⟩,hY,hbd⟩;obtain⟨xo,xc,rfl⟩:=RAt.form H9;have hi:=Hm.after hbd;have hA:=Hn.after hbd;have jK:=H4.after hbd;have jL:=H3.after hbd;have jM:=own_after H5 hbd;have jN:=SsAt.after H6 hbd;have hD:=bt hw hbd;have jO:=hi.cell 0;have jP:=hi.cell 1;have jQ:=hi.cell 2;have jR:=hi.free 0;have jS:=hi.free 1;have jT:=hi.free 2;have jU:=hA.cell 0;have jV:=hA.cell 1;have Hr:=hA.free 0;have Hs:=hA.free 1;have jW:=hi.lt;have Ht:=hA.lt)
     all_goals
      go_wp2_with fail
      go_meet
      have fT:=hY.far Ho;have fB:=hY.far Hp;rw[h9.out];exact⟨rfl,xo,_,xc,(((hi.other _ _ hv.out.2.1).set 0 _).set 1 _).set 2 _,(((hA.set 1 _).other _ _ e2).other _ _ e2).other _ _ e2,(((jL.other _ _ hv.out.1).other _ _ hd.out.2.2.1).other _ _ hd.out.2.2.1).other _ _ hd.out.2.2.1,(((jK.other _ _ hv.out.2.2).other _ _ hd.out.2.2.2.2.symm).other _ _ hd.out.2.2.2.2.symm).other _ _ hd.out.2.2.2.2.symm,(((H9.set_far fB).set_far fT).set_far fT).set_far fT,fT,hY.far H7.out,fun g hg=>hY.far (HQ.out.2 g hg),fun g hg=>hY.far (jJ.out g hg),own_set (own_set (own_set (own_set jM hh.out.1) hh.out.2.1) hh.out.2.1) hh.out.2.1,(((jN.set_far H1.out).set_far Hg.out.1).set_far Hg.out.1).set_far Hg.out.1,(((hD.setCell HQ.out.1 _).setCell hd.out.1 _).setCell hd.out.1 _).setCell hd.out.1 _,by simp only[Hid,World.size_setCell];exact Ht⟩
    case rest =>
    clear H3 Hm H4 Hn H5 H6 hw uu0 ku0 Ho Hp H7 Hq H8 e1 e2 h8 hF hG hH hI hJ hL hM hN hW hX;obtain⟨rfl,xo,xm,xc,hT,hB,hP,hR,hU,HI,h6,Hb,h5,hO,hf,hl,H0⟩:=hcut;have Hu:=Kh Hb;clear Hb;obtain⟨wy,jX⟩:∃wy,wy=wc:=⟨_,rfl⟩;subst jX;by_cases Ha:ke=0
    ·subst Ha;have Hv:=Kh (Hl.out HZ.out.1);clear Hl Hk;rw[Jr.out]at h9;have Hw:Hid (T1.vals=T.vals∧T1.seed=T.seed∧T1.pos=T.pos+((k+1:Nat):Int)):=by rw[Hid,h9.out];exact⟨rfl,rfl,rfl⟩
     rw[Hw.out.1]at hU;have Hx:=Kh Hw.out.2;rw[Hx.out.1,Hx.out.2]at hT;clear Hw h9 Hx;have Hp:=hB.lt;have Hy:=Hf.out;obtain⟨jY,Hr,jZ,Hs⟩:=hB.x2;go_wp2_with (at_builtin;refine wpList_append_lies _ rfl (.tmp 70) (.tmp 72) _ rfl w4.heap.size 74 i1 _ 2 24 Tryz.underlying30 Jf.out Jg.out Jh.out Ji.out rfl (by omega) u13 k (ics (LI.map zI)) rfl (own_after hO (b1 _ (.cells #[.bool false,.string (E xe)] 74))) ⟨(wy).heap.size,0,none⟩ 1 1 [.bool false,.string (E xe)] rfl rfl (Blk.new (wy) #[.bool false,.string (E xe)] 74).cells (by simp[Value.oneCell']) (by omega) (by simp only[maxLen];omega) (by omega) (by rw[World.size_alloc];omega) ((wy).heap.size+1) (by simp) ?_;intro ga ca' wz hZ hc HF Hz)
     have ja:ZOwn wz w4.heap.size (.slice (some ⟨ga,0,none⟩) (k+1) ca') (LI++[dk.2]):=by
      rw[ZOwn,List.length_append,jq.out,←ics_app];have h:ics [zI dk.2]=[.bool false,.string (E xe)]:=by rw[HZ.out.2];rfl
      rw[List.map_cons,List.map_nil,h];exact hZ
     rw[←jo.out]at ja;have j0:=(ba hl (.cells #[.bool false,.string (E xe)] 74)).grown hc (by have:=hl.size;rw[World.size_alloc];omega) (fun x hx=>Nat.le_trans HY.out (own_lt hO hx).2);have j1:=Blk.grown (hT.alloc (.cells #[.bool false,.string (E xe)] 74)) hc hh.out.2.1;have j2:=Blk.grown (hR.alloc (.cells #[.bool false,.string (E xe)] 74)) hc hh.out.2.2.1;have j3:=Blk.grown (hP.alloc (.cells #[.bool false,.string (E xe)] 74)) hc (fun e=>by have h1:=(own_lt hO e).2;have h2:=jm.out;omega);have j4:=SsAt.grown (SsAt.after hU (b1 wy (.cells #[.bool false,.string (E xe)] 74))) hc h5;have j5:=SsAt.grown (SsAt.after hf (b1 wy (.cells #[.bool false,.string (E xe)] 74))) hc (fun g hg=>Jp.out g (own_lt hO hg).2);have HA:w4.heap.size≤wz.heap.size:=by have h:=hc.size;rw[World.size_alloc]at h;omega
     clear hZ hc HF Hz hO hB hl hT hR hP hU Hy hf;go_wp2;go_roundw
     case rel=>exact⟨k+1,xo,xm,xc,by omega,by go_num,Hv.out,ja,j3,j1,j2,j4,HI,h6,fun g hg _=>Hu.out g hg,HA,j5,j0⟩
     case measure=>simp[intOf];omega
    ·have JL:((ke:Int) != 0)=true:=by rw[bne_iff_ne];omega
     have HX:=Kh (Hk.out (by rw[HZ.out.1];exact Ha));rw[HZ.out.1]at HX;have HR:Hid (RF=[]):=HV.out (by rw[HX.out];exact Ha);clear Ha Hk Hl hT hB hP hU HI h6 h5 hO hf;have jb:=hR.lt;obtain⟨HB,j6,HC,j7,HD,j8⟩:=hR.x3;go_wp2;refine bodyPost_ret (v:=.tuple #[.slice none 0 0,.slice none 0 0,.agg #[.slice none 0 0,.string ⟨#[]⟩,.int .i64 0],.int .i64 (ke:Int)]) ?_ rfl (cmpost_err HX.out HR.out (((hl.setCell hd.out.2.1 _).setCell hd.out.2.1 _).setCell hd.out.2.1 _));simp[results,Tryz.results89,go_sem,HB,HC,HD,jb]
   ·have jI:=nzE (Nat.pos_of_ne_zero HP);have h7:Hid (dk=csgn att Tk (lim N.ord C K vb).1):=by rw[Hid,Hi.out,drwJ,if_neg HP]
    generalize (lim N.ord C K vb).1=mk at uu1 h7 Hj;have h8:Hid (∀w',Below (wp.alloc (.cells #[.bool false,.string ⟨#[]⟩] 74)).heap.size (wp.alloc (.cells #[.bool false,.string ⟨#[]⟩] 74)) w'→Calls Tryz.prog 103 #[.agg #[.slice uo um uc,.string Tk.seed,.int .i64 Tk.pos],.string (E mk)] w' (SCPost w' Tk (csgn att Tk mk))):=fun w' hb=>rsigned_v att Tk _ mk w' js.out jr.out Hj.out (SsAt.after HN hb)
    generalize csgn att Tk mk=rc at h8 h7;obtain⟨ke,xe⟩:=rc;have HZ:Hid (dk.1=ke∧zI dk.2=(sg xe,E xe.natAbs)):=by rw[Hid,h7.out];exact⟨rfl,rfl⟩
    clear HP;obtain⟨ho,hp,hq,hr,ht,hu⟩:=hP.x3;go_upto_region 12 with fail
    clear ho hp hq hr ht hu;clear h7 Hi Hj js jr hP hT hR hU hO hf Hc x1 u1 Jq jp Jt hE H0 jI;generalize wp.alloc (.cells #[.bool false,.string ⟨#[]⟩] 74)=wv at hy HL HM Hd He HN HO uu1 ku hl h8 h3 ⊢;generalize wp.heap.size=gB at hy H1 hv hh Hf h3 ⊢;replace hy:Blk wv gB 74 [.bool false,.string ⟨#[]⟩]:=hy;obtain⟨T1,H2⟩:∃t,t=Tk.after ke:=⟨_,rfl⟩;have h9:=Kh H2;clear H2;have H3:=HM.drew;have Hm:=Hd.drew;have H4:=He.drew;have Hn:=hy.drew;have H5:wv.drew.ownsRow w4.heap.size 74 2 u13 k (ics (LI.map zI)):=World.ownsRow.drew HL;have H6:SsAt wv.drew (.slice (some ⟨bu,ou,none⟩) n2 c6) (((N.lims C K).map (·.1)).map E):=SsAt.after HO (Below.drew Br);have hw:=hl.drew;have uu0:wv.drew.cell? ⟨bu,ou+k,none⟩=some (.string (E mk)):=uu1;have ku0:bu<wv.drew.heap.size:=ku;have Ho:gT<wv.drew.heap.size:=Hd.lt;have Hp:gB<wv.drew.heap.size:=hy.lt;have H7:Hid (gR<wv.drew.heap.size):=He.lt;have Hq:Hid (w4.heap.size≤wv.drew.heap.size):=Nat.le_trans Hf.out h3.out;have H8:Hid (Bw wv wv.drew):=Below.drew Br;have e1:¬ gT=gB:=hv.out.2.1;have e2:¬ gB=gT:=fun e=>hv.out.2.1 e.symm
    have HQ:Hid (w.heap.size≤gB∧∀g,g<w.heap.size→g<wv.drew.heap.size):=⟨Nat.le_trans HY.out Hf.out,fun g hg=>Nl hg hw.size⟩;have jJ:Hid (∀g,u13.ownBlock=some g→g<wv.drew.heap.size):=fun g hg=>Nl (hh.out.2.2.2 g hg) h3.out
    clear HM Hd He hy HL hl uu1 ku h3 HN HO;obtain⟨hF,hG,hH,hI,hJ,hL⟩:=Hm.x3;obtain⟨hM,hN,hW,hX⟩:=Hn.x2;go_cut [16] from 30 to 73 (fun s16 wx=>s16=.int .i64 (ke:Int)∧∃(uo:Option Addr) (um uc:Nat),Blk wx gT 33 [.slice uo um uc,.string T1.seed,.int .i64 T1.pos]∧Blk wx gB 74 [.bool (sg xe),.string (E xe.natAbs)]∧Blk wx gS 29 [.slice a1 n1 c1,.slice (some ⟨bv,ov,none⟩) n2 c2,.slice a3 n3 c3]∧Blk wx gR 33 [.slice none 0 0,.string ⟨#[]⟩,.int .i64 0]∧SsAt wx (.slice uo um uc) T1.vals∧FarS (.slice uo um uc) gT∧FarS (.slice uo um uc) gR∧(∀g,g<w.heap.size→FarS (.slice uo um uc) g)∧(∀g,u13.ownBlock=some g→FarS (.slice uo um uc) g)∧wx.ownsRow w4.heap.size 74 2 u13 k (ics (LI.map zI))∧SsAt wx (.slice (some ⟨bu,ou,none⟩) n2 c6) (((N.lims C K).map (·.1)).map E)∧Bw w wx∧Hid (gB<wx.heap.size))
    case first =>
     go_region_with (go_at_call 103;(with_reducible refine (h8.out _ H8.out).mono ?_);rintro e wd ⟨t,rfl,⟨u,rfl,H9⟩,hY,hbd⟩;obtain⟨xo,xc,rfl⟩:=RAt.form H9;have hi:=Hm.after hbd;have hA:=Hn.after hbd;have jK:=H4.after hbd;have jL:=H3.after hbd;have jM:=own_after H5 hbd;have jN:=SsAt.after H6 hbd;have hD:=bt hw hbd;have jO:=hi.cell 0;have jP:=hi.cell 1;have jQ:=hi.cell 2;have jR:=hi.free 0;have jS:=hi.free 1;have jT:=hi.free 2;have jU:=hA.cell 0;have jV:=hA.cell 1;have Hr:=hA.free 0;have Hs:=hA.free 1;have jW:=hi.lt;have Ht:=hA.lt)
     all_goals
      go_wp2_with fail
      go_meet
      have fT:=hY.far Ho;have fB:=hY.far Hp;rw[h9.out];exact⟨rfl,xo,_,xc,((((hi.other _ _ hv.out.2.1).other _ _ hv.out.2.1).set 0 _).set 1 _).set 2 _,((((hA.set 0 _).set 1 _).other _ _ e2).other _ _ e2).other _ _ e2,((((jL.other _ _ hv.out.1).other _ _ hv.out.1).other _ _ hd.out.2.2.1).other _ _ hd.out.2.2.1).other _ _ hd.out.2.2.1,((((jK.other _ _ hv.out.2.2).other _ _ hv.out.2.2).other _ _ hd.out.2.2.2.2.symm).other _ _ hd.out.2.2.2.2.symm).other _ _ hd.out.2.2.2.2.symm,((((H9.set_far fB).set_far fB).set_far fT).set_far fT).set_far fT,fT,hY.far H7.out,fun g hg=>hY.far (HQ.out.2 g hg),fun g hg=>hY.far (jJ.out g hg),own_set (own_set (own_set (own_set (own_set jM hh.out.1) hh.out.1) hh.out.2.1) hh.out.2.1) hh.out.2.1,((((jN.set_far H1.out).set_far H1.out).set_far Hg.out.1).set_far Hg.out.1).set_far Hg.out.1,((((hD.setCell HQ.out.1 _).setCell HQ.out.1 _).setCell hd.out.1 _).setCell hd.out.1 _).setCell hd.out.1 _,by simp only[Hid,World.size_setCell];exact Ht⟩
    case rest =>
    clear H3 Hm H4 Hn H5 H6 hw uu0 ku0 Ho Hp H7 Hq H8 e1 e2 h8 hF hG hH hI hJ hL hM hN hW hX;obtain⟨rfl,xo,xm,xc,hT,hB,hP,hR,hU,HI,h6,Hb,h5,hO,hf,hl,H0⟩:=hcut;have Hu:=Kh Hb;clear Hb;obtain⟨wy,jX⟩:∃wy,wy=wc:=⟨_,rfl⟩;subst jX;by_cases Ha:ke=0
    ·subst Ha;have Hv:=Kh (Hl.out HZ.out.1);clear Hl Hk;rw[Jr.out]at h9;have Hw:Hid (T1.vals=T.vals∧T1.seed=T.seed∧T1.pos=T.pos+((k+1:Nat):Int)):=by rw[Hid,h9.out];exact⟨rfl,rfl,rfl⟩
     rw[Hw.out.1]at hU;have Hx:=Kh Hw.out.2;rw[Hx.out.1,Hx.out.2]at hT;clear Hw h9 Hx;have Hp:=hB.lt;have Hy:=Hf.out;obtain⟨jY,Hr,jZ,Hs⟩:=hB.x2;go_wp2_with (at_builtin;refine wpList_append_lies _ rfl (.tmp 70) (.tmp 72) _ rfl w4.heap.size 74 i1 _ 2 24 Tryz.underlying30 Jf.out Jg.out Jh.out Ji.out rfl (by omega) u13 k (ics (LI.map zI)) rfl (own_after hO (b1 _ (.cells #[.bool (sg xe),.string (E xe.natAbs)] 74))) ⟨(wy).heap.size,0,none⟩ 1 1 [.bool (sg xe),.string (E xe.natAbs)] rfl rfl (Blk.new (wy) #[.bool (sg xe),.string (E xe.natAbs)] 74).cells (by simp[Value.oneCell']) (by omega) (by simp only[maxLen];omega) (by omega) (by rw[World.size_alloc];omega) ((wy).heap.size+1) (by simp) ?_;intro ga ca' wz hZ hc HF Hz)
     have ja:ZOwn wz w4.heap.size (.slice (some ⟨ga,0,none⟩) (k+1) ca') (LI++[dk.2]):=by
      rw[ZOwn,List.length_append,jq.out,←ics_app];have h:ics [zI dk.2]=[.bool (sg xe),.string (E xe.natAbs)]:=by rw[HZ.out.2];rfl
      rw[List.map_cons,List.map_nil,h];exact hZ
     rw[←jo.out]at ja;have j0:=(ba hl (.cells #[.bool (sg xe),.string (E xe.natAbs)] 74)).grown hc (by have:=hl.size;rw[World.size_alloc];omega) (fun x hx=>Nat.le_trans HY.out (own_lt hO hx).2);have j1:=Blk.grown (hT.alloc (.cells #[.bool (sg xe),.string (E xe.natAbs)] 74)) hc hh.out.2.1;have j2:=Blk.grown (hR.alloc (.cells #[.bool (sg xe),.string (E xe.natAbs)] 74)) hc hh.out.2.2.1;have j3:=Blk.grown (hP.alloc (.cells #[.bool (sg xe),.string (E xe.natAbs)] 74)) hc (fun e=>by have h1:=(own_lt hO e).2;have h2:=jm.out;omega);have j4:=SsAt.grown (SsAt.after hU (b1 wy (.cells #[.bool (sg xe),.string (E xe.natAbs)] 74))) hc h5;have j5:=SsAt.grown (SsAt.after hf (b1 wy (.cells #[.bool (sg xe),.string (E xe.natAbs)] 74))) hc (fun g hg=>Jp.out g (own_lt hO hg).2);have HA:w4.heap.size≤wz.heap.size:=by have h:=hc.size;rw[World.size_alloc]at h;omega
     clear hZ hc HF Hz hO hB hl hT hR hP hU Hy hf;go_wp2;go_roundw
     case rel=>exact⟨k+1,xo,xm,xc,by omega,by go_num,Hv.out,ja,j3,j1,j2,j4,HI,h6,fun g hg _=>Hu.out g hg,HA,j5,j0⟩
     case measure=>simp[intOf];omega
    ·have JL:((ke:Int) != 0)=true:=by rw[bne_iff_ne];omega
     have HX:=Kh (Hk.out (by rw[HZ.out.1];exact Ha));rw[HZ.out.1]at HX;have HR:Hid (RF=[]):=HV.out (by rw[HX.out];exact Ha);clear Ha Hk Hl hT hB hP hU HI h6 h5 hO hf;have jb:=hR.lt;obtain⟨HB,j6,HC,j7,HD,j8⟩:=hR.x3;go_wp2;refine bodyPost_ret (v:=.tuple #[.slice none 0 0,.slice none 0 0,.agg #[.slice none 0 0,.string ⟨#[]⟩,.int .i64 0],.int .i64 (ke:Int)]) ?_ rfl (cmpost_err HX.out HR.out (((hl.setCell hd.out.2.1 _).setCell hd.out.2.1 _).setCell hd.out.2.1 _));simp[results,Tryz.results89,go_sem,HB,HC,HD,jb]
  ·obtain rfl:n2=k:=by omega
   have HK:Hid ((N.drwL att C K T).take n2=N.drwL att C K T):=List.take_of_length_le (by rw[NSta.drwL,List.length_map,List.length_range,←HG.out];exact Nat.le_refl _);have HX:Hid (RR=⟨0,N.drwL att C K T,T.on n2⟩):=by rw[Hid,Jj.out,drw_ok (fun j hj=>jn.out j (by rw[HG.out];exact hj)),HG.out]
   rw[HK.out]at hO;have Ju:Hid ((N.drwL att C K T).length=n2):=by rw[Hid,NSta.drwL,List.length_map,List.length_range,HG.out]
   have HE:Hid (∀(vz:Value) w',Bw w w'→ZsAt w' vz (N.drwL att C K T)→Calls Tryz.prog 189 #[.agg #[.slice a1 n1 c1,.slice a2 n2 c2,.slice a3 n3 c3],vz] w' (LPost w' (N.imgs (N.drwL att C K T)))):=by
    have h:=ji.out;rw[HX.out]at h;exact h rfl
   have HR:Hid (RF=N.imgs (N.drwL att C K T)):=by
    have h:=jj.out;rw[HX.out]at h;exact h rfl
   clear ji jj HV HK;generalize N.drwL att C K T=M at hO HX HE HR Ju;obtain⟨mo,mc,rfl⟩:=hO.zs.form;rw[Ju.out]at hO ⊢;have Jv:=Kh (HE.out _ wp Hc hO.zs);obtain⟨ho,hp,hq,hr,ht,hu⟩:=hP.x3;go_wp2_with fail
   refine Jv.out.mono ?_;rintro e w9 ⟨fv,rfl,h5,hb9⟩;clear ho hp hq hr ht hu;obtain⟨fo,fc,rfl⟩:=RAt.form h5.ss;generalize ((N.imgs M).map E).length=fl at h5 ⊢;have Jw:=hT.after hb9;have jt:=hR.after hb9;have Jx:ZOwn w9 w.heap.size (.slice mo n2 mc) M:=own_mono (own_after hO hb9) HY.out;have JM:=SsAt.after hU hb9;have Jy:NOwn w9 w.heap.size (.slice fo fl fc) (N.imgs M):=own_mono h5 Hc.size;have j9:=bt Hc hb9;clear hb9 Jv h5 hT hR hP hU Hc hO HE;have Ja:=own_ne Jy jt (by decide);have Jb:=own_ne Jx jt (by decide);have Ho:=Jw.lt;have jb:=jt.lt;have neTR:gT≠gR:=hd.out.2.2.2.2;have neRT:gR≠gT:=fun e=>neTR e.symm
   obtain⟨jc,Jz,jd,JA,je,JB⟩:=Jw.x3;obtain⟨jf,JC,jg,JD,jh,JE⟩:=jt.x3;go_wp2_with fail
   go_region;go_wp2;refine bodyPost_ret (v:=.tuple #[.slice mo n2 mc,.slice fo fl fc,.agg #[.slice uo um uc,.string T.seed,.int .i64 (T.pos+(n2:Int))],.int .i64 0]) ?_ rfl ?_
   ·simp[results,Tryz.results89,go_sem,jf,jg,jh,jb,jc,jd,je,Ho,neTR,neRT]
   ·rw[HR.out,HX.out];exact⟨_,_,_,rfl,World.ownsRow.drew (own_set (own_set (own_set Jx Jb) Jb) Jb),World.ownsRow.drew (own_set (own_set (own_set Jy Ja) Ja) Ja),SsAt.after (((JM.set_far h6).set_far h6).set_far h6) (Below.drew Br),JJ.out,(((j9.setCell hd.out.2.1 _).setCell hd.out.2.1 _).setCell hd.out.2.1 _).drew⟩
end
end Go.Proofs.YtihjpddbjhcbmaaGreatDoor
