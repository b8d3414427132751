/- squarerange.Statement. -/
import Derived.Test.YtdgddpnjkinciaaGreatDoorRq0
set_option linter.all false
set_option maxRecDepth 100000
set_option maxHeartbeats 16000000
namespace Go.Proofs.YtdgddpnjkinciaaGreatDoor
open Go.RowKit Go.Shelf
def vSq1 (B:Nat) (a b c d cc vl rd:ByteArray) (P:List ByteArray) (ps:Value) (m:Nat):RVB:=fun st i v w=>match i with
 | 0=>v=.agg #[.string a,.string b,.string c,.string d]
 | 1=>v=.string cc
 | 2=>v=.string vl
 | 3=>v=.string rd
 | 4=>st=[false]→∃g,v=.slice (some ⟨g,0,none⟩) 3 3∧B≤g∧Blk w g 22 [.string cc,.string vl,.string rd]
 | 5=>v=ps
 | 6=>SsAt w v (cc :: vl :: rd :: P)
 | 7=>v=.int .i64 (m:Int)
 | 8=>v=.int .i64 (m:Int)
 | _=>True
theorem vSq1_st (B:Nat) (a b c d cc vl rd:ByteArray) (P:List ByteArray) (ps:Value) (m:Nat):∀l j u w w',Bw w w'→vSq1 B a b c d cc vl rd P ps m l j u w→vSq1 B a b c d cc vl rd P ps m l j u w':=by
 intro l j u w w' hb h;unfold vSq1 at h ⊢;split at h
 all_goals first
  | exact h
  | (intro h0;obtain⟨x,h1,h2,h3⟩:=h h0;exact⟨x,h1,h2,h3.after hb⟩)
  | exact SsAt.after h hb
theorem vSq1_ap {B:Nat} {a b c d cc vl rd:ByteArray} {P:List ByteArray} {ps:Value} {m:Nat} {w w':World}:∀j u,j≠6→vSq1 B a b c d cc vl rd P ps m [false] j u w→vSq1 B a b c d cc vl rd P ps m [true] j u w':=by
 intro j u hj h;unfold vSq1 at h ⊢;split at h
 all_goals first
  | exact absurd rfl hj
  | exact h
  | (intro h0;cases h0;done)
def vSq2 (B1 gS gP g h tk k:Nat) (ev x:Value) (B:Nat) (NL:List NEqn):RVB:=fun st i v w=>match i with
 | 0=>v=.pointer (some ⟨gS,2,none⟩)
 | 1=>v=ev
 | 2=>v=.string (E tk)
 | 3=>v=.pointer (some ⟨gP,2,none⟩)
 | 4=>v=.string (E g)
 | 5=>v=.int .i64 (k:Int)
 | 6=>v=.int .i64 ((2*k:Nat):Int)
 | 7=>v=.agg #[.string (E g),.int .i64 ((2*k:Nat):Int),.bool false,.string (E 1)]
 | 8=>v=.pointer (some ⟨gP,3,none⟩)
 | 9=>v=.string (E h)
 | 10=>v=.int .i64 (k:Int)
 | 11=>v=.int .i64 ((2*k:Nat):Int)
 | 12=>v=.int .i64 ((2*k+1:Nat):Int)
 | 13=>v=.agg #[.string (E h),.int .i64 ((2*k+1:Nat):Int),.bool false,.string (E 1)]
 | 14=>st=[false,false]→∃b,v=.slice (some ⟨b,0,none⟩) 2 2∧B1≤b∧TOwn w 0 (.slice (some ⟨b,0,none⟩) 2 2) [t1 g (2*k),t1 h (2*k+1)]
 | 15=>st=[false,false]→∃b,v=.agg #[.int .i64 0,.string (E tk),.slice (some ⟨b,0,none⟩) 2 2]∧B1≤b∧TOwn w 0 (.slice (some ⟨b,0,none⟩) 2 2) [t1 g (2*k),t1 h (2*k+1)]
 | 16=>st=[false,false]→∃b b2,v=.slice (some ⟨b2,0,none⟩) 1 1∧Blk w b2 87 [.int .i64 0,.string (E tk),.slice (some ⟨b,0,none⟩) 2 2]∧B1≤b∧TOwn w 0 (.slice (some ⟨b,0,none⟩) 2 2) [t1 g (2*k),t1 h (2*k+1)]
 | 17=>st=[true,false]→∃EL:List (NEqn × Value),EL.map (fun e=>e.1)=NL∧EOwn w B x v EL
 | 18=>v=.pointer (some ⟨gS,2,none⟩)
 | _=>True
theorem vSq2_st (B1 gS gP g h tk k:Nat) (ev x:Value) (B:Nat) (NL:List NEqn):∀l j u w w',Bw w w'→vSq2 B1 gS gP g h tk k ev x B NL l j u w→vSq2 B1 gS gP g h tk k ev x B NL l j u w':=by
 intro l j u w w' hb h;unfold vSq2 at h ⊢;split at h
 all_goals first
  | exact h
  | (intro h0;obtain⟨b,h1,h2,h3⟩:=h h0;exact⟨b,h1,h2,h3.after hb⟩)
  | (intro h0;obtain⟨b,b2,h1,h2,h3,h4⟩:=h h0;exact⟨b,b2,h1,h2.after hb,h3,h4.after hb⟩)
  | (intro h0;obtain⟨EL,h1,h2⟩:=h h0;exact⟨EL,h1,h2.after hb⟩)
def fSq2 (gS gG p:Nat) (vv ev x:Value) (B:Nat) (VL:List Nat) (TL:List NTrm) (EL:List (NEqn × Value)) (NL:List NEqn) (st:List Bool) (w:World):Prop:=
 (st=[false,false]→EOwn w B x ev EL)∧Blk w gG 24 [.string (E p),.string (E 0)]∧VOwn w B vv VL∧TOwn w B x TL ∧
 ∃e3,Blk w gS 43 [.slice (some ⟨gG,0,none⟩) 1 1,vv,e3]∧(st≠[true,true]→e3=ev)∧(st=[true,true]→∃L:List (NEqn × Value),L.map (fun e=>e.1)=NL∧EOwn w B x e3 L)
theorem fSq2_st (gS gG p:Nat) (vv ev x:Value) (B:Nat) (VL:List Nat) (TL:List NTrm) (EL:List (NEqn × Value)) (NL:List NEqn):∀l w w',Bw w w'→fSq2 gS gG p vv ev x B VL TL EL NL l w→fSq2 gS gG p vv ev x B VL TL EL NL l w':=by
 intro l w w' hb h;obtain⟨h1,h2,h3,h4,e3,h5,h7,h6⟩:=h;exact⟨fun k=>(h1 k).after hb,h2.after hb,own_after h3 hb,own_after h4 hb,e3,h5.after hb,h7,fun k=>by obtain⟨L,a,b⟩:=h6 k;exact⟨L,a,b.after hb⟩⟩
theorem vSq2_ap {B1 gS gP g h tk k:Nat} {ev x:Value} {B:Nat} {NL:List NEqn} {w w':World}:∀j u,j≠17→vSq2 B1 gS gP g h tk k ev x B NL [false,false] j u w→vSq2 B1 gS gP g h tk k ev x B NL [true,false] j u w':=by
 intro j u hj h;unfold vSq2 at h ⊢;split at h
 all_goals first
  | exact absurd rfl hj
  | exact h
  | (intro h0;cases h0;done)
theorem vSq2_sto {B1 gS gP g h tk k:Nat} {ev x:Value} {B:Nat} {NL:List NEqn} {w w':World}:∀j u,vSq2 B1 gS gP g h tk k ev x B NL [true,false] j u w→vSq2 B1 gS gP g h tk k ev x B NL [true,true] j u w':=by
 intro j u h;unfold vSq2 at h ⊢;split at h
 all_goals first
  | exact h
  | (intro h0;cases h0;done)
theorem sqstat_c (a b c d:ByteArray) (lo:Int) (cc:ByteArray) (P:List ByteArray) (vl rd:ByteArray) (v:Value) (w:World)
  (ha:a.size≤8) (hb:b.size≤100) (hc:c.size≤100) (hd:d.size≤100) (ku:cc.size≤12) (hP:P.length≤8) (JD:∀x∈P,x.size≤12) (kv:vl.size≤12) (kw:rd.size≤12) (KJ:-1099511627776<lo) (JE:lo<1099511627776) (hV:SsAt w v P) :
  Calls Tryz.prog 23 #[.agg #[.string a,.string b,.string c,.string d],.int .i64 lo,.string cc,v,.string vl,.string rd] w (StPost w (stR a b c d lo cc P vl rd)):=by
 obtain⟨i0,kx,jn,jo,jp⟩:=info_parts info_nat;have ky:=Kh kx;have kz:=Kh jn;have kA:=Kh jo;have kB:=Kh jp;obtain⟨i2,kD,jq,jr,js⟩:=info_parts infoV27;obtain⟨i3,kE,jt,ju,jv⟩:=info_parts infoT27;obtain⟨i4,kF,jw,jx,jy⟩:=info_parts infoE27;have kG:=Kh kD;have Js:=Kh jq;have kH:=Kh jr;have kI:=Kh js;have kJ:=Kh kE;have kK:=Kh jt;have kM:=Kh ju;have kO:=Kh jv;have kP:=Kh kF;have kQ:=Kh jw;have kR:=Kh jx;have kS:=Kh jy;clear kx jn jo jp kD jq jr js kE jt ju jv kF jw jx jy;obtain⟨m,hm⟩:∃m,chkV [] (cc :: vl :: rd :: P) a b c d=m:=⟨_,rfl⟩;have Jt:Hid (m≠0→stR a b c d lo cc P vl rd=(m,nilN)):=fun h=>stR_chk hm h
 have JF:=Kh hm
 have kT:Hid (∀(x:Value) (w:World),SsAt w x (cc :: vl :: rd :: P)→Calls Tryz.prog 47 #[.agg #[.string a,.string b,.string c,.string d],.slice none 0 0,x] w fun e w'=>e=.returned (.int .i64 m)∧Bw w w'):=fun x w hx =>
  sqchk_c [] (cc :: vl :: rd :: P) a b c d _ x m w (by simp) (by simp;omega) (by simp) (by
   intro y hy;simp only[List.mem_cons]at hy;rcases hy with rfl | rfl | rfl | hy
   ·omega
   ·omega
   ·omega
   ·have:=JD y hy;omega) ha hb hc hd (zs_nil w) hx hm
 have kU:Hid (cc.size≤12):=ku;have kV:Hid (vl.size≤12):=kv;have kW:Hid (rd.size≤12):=kw;have kX:Hid (a.size≤8):=ha;have kY:=Kh JD;have JG:=Kh hP;have Ju:Hid (lo.natAbs<1099511627776):=by rw[Hid];omega
 obtain⟨R,hR⟩:∃R,R=stR a b c d lo cc P vl rd:=⟨_,rfl⟩;have KK:=Kh hR;rw[←hR]at Jt ⊢;clear ha hb hc hd ku hP JD kv kw KJ JE hm hR;obtain⟨ao,pc,rfl⟩:=RAt.form hV;obtain⟨n,hn⟩:∃n,n=P.length:=⟨_,rfl⟩;have HN:=Kh hn;rw[←hn]at hV ⊢;clear hn;obtain⟨hB,hR,Hh⟩:=blk2 w #[.string a,.string b,.string c,.string d] #[.slice none 0 0,.slice none 0 0,.slice none 0 0] 26 43;go_enter Tryz.func23,Tryz.ntmps23
 go_upto_region 1 with fail
 have HK:=SsAt.after hV Hh;generalize (w.alloc (.cells #[.string a,.string b,.string c,.string d] 26)).alloc (.cells #[.slice none 0 0,.slice none 0 0,.slice none 0 0] 43)=w1 at hB hR Hh HK ⊢;obtain⟨gR,kZ⟩:∃g,w.heap.size+1=g:=⟨_,rfl⟩;rw[kZ]at hR ⊢;have KL:Hid (w.heap.size<gR):=by rw[Hid];omega
 replace hR:Blk w1 gR 43 [.slice none 0 0,.slice none 0 0,.slice none 0 0]:=hR;replace hB:Blk w1 w.heap.size 26 [.string a,.string b,.string c,.string d]:=hB;have h5:Hid (w.heap.size≤gR):=by have:=KL.out;rw[Hid];omega
 clear kZ;go_cut [14] (fun s14 wx=>s14=.int .i64 (m:Int)∧Bw w1 wx)
 case first =>
  refine wp_region_invB (vSq1 w1.heap.size a b c d cc vl rd P (.slice ao n pc) m) [6] w1.heap.size (fun _ _=>True) 154 trivial (by kernel_rfl) rfl (by kernel_rfl) ?_ ?_ (by kernel_rfl)
  ·intro hA done a' w' i o hJ ho hl he;have hi:=(Array.getElem?_eq_some_iff.1 ho).1;have hC:=vSq1_st w1.heap.size a b c d cc vl rd P (.slice ao n pc) m;have hD:∀(b:List Bool) (w w':World),Bw w w'→(fun (_:List Bool) (_:World)=>True) b w→(fun (_:List Bool) (_:World)=>True) b w':=fun _ _ _ _ _=>trivial
   have hw:=hJ.bw.size;match i,hi,ho,hl,he with
   | 0,_,ho,hl,he =>
    simp at ho;subst ho;refine hJ.op (d:=24) hA hC hD hw rfl rfl rfl (by decide) he ?_;have q6:=hJ.keep 6 (.pointer (some ⟨w.heap.size,0,none⟩)) rfl (by kernel_rfl);have hM:=hB.after hJ.bw;have jd:=hM.lt;have x0:=hM.cell 0;have x1:=hM.cell 1;have x2:=hM.cell 2;have x3:=hM.cell 3;refine wp_val (v:=.agg #[.string a,.string b,.string c,.string d]) (by simp[execOp,q6,go_sem,x0,x1,x2,x3]) rfl
   | 1,_,ho,hl,he =>
    simp at ho;subst ho;refine hJ.op (d:=25) hA hC hD hw rfl rfl rfl (by decide) he ?_;have q2:=hJ.keep 2 (.string cc) rfl (by kernel_rfl);refine wp_val (v:=.string cc) (by simp[execOp,q2,go_sem]) rfl
   | 2,_,ho,hl,he =>
    simp at ho;subst ho;refine hJ.op (d:=26) hA hC hD hw rfl rfl rfl (by decide) he ?_;have q4:=hJ.keep 4 (.string vl) rfl (by kernel_rfl);refine wp_val (v:=.string vl) (by simp[execOp,q4,go_sem]) rfl
   | 3,_,ho,hl,he =>
    simp at ho;subst ho;refine hJ.op (d:=27) hA hC hD hw rfl rfl rfl (by decide) he ?_;have q5:=hJ.keep 5 (.string rd) rfl (by kernel_rfl);refine wp_val (v:=.string rd) (by simp[execOp,q5,go_sem]) rfl
   | 4,_,ho,hl,he =>
    simp at ho;subst ho;refine hJ.op (d:=28) hA hC hD hw rfl rfl rfl (by decide) he ?_;obtain⟨v25,ev25,JH⟩:=hJ.dn 1 _ 25 rfl (he ⟨1,.data⟩ (by simp) rfl) rfl;have qv25:=eval_of ev25;obtain⟨v26,ev26,JI⟩:=hJ.dn 2 _ 26 rfl (he ⟨2,.data⟩ (by simp) rfl) rfl;have qv26:=eval_of ev26;obtain⟨v27,ev27,JJ⟩:=hJ.dn 3 _ 27 rfl (he ⟨3,.data⟩ (by simp) rfl) rfl;have qv27:=eval_of ev27;obtain rfl:v25=.string cc:=JH;obtain rfl:v26=.string vl:=JI;obtain rfl:v27=.string rd:=JJ;have hN:=Blk.new w' #[.string cc,.string vl,.string rd] 22;simp[Oper.wp,execOp,ev25,ev26,ev27,go_sem];exact⟨_,rfl,b1 _ _,fun _=>⟨w'.heap.size,rfl,hw,hN⟩⟩
   | 5,_,ho,hl,he =>
    simp at ho;subst ho;refine hJ.op (d:=29) hA hC hD hw rfl rfl rfl (by decide) he ?_;have q3:=hJ.keep 3 (.slice ao n pc) rfl (by kernel_rfl);refine wp_val (v:=.slice ao n pc) (by simp[execOp,q3,go_sem]) rfl
   | 6,_,ho,hl,he =>
    simp at ho;subst ho;have jz:stB [6] done=[false]:=by simp only[stB,List.map_cons,List.map_nil,hl]
    have KM:6<done.size:=by rw[hJ.sz];decide
    have JK:stB [6] (done.setIfInBounds 6 true)=[true]:=by simp only[stB,List.map_cons,List.map_nil];rw[getD_set _ _ _ KM,if_pos rfl]
    obtain⟨v28,ev28,jA⟩:=hJ.dn 4 _ 28 rfl (he ⟨4,.data⟩ (by simp) rfl) rfl;have qv28:=eval_of ev28;obtain⟨v29,ev29,jB⟩:=hJ.dn 5 _ 29 rfl (he ⟨5,.data⟩ (by simp) rfl) rfl;have qv29:=eval_of ev29;rw[jz]at jA jB;obtain⟨g,rfl,KN,hG⟩:=jA rfl;obtain rfl:v29=.slice ao n pc:=jB;refine wpOp_step rfl fun K' hK=>?_
    have qq:=HN.out;have qr:=JG.out;refine step_append_all rfl (.tmp 28) (.tmp 29) 33 rfl qv28 qv29 w1.heap.size 22 i0 _ 16 Tryz.underlying33 ky.out kz.out kA.out kB.out rfl 3 [.string cc,.string vl,.string rd] (own_blkB hG rfl (by decide) KN) P (SsAt.after HK hJ.bw) (by simp only[maxLen];omega) (by omega) hw fun u w'' hO ht hlt=>hK _ _ ?_
    refine hJ.put (d:=30) hA rfl rfl he (Below.grown hJ.bw ht hw (fun g hg=>(hlt g hg).1)) trivial ?_ ?_
    ·intro j q hq hj jC u h;rw[jz]at h;rw[JK];exact vSq1_ap j u hj h
    ·exact ss_own (base:=w1.heap.size) (cc :: vl :: rd :: P) (by simp;omega) hO
   | 7,_,ho,hl,he =>
    simp at ho;subst ho;refine hJ.op (d:=31) hA hC hD hw rfl rfl rfl (by decide) he ?_;obtain⟨v24,ev24,JL⟩:=hJ.dn 0 _ 24 rfl (he ⟨0,.data⟩ (by simp) rfl) rfl;have qv24:=eval_of ev24;obtain⟨v30,ev30,JM⟩:=hJ.dn 6 _ 30 rfl (he ⟨6,.data⟩ (by simp) rfl) rfl;have qv30:=eval_of ev30;obtain rfl:v24=.agg #[.string a,.string b,.string c,.string d]:=JL;refine wp_callX 47 #[.tmp 24,.const (.slice none 0 0),.tmp 30] #[26,44,33] rfl (enters_of Tryz.func47 (by kernel_rfl) rfl) ?_;simp only[List.map_toArray,List.map_cons,List.map_nil,qv24,qv30,eval_const];refine (kT.out v30 w' JM).mono ?_;rintro e w'' ⟨rfl,hb⟩;exact⟨_,rfl,hb,rfl⟩
   | 8,_,ho,hl,he =>
    simp at ho;subst ho;refine hJ.op (d:=14) hA hC hD hw rfl rfl rfl (by decide) he ?_;obtain⟨v31,ev31,JN⟩:=hJ.dn 7 _ 31 rfl (he ⟨7,.data⟩ (by simp) rfl) rfl;have qv31:=eval_of ev31;refine wp_val (v:=v31) (by simp[execOp,ev31,go_sem]) ?_;exact JN
  ·intro done a' w' hJ hd;obtain⟨f,hf,hv⟩:=hJ.all hd;have h8:=hv 8 _ 14 rfl rfl;subst hf;simp only[putAll,List.size_toArray,List.length_cons,List.length_nil,Nat.reduceAdd,List.getElem?_toArray,List.getElem?_cons_zero,List.getElem?_cons_succ,Option.bind_some,Act.put,List.setIfInBounds_toArray,List.set_cons_zero,List.set_cons_succ];go_wp2_with fail
   go_meet
   exact⟨h8,hJ.bw⟩
 case rest =>
  obtain⟨rfl,jD⟩:=hcut;obtain⟨wx,KO⟩:∃wx,wx=wc:=⟨_,rfl⟩;subst KO;replace hB:=hB.after jD;replace hR:=hR.after jD;replace HK:=SsAt.after HK jD;replace Hh:=bt Hh jD;clear jD kT hV;by_cases JO:m=0
  case neg =>
   have qs:((m:Int) != 0)=true:=by rw[bne_iff_ne];omega
   have HX:=Kh (Jt.out JO);clear JO Jt hB;have Hd:=hR.lt;obtain⟨hZ,Ho,h3,Hp,h4,Hq⟩:=hR.x3;go_wp2;refine bodyPost_ret (v:=.tuple #[.agg #[.slice none 0 0,.slice none 0 0,.slice none 0 0],.int .i64 (m:Int)]) ?_ rfl ?_
   ·simp[results,Tryz.results23,go_sem,hZ,h3,h4,Hd]
   ·rw[HX.out];exact StPost.err (((Hh.setCell h5.out _).setCell h5.out _).setCell h5.out _)
  case pos =>
   subst JO;obtain⟨k0,Ka,Kb,Kc,Kd⟩:=chk_nums JF.out;obtain⟨c1,_,rfl⟩:=of_vldB Ka;obtain⟨vb,_,rfl⟩:=of_vldB Kb;obtain⟨rb,_,rfl⟩:=of_vldB Kc;obtain⟨p,g,h,⟨hp,hg,hh⟩,rfl,rfl,rfl,rfl,Ke⟩:=kyV_zero k0 kX.out;have Kf:=all_nums Kd;obtain⟨Q,hQ⟩:∃Q,P.map numb=Q:=⟨_,rfl⟩;rw[hQ]at Kf;subst Kf;have hz:=stR_zero (lo:=lo) JF.out;rw[←KK.out]at hz;have Jv:=Kh hz;have Kg:=Kh (lt_of_size kU.out);have KP:=Kh (lt_of_size kV.out);have KQ:=Kh (lt_of_size kW.out);have h7:Hid ((p<256^8∧g<256^128∧h<256^128)∧pedE p 0 g h=0):=⟨⟨hp,hg,hh⟩,Ke⟩;have Ki:Hid (∀x∈Q,x<256^12):=fun x hx=>lt_of_size (kY.out (E x) (List.mem_map.2 ⟨x,hx,rfl⟩))
   have JP:Hid (n=Q.length):=by rw[Hid,HN.out,List.length_map]
   have KR:n≤8:=by have:=JG.out;rw[HN.out];exact this
   clear hz k0 Ka Kb Kc Kd hp hg hh Ke Jt JF kY kX kU kV kW HN JG hQ;by_cases HL:vb=0
   case pos =>
    have hz:=zE HL;have HX:Hid (R=(11,nilN)):=by rw[Hid,Jv.out,if_pos (.inl HL)]
    clear HL hB;have Hd:=hR.lt;obtain⟨hZ,Ho,h3,Hp,h4,Hq⟩:=hR.x3;go_wp2;refine bodyPost_ret (v:=.tuple #[.agg #[.slice none 0 0,.slice none 0 0,.slice none 0 0],.int .i64 11]) ?_ rfl ?_
    ·simp[results,Tryz.results23,go_sem,hZ,h3,h4,Hd]
    ·rw[HX.out];exact StPost.err (((Hh.setCell h5.out _).setCell h5.out _).setCell h5.out _)
   case neg =>
    have hz:=nzE (Nat.pos_of_ne_zero HL);by_cases je:rb=0
    case pos =>
     have KS:=zE je;have HX:Hid (R=(11,nilN)):=by rw[Hid,Jv.out,if_pos (.inr je)]
     clear je HL hB;have Hd:=hR.lt;obtain⟨hZ,Ho,h3,Hp,h4,Hq⟩:=hR.x3;go_wp2;refine bodyPost_ret (v:=.tuple #[.agg #[.slice none 0 0,.slice none 0 0,.slice none 0 0],.int .i64 11]) ?_ rfl ?_
     ·simp[results,Tryz.results23,go_sem,hZ,h3,h4,Hd]
     ·rw[HX.out];exact StPost.err (((Hh.setCell h5.out _).setCell h5.out _).setCell h5.out _)
    case neg =>
     have KS:=nzE (Nat.pos_of_ne_zero je);have JQ:Hid (R=if Q.length≠4 then (6,nilN) else if hasAll p c1 Q=false then (13,nilN) else (0,stN p g h lo c1 Q vb rb)):=by rw[Hid,Jv.out,if_neg (by omega)]
     have KT:Hid (vb≠0∧rb≠0):=⟨HL,je⟩;clear HL je Jv;by_cases JR:n=4
     case neg =>
      have qt:((n:Int) != 4)=true:=by rw[bne_iff_ne];omega
      have HX:Hid (R=(6,nilN)):=by rw[Hid,JQ.out,if_pos (by rw[←JP.out];exact JR)]
      clear JR hB;have Hd:=hR.lt;obtain⟨hZ,Ho,h3,Hp,h4,Hq⟩:=hR.x3;go_wp2;refine bodyPost_ret (v:=.tuple #[.agg #[.slice none 0 0,.slice none 0 0,.slice none 0 0],.int .i64 6]) ?_ rfl ?_
      ·simp[results,Tryz.results23,go_sem,hZ,h3,h4,Hd]
      ·rw[HX.out];exact StPost.err (((Hh.setCell h5.out _).setCell h5.out _).setCell h5.out _)
     case pos =>
      subst JR;have Jw:Hid (Q.length=4):=JP.out.symm;have JS:Hid (R=if hasAll p c1 Q=false then (13,nilN) else (0,stN p g h lo c1 Q vb rb)):=by rw[Hid,JQ.out,if_neg (by rw[Jw.out];decide)]
      clear JQ JP KR;obtain⟨L5,Jx⟩:∃L,L=c1 :: Q:=⟨_,rfl⟩;have HM:Hid (L5.length=5):=by rw[Hid,Jx,List.length_cons,Jw.out]
      have Kj:Hid (∀x∈L5,x<256^128):=fun x hx=>by
       rw[Jx]at hx;rcases List.mem_cons.1 hx with rfl | hx
       ·exact Nl Kg.out P8
       ·exact Nl (Ki.out x hx) P8
      have jf:=Kh Jx;have hW:=HK;obtain⟨Kk,JT⟩:=blk1 wx #[.string (E c1)] 22;have qu:=Jw.out;go_upto_region 9 with (at_builtin;go_loud (refine wpList_append_all rfl (.tmp 48) (.tmp 49) 33 rfl rfl rfl wx.heap.size 22 i0 _ 16 Tryz.underlying33 ky.out kz.out kA.out kB.out rfl 1 [.string (E c1)] (own_blkB Kk rfl (by decide) (Nat.le_refl _)) (Q.map E) (SsAt.after HK JT) (by decide) (by decide) (by simp) ?_);intro ua wa hO Kl Hv;have jE:∃ax cx,ua=.slice ax 5 cx:=(by obtain⟨ax,cx,h⟩:=RAt.form (ss_own (base:=wx.heap.size) (L5.map E) (by rw[List.length_map,HM.out]) (by rw[jf.out];exact hO));rw[List.length_map,HM.out]at h;exact⟨ax,cx,h⟩);obtain⟨ax,cx,rfl⟩:=jE)
      have hU:SsAt wa (.slice ax 5 cx) (L5.map E):=ss_own (base:=wx.heap.size) (L5.map E) (by rw[List.length_map,HM.out]) (by rw[jf.out];exact hO);have jF:Bw wx wa:=Below.grown JT Kl (by simp) (fun y hy=>(Hv y hy).1);clear hO Kl Hv Kk JT Jx;replace hB:=hB.after jF;replace hR:=hR.after jF;replace hW:=SsAt.after hW jF;replace Hh:=bt Hh jF;clear HK jF;have Km:Hid (∀(x:Nat) (w:World),x<256^128→Calls Tryz.prog 40 #[.agg #[.string (E p),.string (E 0)],.string (E x)] w fun e w'=>e=.returned (.bool (hasB p 0 x))∧Bw w w'):=fun x w hx=>pHas_c p 0 x w h7.out.1.1 (by decide) (pedE_grp h7.out.2) hx
      go_loopw [52] (fun i wr=>∃k:Nat,k≤5∧i=.int .i64 k∧Hid (∀x∈L5.take k,hasB p 0 x=true)∧Bw wa wr) (fun i _=>5-(intOf i).toNat)
      case atStart=>exact⟨0,by omega,rfl,(by intro x hx;simp at hx),Br⟩
      case round =>
       obtain⟨k,hk,rfl,Jy,Ha⟩:=hrel;obtain⟨wp,KU⟩:∃wp,wp=wr:=⟨_,rfl⟩;subst KU;replace hU:=SsAt.after hU Ha;replace hB:=hB.after Ha;replace hR:=hR.after Ha;replace hW:=SsAt.after hW Ha;have Hr:=bt Hh Ha;by_cases hlt:k<5
       ·have He:k<L5.length:=by rw[HM.out];exact hlt
        obtain⟨bb,o,rfl,KV,x1⟩:=SsAt.at_ hU (show k<(L5.map E).length by rw[List.length_map];exact He);simp only[List.getElem_map]at x1;have JU:Hid (L5[k]'He∈L5):=Gm He;have jg:Hid (L5.take (k+1)=L5.take k++[L5[k]'He]):=take_snoc L5 k He;generalize (L5[k]'He)=xk at x1 JU jg;have KW:(0:Int)≤(k:Int):=by omega
        have KX:(k:Int)<5:=by omega
        have KY:=Kh (Kj.out xk JU.out);obtain⟨hh,JV⟩:∃t,hasB p 0 xk=t:=⟨_,rfl⟩;have JW:=Kh JV;have Kn:=Kh (Km.out xk);rw[JV]at Kn;clear JV;obtain⟨HO,HP,HQ,HR,HS,HT,HU,HV⟩:=hB.x4;go_wp2_with fail
        refine (Kn.out _ KY.out).mono ?_;rintro e wq ⟨rfl,Hl⟩;clear HO HP HQ HR HS HT HU HV;cases hh
        case false =>
         have HX:Hid (R=(13,nilN)):=by
          rw[Hid,JS.out,if_pos];have h1:=JU.out;rw[jf.out]at h1;unfold hasAll;rcases List.mem_cons.1 h1 with e | e
          ·rw[←e,JW.out,Bool.false_and]
          ·rw[Bool.and_eq_false_iff];right;rw[List.all_eq_false];exact⟨xk,e,by rw[JW.out];decide⟩
         replace hR:=hR.after Hl;have KZ:=bt Hr Hl;clear hB hU hW Hr;have Hd:=hR.lt;obtain⟨hZ,Ho,h3,Hp,h4,Hq⟩:=hR.x3;go_wp2;refine bodyPost_ret (v:=.tuple #[.agg #[.slice none 0 0,.slice none 0 0,.slice none 0 0],.int .i64 13]) ?_ rfl ?_
         ·simp[results,Tryz.results23,go_sem,hZ,h3,h4,Hd]
         ·rw[HX.out];exact StPost.err (((KZ.setCell h5.out _).setCell h5.out _).setCell h5.out _)
        case true =>
         have Js:Hid (∀x∈L5.take (k+1),hasB p 0 x=true):=fun x hx=>by
          rw[jg.out]at hx;rcases List.mem_append.1 hx with hx | hx
          ·exact Jy.out x hx
          ·rw[List.mem_singleton.1 hx];exact JW.out
         go_wp2;go_roundw
         case rel=>exact⟨k+1,by omega,by go_num,Js,bt Ha Hl⟩
         case measure=>simp[intOf];omega
       ·have K0:Hid (R=(0,stN p g h lo c1 Q vb rb)):=by
         rw[Hid,JS.out,if_neg];have h1:L5.take k=L5:=List.take_of_length_le (by rw[HM.out];omega);have h2:=Jy.out;rw[h1,jf.out]at h2;unfold hasAll;rw[Bool.not_eq_false,Bool.and_eq_true,List.all_eq_true];exact⟨h2 c1 (List.mem_cons_self ..),fun x hx=>h2 x (List.mem_cons_of_mem _ hx)⟩
        have K1:Hid (hasB p 0 c1=true):=by
         have h1:L5.take k=L5:=List.take_of_length_le (by rw[HM.out];omega);have h2:=Jy.out;rw[h1,jf.out]at h2;exact h2 c1 (List.mem_cons_self ..)
        have Ko:=Kh (fun w=>sqsum_c vb rb w KP.out KQ.out);go_upto_region 14 with fail
        clear Jy hU JS Km Kj HM jf hlt hk;go_wp2_with fail
        refine (Ko.out _).mono ?_;rintro e ws ⟨rfl,Hv⟩;replace hB:=hB.after Hv;replace hR:=hR.after Hv;replace hW:=SsAt.after hW Hv;have jG:=bt Hr Hv;clear Hv Ha Hr Hh Ko;have jd:=hB.lt;have Hd:=hR.lt;obtain⟨jH,jh,JX⟩:=blk2 ws #[.string (E p),.string (E 0)] #[.slice (some ⟨ws.heap.size,0,none⟩) 1 1,.slice none 0 0,.slice none 0 0] 24 43;obtain⟨HO,HP,HQ,HR,HS,HT,HU,HV⟩:=hB.x4;go_upto_region 18 with fail
        clear HO HP HQ HR HS HT HU HV;clear jd Hd;generalize (ws.alloc (.cells #[.string (E p),.string (E 0)] 24)).alloc (.cells #[.slice (some ⟨ws.heap.size,0,none⟩) 1 1,.slice none 0 0,.slice none 0 0] 43)=wz at jH jh JX ⊢;obtain⟨gS,HW⟩:∃g,ws.heap.size+1=g:=⟨_,rfl⟩;rw[HW]at jh ⊢;replace jh:Blk wz gS 43 [.slice (some ⟨ws.heap.size,0,none⟩) 1 1,.slice none 0 0,.slice none 0 0]:=jh;replace jH:Blk wz ws.heap.size 24 [.string (E p),.string (E 0)]:=jH;have HY:Hid (ws.heap.size<gS):=by rw[Hid];omega
        have qv:Hid (w.heap.size≤ws.heap.size):=jG.size;clear HW;go_wp2;go_loopw [20,79] (fun v20 i wr=>∃(k:Nat) (vv ev:Value) (EL:List (NEqn × Value)),k≤4∧i=.int .i64 k∧Hid (EL.map (fun e=>e.1)=stQ g h Q k)∧Blk wr gS 43 [.slice (some ⟨ws.heap.size,0,none⟩) 1 1,vv,ev]∧Blk wr ws.heap.size 24 [.string (E p),.string (E 0)]∧VOwn wr ws.heap.size vv (stV vb rb k)∧EOwn wr ws.heap.size v20 ev EL∧TOwn wr ws.heap.size v20 (stT Q k)∧Bw ws wr) (fun _ i _=>4-(intOf i).toNat)
        case atStart=>exact⟨0,_,_,[],by omega,rfl,rfl,jh,jH,World.ownsRow_nil _ _ _ _,EOwn.nil _ _ _,World.ownsRow_nil _ _ _ _,JX⟩
        case round =>
         clear jh jH JX;obtain⟨k,vv,ev,EL,hk,rfl,Jz,hS,hG,Hw,ji,jj,Ha⟩:=hrel;obtain⟨wp2,JY⟩:∃wp2,wp2=wr:=⟨_,rfl⟩;subst JY;by_cases hlt:k<4
         ·have hU:=SsAt.after hW Ha;have He:k<Q.length:=by rw[Jw.out];exact hlt
          obtain⟨bq,oq,rfl,KV,x1⟩:=SsAt.at_ hU (show k<(Q.map E).length by rw[List.length_map];exact He);simp only[List.getElem_map]at x1;have jg:Hid (Q.getD k 0=Q[k]'He):=by rw[Hid,List.getD_eq_getElem?_getD,List.getElem?_eq_getElem He];rfl
          have K2:Hid (Q[k]'He<256^12):=Ki.out _ (Gm He);generalize (Q[k]'He)=tk at x1 jg K2;have KW:(0:Int)≤(k:Int):=by omega
          have KX:(k:Int)<4:=by omega
          go_upto_region 22 with fail
          have K3:=Ha.size;have Hf:=b1 wp2 (.cells #[.string (E vb),.string (E rb)] 81);have Hb:=own_after Hw Hf;have Hc:=hS.after Hf;have Kp:=stV_len vb rb k;obtain⟨HZ,H0,H1,H2,H3,H4⟩:=hS.x3;go_upto_region 23 with (at_builtin;go_loud (refine wpList_append_lies _ rfl (.tmp 85) (.tmp 90) 40 rfl ws.heap.size 81 i2 _ 1 16 Tryz.underlying40 kG.out Js.out kH.out kI.out rfl (by omega) vv (stV vb rb k).length (strs (stV vb rb k)) rfl Hb ⟨wp2.heap.size,0,none⟩ 2 2 [.string (E vb),.string (E rb)] rfl rfl (Blk.new wp2 #[.string (E vb),.string (E rb)] 81).cells (by simp[Value.oneCell']) (by omega) (by simp only[maxLen];omega) (by omega) (by rw[World.size_alloc];omega) (wp2.heap.size+1) (by simp) ?_);intro gv cv wv hY hr H5 H6;have h6:=Blk.grown Hc hr (own_ne Hb Hc (by decide));obtain⟨jI,jJ,jK,jL,jM,jN⟩:=h6.x3;have JZ:=h6.lt)
          have h6:=Blk.grown Hc hr (own_ne Hb Hc (by decide));have Hm:=hG.after Hf;have jO:=Blk.grown Hm hr (own_ne Hb Hm (by decide));have jP:=(ji.after Hf).other Hb (by decide) (by decide) hr;have H7:TOwn wv ws.heap.size u20 (stT Q k):=own_grown (jj.after Hf) Hb (by decide) hr;have jQ:Bw ws wv:=Below.grown (ba Ha (.cells #[.string (E vb),.string (E rb)] 81)) hr (by rw[World.size_alloc];omega) (fun y hy=>(own_lt Hw hy).2)
          have H8:VOwn wv ws.heap.size (.slice (some ⟨gv,0,none⟩) (2*k+2) cv) (stV vb rb (k+1)):=by
           unfold VOwn;rw[stV_snoc,List.length_append,Kp];have e:strs (stV vb rb k++[vb,rb])=strs (stV vb rb k)++[.string (E vb),.string (E rb)]:=by unfold strs;rw[List.map_append];rfl
           rw[e];rw[Kp]at hY;exact hY
          clear Hb Hc Hm Hw hS hG ji jj Ha Hf hY hr H5 H6;clear HZ H0 H1 H2 H3 H4;have H9:=jP.set (i:=1) (u:=.slice (some ⟨gv,0,none⟩) (2*k+2) cv) h6 (by decide) (by decide);have Hx:TOwn (wv.setCell ⟨gS,1,none⟩ (.slice (some ⟨gv,0,none⟩) (2*k+2) cv)) ws.heap.size u20 (stT Q k):=own_set H7 (own_ne H7 h6 (by decide));have Hs:VOwn (wv.setCell ⟨gS,1,none⟩ (.slice (some ⟨gv,0,none⟩) (2*k+2) cv)) ws.heap.size (.slice (some ⟨gv,0,none⟩) (2*k+2) cv) (stV vb rb (k+1)):=own_set H8 (own_ne H8 h6 (by decide));have ja:=jO.other ⟨gS,1,none⟩ (.slice (some ⟨gv,0,none⟩) (2*k+2) cv) (by have:=HY.out;show ws.heap.size≠gS;omega);have Hg:=h6.set 1 (.slice (some ⟨gv,0,none⟩) (2*k+2) cv);have Hi:=jQ.setCell (p:=⟨gS,1,none⟩) (by have:=HY.out;show ws.heap.size≤gS;omega) (.slice (some ⟨gv,0,none⟩) (2*k+2) cv);generalize wv.setCell ⟨gS,1,none⟩ (.slice (some ⟨gv,0,none⟩) (2*k+2) cv)=wu at H9 Hx Hs ja Hg Hi ⊢;replace Hg:Blk wu gS 43 [.slice (some ⟨ws.heap.size,0,none⟩) 1 1,.slice (some ⟨gv,0,none⟩) (2*k+2) cv,ev]:=Hg;clear jP H7 H8 jO h6 jQ;generalize (.slice (some ⟨gv,0,none⟩) (2*k+2) cv:Value)=vv2 at Hs Hg ⊢;have J0:Hid (ws.heap.size≤wu.heap.size):=Hi.size;obtain⟨NL,jR⟩:∃L,L=stQ g h Q (k+1):=⟨_,rfl⟩;go_cut [] (fun wy=>fSq2 gS ws.heap.size p vv2 ev u20 ws.heap.size (stV vb rb (k+1)) (stT Q k) EL NL [true,true] wy∧Below ws.heap.size wu wy)
          case first =>
           refine wp_region_invB (vSq2 wu.heap.size gS w.heap.size g h tk k ev u20 ws.heap.size NL) [17,19] ws.heap.size (fSq2 gS ws.heap.size p vv2 ev u20 ws.heap.size (stV vb rb (k+1)) (stT Q k) EL NL) 154 ?_ (by kernel_rfl) rfl (by kernel_rfl) ?_ ?_ (by kernel_rfl)
           ·exact fSq2_st _ _ _ _ _ _ _ _ _ _ _ _ _ _ (Below.drew Br) ⟨fun _=>H9,ja,Hs,Hx,ev,Hg,fun _=>rfl,fun h0=>by cases h0⟩
           ·intro hA done a' w' i o hJ ho hl he;have hi:=(Array.getElem?_eq_some_iff.1 ho).1;have hC:=vSq2_st wu.heap.size gS w.heap.size g h tk k ev u20 ws.heap.size NL;have hD:=fSq2_st gS ws.heap.size p vv2 ev u20 ws.heap.size (stV vb rb (k+1)) (stT Q k) EL NL;have hw:ws.heap.size≤w'.heap.size:=Nat.le_trans J0.out hJ.bw.size;match i,hi,ho,hl,he with
            | 0,_,ho,hl,he =>
             simp at ho;subst ho;refine hJ.op (d:=93) hA hC hD hw rfl rfl rfl (by decide) he ?_;have q19:=hJ.keep 19 (.pointer (some ⟨gS,0,none⟩)) rfl (by kernel_rfl);refine wp_val (v:=.pointer (some ⟨gS,2,none⟩)) (by simp[execOp,q19,go_sem]) rfl
            | 1,_,ho,hl,he =>
             simp at ho;subst ho;refine hJ.op (d:=94) hA hC hD hw rfl rfl rfl (by decide) he ?_;obtain⟨v93,ev93,J1⟩:=hJ.dn 0 _ 93 rfl (he ⟨0,.data⟩ (by simp) rfl) rfl;have qv93:=eval_of ev93;obtain rfl:v93=.pointer (some ⟨gS,2,none⟩):=J1;obtain⟨_,_,_,_,e3,hH,Ht,_⟩:=hJ.ex
             have J2:stB [17,19] done≠[true,true]:=fun e=>by
              have K4:done.getD 19 false=true:=by
               simp only[stB,List.map_cons,List.map_nil,List.cons.injEq]at e;exact e.2.1
              have:=hJ.pr 19 _ rfl K4 { on:=1,ground:=Ground.phase } (by simp) rfl;rw[this]at hl;cases hl
             obtain rfl:=Ht J2;have x2:=hH.cell 2;refine wp_val (v:=e3) (by simp[execOp,ev93,go_sem,x2]) rfl
            | 2,_,ho,hl,he =>
             simp at ho;subst ho;refine hJ.op (d:=95) hA hC hD hw rfl rfl rfl (by decide) he ?_;have q22:=hJ.keep 22 (.string (E tk)) rfl (by kernel_rfl);refine wp_val (v:=.string (E tk)) (by simp[execOp,q22,go_sem]) rfl
            | 3,_,ho,hl,he =>
             simp at ho;subst ho;refine hJ.op (d:=96) hA hC hD hw rfl rfl rfl (by decide) he ?_;have q6:=hJ.keep 6 (.pointer (some ⟨w.heap.size,0,none⟩)) rfl (by kernel_rfl);refine wp_val (v:=.pointer (some ⟨w.heap.size,2,none⟩)) (by simp[execOp,q6,go_sem]) rfl
            | 4,_,ho,hl,he =>
             simp at ho;subst ho;refine hJ.op (d:=97) hA hC hD hw rfl rfl rfl (by decide) he ?_;obtain⟨v96,ev96,J3⟩:=hJ.dn 3 _ 96 rfl (he ⟨3,.data⟩ (by simp) rfl) rfl;have qv96:=eval_of ev96;have hM:=hB.after (Hi.trans hJ.bw);have jd:=hM.lt;have x2:=hM.cell 2;have x3:=hM.cell 3;obtain rfl:v96=.pointer (some ⟨w.heap.size,2,none⟩):=J3;refine wp_val (v:=.string (E g)) (by simp[execOp,ev96,go_sem,x2]) rfl
            | 5,_,ho,hl,he =>
             simp at ho;subst ho;refine hJ.op (d:=98) hA hC hD hw rfl rfl rfl (by decide) he ?_;have q21:=hJ.keep 21 (.int .i64 (k:Int)) rfl (by kernel_rfl);refine wp_val (v:=.int .i64 (k:Int)) (by simp[execOp,q21,go_sem]) rfl
            | 6,_,ho,hl,he =>
             simp at ho;subst ho;refine hJ.op (d:=99) hA hC hD hw rfl rfl rfl (by decide) he ?_;obtain⟨v98,ev98,J4⟩:=hJ.dn 5 _ 98 rfl (he ⟨5,.data⟩ (by simp) rfl) rfl;have qv98:=eval_of ev98;obtain rfl:v98=.int .i64 (k:Int):=J4;refine wp_val (v:=.int .i64 ((2*k:Nat):Int)) (by rcases (show k=0∨k=1∨k=2∨k=3 by omega) with rfl | rfl | rfl | rfl <;> (simp[execOp,ev98,go_sem];try rfl)) rfl
            | 8,_,ho,hl,he =>
             simp at ho;subst ho;refine hJ.op (d:=101) hA hC hD hw rfl rfl rfl (by decide) he ?_;have q6:=hJ.keep 6 (.pointer (some ⟨w.heap.size,0,none⟩)) rfl (by kernel_rfl);refine wp_val (v:=.pointer (some ⟨w.heap.size,3,none⟩)) (by simp[execOp,q6,go_sem]) rfl
            | 9,_,ho,hl,he =>
             simp at ho;subst ho;refine hJ.op (d:=102) hA hC hD hw rfl rfl rfl (by decide) he ?_;obtain⟨v101,ev101,jS⟩:=hJ.dn 8 _ 101 rfl (he ⟨8,.data⟩ (by simp) rfl) rfl;have qv101:=eval_of ev101;have hM:=hB.after (Hi.trans hJ.bw);have jd:=hM.lt;have x2:=hM.cell 2;have x3:=hM.cell 3;obtain rfl:v101=.pointer (some ⟨w.heap.size,3,none⟩):=jS;refine wp_val (v:=.string (E h)) (by simp[execOp,ev101,go_sem,x3]) rfl
            | 10,_,ho,hl,he =>
             simp at ho;subst ho;refine hJ.op (d:=103) hA hC hD hw rfl rfl rfl (by decide) he ?_;have q21:=hJ.keep 21 (.int .i64 (k:Int)) rfl (by kernel_rfl);refine wp_val (v:=.int .i64 (k:Int)) (by simp[execOp,q21,go_sem]) rfl
            | 11,_,ho,hl,he =>
             simp at ho;subst ho;refine hJ.op (d:=104) hA hC hD hw rfl rfl rfl (by decide) he ?_;obtain⟨v103,ev103,jT⟩:=hJ.dn 10 _ 103 rfl (he ⟨10,.data⟩ (by simp) rfl) rfl;have qv103:=eval_of ev103;obtain rfl:v103=.int .i64 (k:Int):=jT;refine wp_val (v:=.int .i64 ((2*k:Nat):Int)) (by rcases (show k=0∨k=1∨k=2∨k=3 by omega) with rfl | rfl | rfl | rfl <;> (simp[execOp,ev103,go_sem];try rfl)) rfl
            | 12,_,ho,hl,he =>
             simp at ho;subst ho;refine hJ.op (d:=105) hA hC hD hw rfl rfl rfl (by decide) he ?_;obtain⟨v104,ev104,jU⟩:=hJ.dn 11 _ 104 rfl (he ⟨11,.data⟩ (by simp) rfl) rfl;have qv104:=eval_of ev104;obtain rfl:v104=.int .i64 ((2*k:Nat):Int):=jU;refine wp_val (v:=.int .i64 ((2*k+1:Nat):Int)) (by rcases (show k=0∨k=1∨k=2∨k=3 by omega) with rfl | rfl | rfl | rfl <;> (simp[execOp,ev104,go_sem];try rfl)) rfl
            | 18,_,ho,hl,he =>
             simp at ho;subst ho;refine hJ.op (d:=111) hA hC hD hw rfl rfl rfl (by decide) he ?_;have q19:=hJ.keep 19 (.pointer (some ⟨gS,0,none⟩)) rfl (by kernel_rfl);refine wp_val (v:=.pointer (some ⟨gS,2,none⟩)) (by simp[execOp,q19,go_sem]) rfl
            | 7,_,ho,hl,he =>
             simp at ho;subst ho;refine hJ.op (d:=100) hA hC hD hw rfl rfl rfl (by decide) he ?_;obtain⟨v97,ev97,J5⟩:=hJ.dn 4 _ 97 rfl (he ⟨4,.data⟩ (by simp) rfl) rfl;have qv97:=eval_of ev97;obtain⟨v99,ev99,J6⟩:=hJ.dn 6 _ 99 rfl (he ⟨6,.data⟩ (by simp) rfl) rfl;have qv99:=eval_of ev99;obtain rfl:v97=.string (E g):=J5;obtain rfl:v99=.int .i64 ((2*k:Nat):Int):=J6;refine wp_callX 61 #[.tmp 97,.tmp 99] #[22,3] rfl (enters_of Tryz.func61 (by kernel_rfl) rfl) ?_;simp only[List.map_toArray,List.map_cons,List.map_nil,qv97,qv99];refine (sqterm_c (E g) ((2*k:Nat):Int) w').mono ?_;rintro e w'' ⟨rfl,hb⟩;exact⟨_,rfl,hb,rfl⟩
            | 13,_,ho,hl,he =>
             simp at ho;subst ho;refine hJ.op (d:=106) hA hC hD hw rfl rfl rfl (by decide) he ?_;obtain⟨v102,ev102,jV⟩:=hJ.dn 9 _ 102 rfl (he ⟨9,.data⟩ (by simp) rfl) rfl;have qv102:=eval_of ev102;obtain⟨v105,ev105,jW⟩:=hJ.dn 12 _ 105 rfl (he ⟨12,.data⟩ (by simp) rfl) rfl;have qv105:=eval_of ev105;obtain rfl:v102=.string (E h):=jV;obtain rfl:v105=.int .i64 ((2*k+1:Nat):Int):=jW;refine wp_callX 61 #[.tmp 102,.tmp 105] #[22,3] rfl (enters_of Tryz.func61 (by kernel_rfl) rfl) ?_;simp only[List.map_toArray,List.map_cons,List.map_nil,qv102,qv105];refine (sqterm_c (E h) ((2*k+1:Nat):Int) w').mono ?_;rintro e w'' ⟨rfl,hb⟩;exact⟨_,rfl,hb,rfl⟩
            | 14,_,ho,hl,he =>
             simp at ho;subst ho;refine hJ.op (d:=107) hA hC hD hw rfl rfl rfl (by decide) he ?_;obtain⟨v100,ev100,jX⟩:=hJ.dn 7 _ 100 rfl (he ⟨7,.data⟩ (by simp) rfl) rfl;have qv100:=eval_of ev100;obtain⟨v106,ev106,jY⟩:=hJ.dn 13 _ 106 rfl (he ⟨13,.data⟩ (by simp) rfl) rfl;have qv106:=eval_of ev106;obtain rfl:v100=.agg #[.string (E g),.int .i64 ((2*k:Nat):Int),.bool false,.string (E 1)]:=jX;obtain rfl:v106=.agg #[.string (E h),.int .i64 ((2*k+1:Nat):Int),.bool false,.string (E 1)]:=jY;have hN:=Blk.new w' #[.string (E g),.int .i64 ((2*k:Nat):Int),.bool false,.string (E 1),.string (E h),.int .i64 ((2*k+1:Nat):Int),.bool false,.string (E 1)] 129;have J7:=hJ.bw.size;simp[Oper.wp,execOp,ev100,ev106,go_sem];exact⟨_,rfl,b1 _ _,fun _=>⟨w'.heap.size,rfl,J7,TOwn.blk [t1 g (2*k),t1 h (2*k+1)] 2 rfl (by decide) hN⟩⟩
            | 15,_,ho,hl,he =>
             simp at ho;subst ho;refine hJ.op (d:=108) hA hC hD hw rfl rfl rfl (by decide) he ?_;obtain⟨v95,ev95,J8⟩:=hJ.dn 2 _ 95 rfl (he ⟨2,.data⟩ (by simp) rfl) rfl;have qv95:=eval_of ev95;obtain⟨v107,ev107,Hy⟩:=hJ.dn 14 _ 107 rfl (he ⟨14,.data⟩ (by simp) rfl) rfl;have qv107:=eval_of ev107
             have hF:stB [17,19] done=[false,false]:=by
              have k1:∀a17:done.getD 17 false=true,False:=fun a17=>by
                have a16:=hJ.pr 17 _ rfl a17 ⟨16,.data⟩ (by simp) rfl;have a15:=hJ.pr 16 _ rfl a16 ⟨15,.data⟩ (by simp) rfl;rw[a15]at hl;cases hl
              have k2:∀a19:done.getD 19 false=true,False:=fun a19=>k1 (hJ.pr 19 _ rfl a19 ⟨17,.data⟩ (by simp) rfl)
              have k3:done.getD 17 false=false:=by cases h:done.getD 17 false;rfl;exact (k1 h).elim
              have k4:done.getD 19 false=false:=by cases h:done.getD 19 false;rfl;exact (k2 h).elim
              simp only[stB,List.map_cons,List.map_nil,k3,k4]
             rw[hF]at Hy;obtain⟨b,rfl,JA,hT⟩:=Hy rfl;obtain rfl:v95=.string (E tk):=J8;refine wp_callX 60 #[.tmp 95,.tmp 107] #[22,85] rfl (enters_of Tryz.func60 (by kernel_rfl) rfl) ?_;simp only[List.map_toArray,List.map_cons,List.map_nil,qv95,qv107];refine (sqequation_c (E tk) _ 2 2 w').mono ?_;rintro e w'' ⟨rfl,hb⟩;exact⟨_,rfl,hb,fun _=>⟨b,rfl,JA,hT.after hb⟩⟩
            | 16,_,ho,hl,he =>
             simp at ho;subst ho;refine hJ.op (d:=109) hA hC hD hw rfl rfl rfl (by decide) he ?_;obtain⟨v108,ev108,Hz⟩:=hJ.dn 15 _ 108 rfl (he ⟨15,.data⟩ (by simp) rfl) rfl;have qv108:=eval_of ev108
             have hF:stB [17,19] done=[false,false]:=by
              have k1:∀a17:done.getD 17 false=true,False:=fun a17=>by
                have a16:=hJ.pr 17 _ rfl a17 ⟨16,.data⟩ (by simp) rfl;rw[a16]at hl;cases hl
              have k2:∀a19:done.getD 19 false=true,False:=fun a19=>k1 (hJ.pr 19 _ rfl a19 ⟨17,.data⟩ (by simp) rfl)
              have k3:done.getD 17 false=false:=by cases h:done.getD 17 false;rfl;exact (k1 h).elim
              have k4:done.getD 19 false=false:=by cases h:done.getD 19 false;rfl;exact (k2 h).elim
              simp only[stB,List.map_cons,List.map_nil,k3,k4]
             rw[hF]at Hz;obtain⟨b,rfl,JA,hT⟩:=Hz rfl;have hN:=Blk.new w' #[.int .i64 0,.string (E tk),.slice (some ⟨b,0,none⟩) 2 2] 87;simp[Oper.wp,execOp,ev108,go_sem];exact⟨_,rfl,b1 _ _,fun _=>⟨b,w'.heap.size,rfl,hN,JA,hT.after (b1 _ _)⟩⟩
            | 17,_,ho,hl,he =>
             simp at ho;subst ho
             have hF:stB [17,19] done=[false,false]:=by
              have k1:∀a17:done.getD 17 false=true,False:=fun a17=>by
                rw[a17]at hl;cases hl
              have k2:∀a19:done.getD 19 false=true,False:=fun a19=>k1 (hJ.pr 19 _ rfl a19 ⟨17,.data⟩ (by simp) rfl)
              have k3:done.getD 17 false=false:=by cases h:done.getD 17 false;rfl;exact (k1 h).elim
              have k4:done.getD 19 false=false:=by cases h:done.getD 19 false;rfl;exact (k2 h).elim
              simp only[stB,List.map_cons,List.map_nil,k3,k4]
             have jZ:17<done.size:=by rw[hJ.sz];decide
             have hX:stB [17,19] (done.setIfInBounds 17 true)=[true,false]:=by
              have e:=hF;simp only[stB,List.map_cons,List.map_nil,List.cons.injEq,and_true]at e;simp only[stB,List.map_cons,List.map_nil];rw[getD_set _ _ _ jZ,getD_set _ _ _ jZ,if_pos rfl,if_neg (by decide),e.2]
             obtain⟨v94,ev94,jb⟩:=hJ.dn 1 _ 94 rfl (he ⟨1,.data⟩ (by simp) rfl) rfl;have qv94:=eval_of ev94;obtain⟨v109,ev109,HA⟩:=hJ.dn 16 _ 109 rfl (he ⟨16,.data⟩ (by simp) rfl) rfl;have qv109:=eval_of ev109;rw[hF]at jb HA;obtain⟨b,b2,rfl,hN,JA,hT⟩:=HA rfl;have J9:v94=ev:=jb;clear jb;have hex:=hJ.ex;rw[hF]at hex;obtain⟨ka,Hj,hW,JB,e3,hH,Ht,_⟩:=hex;have j0:=ka rfl;have j1:=Jz.out;have j2:EL.length=k:=by have:=congrArg List.length j1;rwa [List.length_map,stQ_len]at this
             refine wpOp_step rfl fun K' hK=>?_
             refine step_append_lies _ rfl (.tmp 94) (.tmp 109) 41 rfl ws.heap.size 87 i4 _ 3 48 Tryz.underlying41 kP.out kQ.out kR.out kS.out rfl (by omega) ev EL.length (EL.flatMap ecp) (qv94.trans J9) j0.row ⟨b2,0,none⟩ 1 1 [.int .i64 0,.string (E tk),.slice (some ⟨b,0,none⟩) 2 2] qv109 rfl hN.cells (by simp[Value.oneCell']) (by omega) (by rw[j2];simp only[maxLen];omega) (by rw[j2];omega) hw w'.heap.size rfl fun gE cE w'' hO ht kb hlt=>hK _ _ ?_
             have Hk:=j0.row
             have K5:ecp (eqK g h Q k,.slice (some ⟨b,0,none⟩) 2 2)=[.int .i64 0,.string (E tk),.slice (some ⟨b,0,none⟩) 2 2]:=by
              have e:=jg.out;unfold ecp eqK;rw[←e];rfl
             have kc:∀g',u20.ownBlock=some g'→(Value.slice (some ⟨b,0,none⟩) 2 2).ownBlock≠some g':=fun g' Hu K6=>by
              have h1:=(own_lt Hx Hu).1;have h2:b=g':=by simpa [Value.ownBlock] using K6
              omega
             refine hJ.put (d:=110) hA rfl rfl he (Below.grown hJ.bw ht hw (fun g' Hu=>(own_lt Hk Hu).2)) ?_ ?_ ?_
             ·rw[hX];exact⟨fun h0=>(by cases h0),Blk.grown Hj ht (own_ne Hk Hj (by decide)),own_grown hW Hk (by decide) ht,own_grown JB Hk (by decide) ht,e3,Blk.grown hH ht (own_ne Hk hH (by decide)),fun _=>Ht (by decide),fun h0=>(by cases h0)⟩
             ·intro j q hq hj jC u h;rw[hF]at h;rw[hX];exact vSq2_ap j u hj h
             ·rw[hX];intro _;refine⟨EL++[(eqK g h Q k,.slice (some ⟨b,0,none⟩) 2 2)],?_,j0.snoc ht rfl (by rw[K5];exact hO) hT kc⟩;rw[List.map_append,j1,jR,stQ_snoc];rfl
            | 19,_,ho,hl,he =>
             simp at ho;subst ho;obtain⟨v110,ev110,HB⟩:=hJ.dn 17 _ 110 rfl (he ⟨17,.data⟩ (by simp) rfl) rfl;have qv110:=eval_of ev110;obtain⟨v111,ev111,j3⟩:=hJ.dn 18 _ 111 rfl (he ⟨18,.data⟩ (by simp) rfl) rfl;have qv111:=eval_of ev111;have Kq:=he ⟨17,.data⟩ (by simp) rfl;have j4:19<done.size:=by rw[hJ.sz];decide
             have hF:stB [17,19] done=[true,false]:=by simp only[stB,List.map_cons,List.map_nil,Kq,hl]
             have hX:stB [17,19] (done.setIfInBounds 19 true)=[true,true]:=by
              simp only[stB,List.map_cons,List.map_nil];rw[getD_set _ _ _ j4,getD_set _ _ _ j4,if_pos rfl,if_neg (by decide),Kq]
             rw[hF]at HB;obtain⟨L,hL,hE⟩:=HB rfl;obtain⟨ae,ce,hve⟩:=RAt.form hE.es;obtain⟨n9,Kr⟩:∃n,n=(L.map fun e=>e.1.q).length:=⟨_,rfl⟩;rw[←Kr]at hve;clear Kr;subst hve;obtain rfl:v111=.pointer (some ⟨gS,2,none⟩):=j3;have hex:=hJ.ex;rw[hF]at hex;obtain⟨_,Hj,hW,JB,e3,hH,_,_⟩:=hex;have JC:=hH.lt;have f2:=hH.free 2;have c2:=hH.cell 2;have HW:ws.heap.size≤gS:=Nat.le_of_lt HY.out;refine wpOp_step rfl fun K' hK=>?_
             rw[if_pos (by simp[Region.wanted])];simp[Oper.wp,execOp,ev110,ev111,go_sem,f2,c2,JC];have h9:=hJ.skip (i:=19) (v:=undef) rfl rfl he (hJ.bw.setCell (p:=⟨gS,2,none⟩) HW (.slice ae n9 ce)) ?_ ?_
             ·exact hK a' _ h9
             ·rw[hX];exact⟨fun h0=>(by cases h0),Hj.other ⟨gS,2,none⟩ _ (by have:=HY.out;show ws.heap.size≠gS;omega),own_set hW (own_ne hW hH (by decide)),own_set JB (own_ne JB hH (by decide)),_,hH.set 2 _,fun h0=>absurd rfl h0,fun _=>⟨L,hL,hE.set hH (by decide) (by decide)⟩⟩
             ·intro j q hq hj jC d u hd hu hv;rw[hF]at hv;rw[hX];exact vSq2_sto j u hv
           ·intro done a' w' hJ hd;obtain⟨f,hf,hv⟩:=hJ.all hd;have hX:stB [17,19] done=[true,true]:=stB_all hd (by kernel_rfl);have hex:=hJ.ex;rw[hX]at hex;subst hf;simp only[putAll,List.size_toArray,List.length_cons,List.length_nil,Nat.reduceAdd,List.getElem?_toArray,List.getElem?_cons_zero,List.getElem?_cons_succ,Option.bind_some,Act.put,List.setIfInBounds_toArray,List.set_cons_zero,List.set_cons_succ];go_wp2_with fail
            go_meet
            exact⟨hex,hJ.bw⟩
          case rest =>
           obtain⟨⟨_,Ks,Kt,kd,e3,Ku,_,Kv⟩,hb4⟩:=hcut;obtain⟨EL4,ke,j5⟩:=Kv rfl;obtain⟨wy,kf⟩:∃wy,wy=wc:=⟨_,rfl⟩;subst kf;have Kw:=Hi.trans hb4;clear H9 Hx Hs ja Hg Hi Kv hb4 Jz;go_wp2_with fail
           refine (sqterm_c (E tk) (2*(k:Int)) _).mono ?_;rintro e wt ⟨rfl,jc⟩;unfold term1;have kg:=bt Kw jc;have kh:=kg.size;have jk:=b1 wt (.cells #[.string (E tk),.int .i64 (2*(k:Int)),.bool false,.string (E 1)] 129)
           have jl:(wt.alloc (.cells #[.string (E tk),.int .i64 (2*(k:Int)),.bool false,.string (E 1)] 129)).ownsRow ws.heap.size 129 4 u20 k ((stT Q k).flatMap tcs):=by
            have h:=(kd.after jc).after jk;unfold TOwn at h;rwa [stT_len]at h
           go_upto_region 25 with (at_builtin;go_loud (refine wpList_append_lies _ rfl (.tmp 112) (.tmp 117) 85 rfl ws.heap.size 129 i3 _ 4 48 Tryz.underlying85 kJ.out kK.out kM.out kO.out rfl (by omega) u20 k ((stT Q k).flatMap tcs) rfl jl ⟨wt.heap.size,0,none⟩ 1 1 [.string (E tk),.int .i64 (2*(k:Int)),.bool false,.string (E 1)] rfl rfl (Blk.new wt #[.string (E tk),.int .i64 (2*(k:Int)),.bool false,.string (E 1)] 129).cells (by simp[Value.oneCell']) (by omega) (by simp only[maxLen];omega) (by omega) (by rw[World.size_alloc];omega) (wt.heap.size+1) (by simp) ?_);intro gT cT wT HC hI j6 kj)
           have Hc:=(Ku.after jc).after jk;have Hm:=(Ks.after jc).after jk;have K7:=Blk.grown Hc hI (own_ne jl Hc (by decide));have K8:=Blk.grown Hm hI (own_ne jl Hm (by decide));have K9:VOwn wT ws.heap.size vv2 (stV vb rb (k+1)):=own_grown (own_after (own_after Kt jc) jk) jl (by decide) hI;have qa:=((j5.after jc).after jk).terms (m:=k+1) (c:=cT) jl hI (by rw[World.size_alloc];exact j6)
           have qb:TOwn wT ws.heap.size (.slice (some ⟨gT,0,none⟩) (k+1) cT) (stT Q (k+1)):=by
            unfold TOwn;rw[stT_snoc,List.length_append,stT_len,List.flatMap_append,jg.out];exact HC
           have qc:Bw ws wT:=Below.grown (ba kg (.cells #[.string (E tk),.int .i64 (2*(k:Int)),.bool false,.string (E 1)] 129)) hI (by rw[World.size_alloc];omega) (fun y hy=>(own_lt kd hy).2);have qd:Hid (EL4.map (fun e=>e.1)=stQ g h Q (k+1)):=by rw[Hid,ke,jR]
           clear HC hI j6 kj jl Hc Hm jk kg kh jc Kw Ks Kt kd Ku j5;go_wp2;go_roundw
           case rel=>exact⟨k+1,vv2,e3,EL4,by omega,by go_num,qd,K7,K8,K9,qa,qb,qc⟩
           case measure=>simp[intOf];omega
         ·obtain rfl:k=4:=by omega
          go_upto_region 26 with fail
          clear hlt hk;obtain⟨tgt,kk⟩:∃t,t=shiftN p c1 g (-lo):=⟨_,rfl⟩;have qe:=Kh kk;have qf:Hid (∀w:World,Calls Tryz.prog 49 #[.int .i64 lo] w fun e w'=>e=.returned (.agg #[.bool (sg (lo)),.string (E (lo).natAbs)])∧Bw w w'):=fun w=>iof_c lo w (by have:=Ju.out;omega) (by have:=Ju.out;omega)
          have qg:Hid (∀w:World,Calls Tryz.prog 63 #[.agg #[.bool (sg (lo)),.string (E (lo).natAbs)]] w fun e w'=>e=.returned (.agg #[.bool (sg (-lo)),.string (E (-lo).natAbs)])∧Bw w w'):=fun w=>ineg_c lo w (lo128 Ju.out)
          have qh:Hid (∀w:World,Calls Tryz.prog 62 #[.agg #[.string (E p),.string (E 0),.string (E g),.string (E h)],.string (E c1),.agg #[.bool (sg (-lo)),.string (E (-lo).natAbs)]] w fun e w'=>e=.returned (.tuple #[.string (E tgt),.int .i64 0])∧Bw w w'):=fun w=>by
           rw[kk];exact shift_c p 0 g h c1 (-lo) w h7.out.1.1 (by decide) h7.out.1.2.1 h7.out.1.2.2 (Nl Kg.out P8) (by rw[Int.natAbs_neg];exact lo128 Ju.out) h7.out.2 K1.out (ped_two h7.out.2).2.2.2.1
          clear kk;go_cut [18,23] (fun s18 s23 wy=>s23=.string (E tgt)∧s18=.int .i64 0∧Bw wp2 wy)
          case first =>
           refine wp_region_invB (vSq6 (.agg #[.string (E p),.string (E 0),.string (E g),.string (E h)]) c1 tgt lo) [] wp2.heap.size (fun _ _=>True) 154 trivial (by kernel_rfl) rfl (by kernel_rfl) ?_ ?_ (by kernel_rfl)
           ·intro hA done a' w' i o hJ ho hl he;have hi:=(Array.getElem?_eq_some_iff.1 ho).1;have hC:=vSq6_st (.agg #[.string (E p),.string (E 0),.string (E g),.string (E h)]) c1 tgt lo;have hD:∀(b:List Bool) (w w':World),Bw w w'→(fun (_:List Bool) (_:World)=>True) b w→(fun (_:List Bool) (_:World)=>True) b w':=fun _ _ _ _ _=>trivial
            have hw:=hJ.bw.size;match i,hi,ho,hl,he with
            | 0,_,ho,hl,he =>
             simp at ho;subst ho;refine hJ.op (d:=121) hA hC hD hw rfl rfl rfl (by decide) he ?_;have q6:=hJ.keep 6 (.pointer (some ⟨w.heap.size,0,none⟩)) rfl (by kernel_rfl);have hM:=hB.after (bt Ha hJ.bw);have jd:=hM.lt;have x0:=hM.cell 0;have x1:=hM.cell 1;have x2:=hM.cell 2;have x3:=hM.cell 3;refine wp_val (v:=.agg #[.string (E p),.string (E 0),.string (E g),.string (E h)]) (by simp[execOp,q6,go_sem,x0,x1,x2,x3]) rfl
            | 1,_,ho,hl,he =>
             simp at ho;subst ho;refine hJ.op (d:=122) hA hC hD hw rfl rfl rfl (by decide) he ?_;have q2:=hJ.keep 2 (.string (E c1)) rfl (by kernel_rfl);refine wp_val (v:=.string (E c1)) (by simp[execOp,q2,go_sem]) rfl
            | 2,_,ho,hl,he =>
             simp at ho;subst ho;refine hJ.op (d:=123) hA hC hD hw rfl rfl rfl (by decide) he ?_;have q1:=hJ.keep 1 (.int .i64 lo) rfl (by kernel_rfl);refine wp_val (v:=.int .i64 lo) (by simp[execOp,q1,go_sem]) rfl
            | 3,_,ho,hl,he =>
             simp at ho;subst ho;refine hJ.op (d:=124) hA hC hD hw rfl rfl rfl (by decide) he ?_;obtain⟨v123,ev123,j7⟩:=hJ.dn 2 _ 123 rfl (he ⟨2,.data⟩ (by simp) rfl) rfl;have qv123:=eval_of ev123;obtain rfl:v123=.int .i64 lo:=j7;refine wp_callX 49 #[.tmp 123] #[2] rfl (enters_of Tryz.func49 (by kernel_rfl) rfl) ?_;simp only[List.map_toArray,List.map_cons,List.map_nil,qv123];refine (qf.out w').mono ?_;rintro e w'' ⟨rfl,hb⟩;exact⟨_,rfl,hb,rfl⟩
            | 4,_,ho,hl,he =>
             simp at ho;subst ho;refine hJ.op (d:=125) hA hC hD hw rfl rfl rfl (by decide) he ?_;obtain⟨v124,ev124,j8⟩:=hJ.dn 3 _ 124 rfl (he ⟨3,.data⟩ (by simp) rfl) rfl;have qv124:=eval_of ev124;obtain rfl:v124=.agg #[.bool (sg (lo)),.string (E (lo).natAbs)]:=j8;refine wp_callX 63 #[.tmp 124] #[28] rfl (enters_of Tryz.func63 (by kernel_rfl) rfl) ?_;simp only[List.map_toArray,List.map_cons,List.map_nil,qv124];refine (qg.out w').mono ?_;rintro e w'' ⟨rfl,hb⟩;exact⟨_,rfl,hb,rfl⟩
            | 5,_,ho,hl,he =>
             simp at ho;subst ho;refine hJ.op (d:=126) hA hC hD hw rfl rfl rfl (by decide) he ?_;obtain⟨v121,ev121,j9⟩:=hJ.dn 0 _ 121 rfl (he ⟨0,.data⟩ (by simp) rfl) rfl;have qv121:=eval_of ev121;obtain rfl:v121=.agg #[.string (E p),.string (E 0),.string (E g),.string (E h)]:=j9;obtain⟨v122,ev122,Ja⟩:=hJ.dn 1 _ 122 rfl (he ⟨1,.data⟩ (by simp) rfl) rfl;have qv122:=eval_of ev122;obtain rfl:v122=.string (E c1):=Ja;obtain⟨v125,ev125,Jb⟩:=hJ.dn 4 _ 125 rfl (he ⟨4,.data⟩ (by simp) rfl) rfl;have qv125:=eval_of ev125;obtain rfl:v125=.agg #[.bool (sg (-lo)),.string (E (-lo).natAbs)]:=Jb;refine wp_callX 62 #[.tmp 121,.tmp 122,.tmp 125] #[26,22,28] rfl (enters_of Tryz.func62 (by kernel_rfl) rfl) ?_;simp only[List.map_toArray,List.map_cons,List.map_nil,qv121,qv122,qv125];refine (qh.out w').mono ?_;rintro e w'' ⟨rfl,hb⟩;exact⟨_,rfl,hb,rfl⟩
            | 6,_,ho,hl,he =>
             simp at ho;subst ho;refine hJ.op (d:=120) hA hC hD hw rfl rfl rfl (by decide) he ?_;obtain⟨v126,ev126,Jc⟩:=hJ.dn 5 _ 126 rfl (he ⟨5,.data⟩ (by simp) rfl) rfl;have qv126:=eval_of ev126;obtain rfl:v126=.tuple #[.string (E tgt),.int .i64 0]:=Jc;refine wp_val (v:=.tuple #[.string (E tgt),.int .i64 0]) (by simp[execOp,ev126,go_sem]) rfl
            | 7,_,ho,hl,he =>
             simp at ho;subst ho;refine hJ.op (d:=127) hA hC hD hw rfl rfl rfl (by decide) he ?_;obtain⟨v120,ev120,Hn⟩:=hJ.dn 6 _ 120 rfl (he ⟨6,.data⟩ (by simp) rfl) rfl;have qv120:=eval_of ev120;obtain rfl:v120=.tuple #[.string (E tgt),.int .i64 0]:=Hn;refine wp_val (v:=.string (E tgt)) (by simp[execOp,ev120,go_sem]) rfl
            | 8,_,ho,hl,he =>
             simp at ho;subst ho;refine hJ.op (d:=128) hA hC hD hw rfl rfl rfl (by decide) he ?_;obtain⟨v120,ev120,Hn⟩:=hJ.dn 6 _ 120 rfl (he ⟨6,.data⟩ (by simp) rfl) rfl;have qv120:=eval_of ev120;obtain rfl:v120=.tuple #[.string (E tgt),.int .i64 0]:=Hn;refine wp_val (v:=.int .i64 0) (by simp[execOp,ev120,go_sem]) rfl
            | 9,_,ho,hl,he =>
             simp at ho;subst ho;refine hJ.op (d:=23) hA hC hD hw rfl rfl rfl (by decide) he ?_;obtain⟨v127,ev127,Jd⟩:=hJ.dn 7 _ 127 rfl (he ⟨7,.data⟩ (by simp) rfl) rfl;have qv127:=eval_of ev127;obtain rfl:v127=.string (E tgt):=Jd;refine wp_val (v:=.string (E tgt)) (by simp[execOp,ev127,go_sem]) rfl
            | 10,_,ho,hl,he =>
             simp at ho;subst ho;refine hJ.op (d:=18) hA hC hD hw rfl rfl rfl (by decide) he ?_;obtain⟨v128,ev128,Je⟩:=hJ.dn 8 _ 128 rfl (he ⟨8,.data⟩ (by simp) rfl) rfl;have qv128:=eval_of ev128;obtain rfl:v128=.int .i64 0:=Je;refine wp_val (v:=.int .i64 0) (by simp[execOp,ev128,go_sem]) rfl
           ·intro done a' w' hJ hd;obtain⟨f,hf,hv⟩:=hJ.all hd;have h9:=hv 9 _ 23 rfl rfl;have qi:=hv 10 _ 18 rfl rfl;subst hf;simp only[putAll,List.size_toArray,List.length_cons,List.length_nil,Nat.reduceAdd,List.getElem?_toArray,List.getElem?_cons_zero,List.getElem?_cons_succ,Option.bind_some,Act.put,List.setIfInBounds_toArray,List.set_cons_zero,List.set_cons_succ];go_wp2_with fail
            go_meet
            exact⟨h9,qi,hJ.bw⟩
          case rest =>
           obtain⟨rfl,rfl,Hl⟩:=hcut;obtain⟨w8,qj⟩:∃w8,w8=wc:=⟨_,rfl⟩;subst qj;replace hS:=hS.after Hl;replace hG:=hG.after Hl;replace Hw:=Hw.after Hl;replace ji:=ji.after Hl;replace jj:=jj.after Hl;have kl:=bt Ha Hl;clear Ha Hl hW;have qk:=kl.size;have Hf:=b1 w8 (.cells #[.string (E (lastB vb rb))] 81);have Hb:(w8.alloc (.cells #[.string (E (lastB vb rb))] 81)).ownsRow ws.heap.size 81 1 vv 8 (strs (stV vb rb 4)):=own_after Hw Hf;have Hc:=hS.after Hf;obtain⟨HZ,H0,H1,H2,H3,H4⟩:=hS.x3;go_upto_region 30 with (at_builtin;go_loud (refine wpList_append_lies _ rfl (.tmp 134) (.tmp 137) 40 rfl ws.heap.size 81 i2 _ 1 16 Tryz.underlying40 kG.out Js.out kH.out kI.out rfl (by omega) vv 8 (strs (stV vb rb 4)) rfl Hb ⟨w8.heap.size,0,none⟩ 1 1 [.string (E (lastB vb rb))] rfl rfl (Blk.new w8 #[.string (E (lastB vb rb))] 81).cells (by simp[Value.oneCell']) (by omega) (by simp only[maxLen];omega) (by omega) (by rw[World.size_alloc];omega) (w8.heap.size+1) (by simp) ?_);intro gv cv wv hY hr H5 H6;have h6:=Blk.grown Hc hr (own_ne Hb Hc (by decide));obtain⟨jI,jJ,jK,jL,jM,jN⟩:=h6.x3;have JZ:=h6.lt)
           have h6:=Blk.grown Hc hr (own_ne Hb Hc (by decide));have Hm:=hG.after Hf;have jO:=Blk.grown Hm hr (own_ne Hb Hm (by decide));have jP:=(ji.after Hf).other Hb (by decide) (by decide) hr;have H7:TOwn wv ws.heap.size u20 (stT Q 4):=own_grown (jj.after Hf) Hb (by decide) hr;have jQ:Bw ws wv:=Below.grown (ba kl (.cells #[.string (E (lastB vb rb))] 81)) hr (by rw[World.size_alloc];omega) (fun y hy=>(own_lt Hw hy).2);have H8:VOwn wv ws.heap.size (.slice (some ⟨gv,0,none⟩) 9 cv) (stV vb rb 4++[lastB vb rb]):=hY;clear Hb Hc Hm Hw hS hG ji jj kl Hf hY hr H5 H6;clear HZ H0 H1 H2 H3 H4;have HW:ws.heap.size≤gS:=Nat.le_of_lt HY.out;have H9:=jP.set (i:=1) (u:=.slice (some ⟨gv,0,none⟩) 9 cv) h6 (by decide) (by decide);have Hx:TOwn (wv.setCell ⟨gS,1,none⟩ (.slice (some ⟨gv,0,none⟩) 9 cv)) ws.heap.size u20 (stT Q 4):=own_set H7 (own_ne H7 h6 (by decide));have Hs:VOwn (wv.setCell ⟨gS,1,none⟩ (.slice (some ⟨gv,0,none⟩) 9 cv)) ws.heap.size (.slice (some ⟨gv,0,none⟩) 9 cv) (stV vb rb 4++[lastB vb rb]):=own_set H8 (own_ne H8 h6 (by decide));have ja:=jO.other ⟨gS,1,none⟩ (.slice (some ⟨gv,0,none⟩) 9 cv) (by have:=HY.out;show ws.heap.size≠gS;omega);have Hg:=h6.set 1 (.slice (some ⟨gv,0,none⟩) 9 cv);have Hi:=jQ.setCell (p:=⟨gS,1,none⟩) HW (.slice (some ⟨gv,0,none⟩) 9 cv);generalize wv.setCell ⟨gS,1,none⟩ (.slice (some ⟨gv,0,none⟩) 9 cv)=wu at H9 Hx Hs ja Hg Hi ⊢;replace Hg:Blk wu gS 43 [.slice (some ⟨ws.heap.size,0,none⟩) 1 1,.slice (some ⟨gv,0,none⟩) 9 cv,ev]:=Hg;clear jP H7 H8 jO h6 jQ;generalize (.slice (some ⟨gv,0,none⟩) 9 cv:Value)=vv2 at Hs Hg ⊢;have J0:Hid (ws.heap.size≤wu.heap.size):=Hi.size;have km:=Kh Jz.out;obtain⟨NL,jR⟩:∃L,L=stQ g h Q 4++[stL h tgt Q]:=⟨_,rfl⟩;clear Jz;go_cut [] (fun wy=>fSq3 gS ws.heap.size p vv2 ev u20 ws.heap.size (stV vb rb 4++[lastB vb rb]) (stT Q 4) EL NL [true,true,true] wy∧Below ws.heap.size wu wy)
           case first =>
            refine wp_region_invB (vSq3 gS w.heap.size h tgt ev u20 ws.heap.size (stT Q 4++[t1 h 8]) EL NL) [8,11,13] ws.heap.size (fSq3 gS ws.heap.size p vv2 ev u20 ws.heap.size (stV vb rb 4++[lastB vb rb]) (stT Q 4) EL NL) 154 ?_ (by kernel_rfl) rfl (by kernel_rfl) ?_ ?_ (by kernel_rfl)
            ·exact fSq3_st _ _ _ _ _ _ _ _ _ _ _ _ _ _ (Below.drew Br) ⟨fun _=>⟨Hx,H9⟩,ja,Hs,ev,Hg,fun _=>rfl,fun h0=>(by cases h0)⟩
            ·intro hA done a' w' i o hJ ho hl he;have hi:=(Array.getElem?_eq_some_iff.1 ho).1;have hC:=vSq3_st gS w.heap.size h tgt ev u20 ws.heap.size (stT Q 4++[t1 h 8]) EL NL;have hD:=fSq3_st gS ws.heap.size p vv2 ev u20 ws.heap.size (stV vb rb 4++[lastB vb rb]) (stT Q 4) EL NL;have hw:ws.heap.size≤w'.heap.size:=Nat.le_trans J0.out hJ.bw.size;match i,hi,ho,hl,he with
             | 0,_,ho,hl,he =>
              simp at ho;subst ho;refine hJ.op (d:=140) hA hC hD hw rfl rfl rfl (by decide) he ?_;have q19:=hJ.keep 19 (.pointer (some ⟨gS,0,none⟩)) rfl (by kernel_rfl);refine wp_val (v:=.pointer (some ⟨gS,2,none⟩)) (by simp[execOp,q19,go_sem]) rfl
             | 1,_,ho,hl,he =>
              simp at ho;subst ho;refine hJ.op (d:=141) hA hC hD hw rfl rfl rfl (by decide) he ?_;obtain⟨v140,ev140,Jf⟩:=hJ.dn 0 _ 140 rfl (he ⟨0,.data⟩ (by simp) rfl) rfl;have qv140:=eval_of ev140;obtain rfl:v140=.pointer (some ⟨gS,2,none⟩):=Jf;obtain⟨_,_,_,e3,hH,Ht,_⟩:=hJ.ex
              have ko:stB [8,11,13] done≠[true,true,true]:=fun e=>by
               have ql:done.getD 13 false=true:=by
                simp only[stB,List.map_cons,List.map_nil,List.cons.injEq]at e;exact e.2.2.1
               have:=hJ.pr 13 _ rfl ql { on:=1,ground:=Ground.phase } (by simp) rfl;rw[this]at hl;cases hl
              obtain rfl:=Ht ko;have x2:=hH.cell 2;refine wp_val (v:=e3) (by simp[execOp,ev140,go_sem,x2]) rfl
             | 2,_,ho,hl,he =>
              simp at ho;subst ho;refine hJ.op (d:=142) hA hC hD hw rfl rfl rfl (by decide) he ?_;have q23:=hJ.keep 23 (.string (E tgt)) rfl (by kernel_rfl);refine wp_val (v:=.string (E tgt)) (by simp[execOp,q23,go_sem]) rfl
             | 3,_,ho,hl,he =>
              simp at ho;subst ho;refine hJ.op (d:=143) hA hC hD hw rfl rfl rfl (by decide) he ?_;have q20:=hJ.keep 20 (u20) rfl (by kernel_rfl);refine wp_val (v:=u20) (by simp[execOp,q20,go_sem]) rfl
             | 4,_,ho,hl,he =>
              simp at ho;subst ho;refine hJ.op (d:=144) hA hC hD hw rfl rfl rfl (by decide) he ?_;have q6:=hJ.keep 6 (.pointer (some ⟨w.heap.size,0,none⟩)) rfl (by kernel_rfl);refine wp_val (v:=.pointer (some ⟨w.heap.size,3,none⟩)) (by simp[execOp,q6,go_sem]) rfl
             | 5,_,ho,hl,he =>
              simp at ho;subst ho;refine hJ.op (d:=145) hA hC hD hw rfl rfl rfl (by decide) he ?_;obtain⟨v144,ev144,Jg⟩:=hJ.dn 4 _ 144 rfl (he ⟨4,.data⟩ (by simp) rfl) rfl;have qv144:=eval_of ev144;have hM:=hB.after (Hi.trans hJ.bw);have jd:=hM.lt;have x2:=hM.cell 2;have x3:=hM.cell 3;obtain rfl:v144=.pointer (some ⟨w.heap.size,3,none⟩):=Jg;refine wp_val (v:=.string (E h)) (by simp[execOp,ev144,go_sem,x3]) rfl
             | 6,_,ho,hl,he =>
              simp at ho;subst ho;refine hJ.op (d:=146) hA hC hD hw rfl rfl rfl (by decide) he ?_;obtain⟨v145,ev145,Jh⟩:=hJ.dn 5 _ 145 rfl (he ⟨5,.data⟩ (by simp) rfl) rfl;have qv145:=eval_of ev145;obtain rfl:v145=.string (E h):=Jh;refine wp_callX 61 #[.tmp 145,.const (.int .i64 8)] #[22,3] rfl (enters_of Tryz.func61 (by kernel_rfl) rfl) ?_;simp only[List.map_toArray,List.map_cons,List.map_nil,qv145,eval_const];refine (sqterm_c (E h) 8 w').mono ?_;rintro e w'' ⟨rfl,hb⟩;exact⟨_,rfl,hb,rfl⟩
             | 7,_,ho,hl,he =>
              simp at ho;subst ho;refine hJ.op (d:=147) hA hC hD hw rfl rfl rfl (by decide) he ?_;obtain⟨v146,ev146,Ji⟩:=hJ.dn 6 _ 146 rfl (he ⟨6,.data⟩ (by simp) rfl) rfl;have qv146:=eval_of ev146;obtain rfl:v146=.agg #[.string (E h),.int .i64 8,.bool false,.string (E 1)]:=Ji;have hN:=Blk.new w' #[.string (E h),.int .i64 8,.bool false,.string (E 1)] 129;simp[Oper.wp,execOp,ev146,go_sem];exact⟨_,rfl,b1 _ _,fun _=>⟨w'.heap.size,rfl,hN⟩⟩
             | 8,_,ho,hl,he =>
              simp at ho;subst ho;obtain⟨v143,ev143,HD⟩:=hJ.dn 3 _ 143 rfl (he ⟨3,.data⟩ (by simp) rfl) rfl;have qv143:=eval_of ev143;obtain⟨v147,ev147,HE⟩:=hJ.dn 7 _ 147 rfl (he ⟨7,.data⟩ (by simp) rfl) rfl;have qv147:=eval_of ev147
              have hF:stB [8,11,13] done=[false,false,false]:=by
               have k8:done.getD 8 false=false:=hl
               have k11:done.getD 11 false=false:=by
                cases a11:done.getD 11 false with
                | false=>rfl
                | true =>
                 have a10:=hJ.pr 11 _ rfl a11 ⟨10,.data⟩ (by simp) rfl;have a9:=hJ.pr 10 _ rfl a10 ⟨9,.data⟩ (by simp) rfl;have a8:=hJ.pr 9 _ rfl a9 ⟨8,.data⟩ (by simp) rfl;rw[hl]at a8;cases a8
               have k13:done.getD 13 false=false:=by
                cases a13:done.getD 13 false with
                | false=>rfl
                | true =>
                 have a11:=hJ.pr 13 _ rfl a13 ⟨11,.data⟩ (by simp) rfl;rw[k11]at a11;cases a11
               simp only[stB,List.map_cons,List.map_nil,k8,k11,k13]
              have qm:8<done.size:=by rw[hJ.sz];decide
              have hX:stB [8,11,13] (done.setIfInBounds 8 true)=[true,false,false]:=by
               have e:=hF;simp only[stB,List.map_cons,List.map_nil,List.cons.injEq,and_true]at e;simp only[stB,List.map_cons,List.map_nil,getD_set _ _ _ qm,e,if_true,if_false,Nat.reduceEqDiff]
              rw[hF]at HE;obtain⟨b,rfl,hN⟩:=HE rfl;have qn:v143=u20:=HD;clear HD;have hex:=hJ.ex;rw[hF]at hex;obtain⟨ka,Hj,hW,e3,hH,Ht,_⟩:=hex;obtain⟨qo,j0⟩:=ka rfl
              have jm:w'.ownsRow ws.heap.size 129 4 u20 4 ((stT Q 4).flatMap tcs):=by
               have h:=qo;unfold TOwn at h;rwa [stT_len]at h
              refine wpOp_step rfl fun K' hK=>?_
              refine step_append_lies _ rfl (.tmp 143) (.tmp 147) 85 rfl ws.heap.size 129 i3 _ 4 48 Tryz.underlying85 kJ.out kK.out kM.out kO.out rfl (by omega) u20 4 ((stT Q 4).flatMap tcs) (qv143.trans qn) jm ⟨b,0,none⟩ 1 1 [.string (E h),.int .i64 8,.bool false,.string (E 1)] qv147 rfl hN.cells (by simp[Value.oneCell']) (by omega) (by simp only[maxLen];omega) (by omega) hw w'.heap.size rfl fun gE cE w'' hO ht kb hlt=>hK _ _ ?_
              refine hJ.put (d:=148) hA rfl rfl he (Below.grown hJ.bw ht hw (fun g' Hu=>(own_lt jm Hu).2)) ?_ ?_ ?_
              ·rw[hX];exact⟨fun h0=>(by cases h0),Blk.grown Hj ht (own_ne jm Hj (by decide)),own_grown hW jm (by decide) ht,e3,Blk.grown hH ht (own_ne jm hH (by decide)),fun _=>Ht (by decide),fun h0=>(by cases h0)⟩
              ·intro j q hq hj jC u h;rw[hF]at h;rw[hX];exact vSq3_nx (.inl rfl) j u hj h
              ·rw[hX];intro _;refine⟨⟨_,_,_,rfl⟩,?_,j0.terms jm ht kb⟩;unfold TOwn;rw[List.length_append,stT_len,List.flatMap_append];exact hO
             | 9,_,ho,hl,he =>
              simp at ho;subst ho;refine hJ.op (d:=149) hA hC hD hw rfl rfl rfl (by decide) he ?_;obtain⟨v142,ev142,Jj⟩:=hJ.dn 2 _ 142 rfl (he ⟨2,.data⟩ (by simp) rfl) rfl;have qv142:=eval_of ev142;obtain⟨v148,ev148,HF⟩:=hJ.dn 8 _ 148 rfl (he ⟨8,.data⟩ (by simp) rfl) rfl;have qv148:=eval_of ev148;have a8:=he ⟨8,.data⟩ (by simp) rfl
              have hF:stB [8,11,13] done=[true,false,false]:=by
               have k11:done.getD 11 false=false:=by
                cases a11:done.getD 11 false with
                | false=>rfl
                | true =>
                 have a10:=hJ.pr 11 _ rfl a11 ⟨10,.data⟩ (by simp) rfl;have a9:=hJ.pr 10 _ rfl a10 ⟨9,.data⟩ (by simp) rfl;rw[hl]at a9;cases a9
               have k13:done.getD 13 false=false:=by
                cases a13:done.getD 13 false with
                | false=>rfl
                | true =>
                 have a11:=hJ.pr 13 _ rfl a13 ⟨11,.data⟩ (by simp) rfl;rw[k11]at a11;cases a11
               simp only[stB,List.map_cons,List.map_nil,a8,k11,k13]
              rw[hF]at HF;obtain⟨⟨ao9,n9,c9,rfl⟩,hT,hE⟩:=HF rfl;obtain rfl:v142=.string (E tgt):=Jj;refine wp_callX 60 #[.tmp 142,.tmp 148] #[22,85] rfl (enters_of Tryz.func60 (by kernel_rfl) rfl) ?_;simp only[List.map_toArray,List.map_cons,List.map_nil,qv142,qv148];refine (sqequation_c (E tgt) ao9 n9 c9 w').mono ?_;rintro e w'' ⟨rfl,hb⟩;exact⟨_,rfl,hb,by rw[hF];decide,fun _=>⟨_,rfl,⟨_,_,_,rfl⟩,hT.after hb,hE.after hb⟩⟩
             | 10,_,ho,hl,he =>
              simp at ho;subst ho;refine hJ.op (d:=150) hA hC hD hw rfl rfl rfl (by decide) he ?_;obtain⟨v149,ev149,HG⟩:=hJ.dn 9 _ 149 rfl (he ⟨9,.data⟩ (by simp) rfl) rfl;have qv149:=eval_of ev149;have a9:=he ⟨9,.data⟩ (by simp) rfl;have a8:=hJ.pr 9 _ rfl a9 ⟨8,.data⟩ (by simp) rfl
              have hF:stB [8,11,13] done=[true,false,false]:=by
               have k11:done.getD 11 false=false:=by
                cases a11:done.getD 11 false with
                | false=>rfl
                | true =>
                 have a10:=hJ.pr 11 _ rfl a11 ⟨10,.data⟩ (by simp) rfl;rw[hl]at a10;cases a10
               have k13:done.getD 13 false=false:=by
                cases a13:done.getD 13 false with
                | false=>rfl
                | true =>
                 have a11:=hJ.pr 13 _ rfl a13 ⟨11,.data⟩ (by simp) rfl;rw[k11]at a11;cases a11
               simp only[stB,List.map_cons,List.map_nil,a8,k11,k13]
              rw[hF]at HG;obtain⟨t,rfl,⟨ao9,n9,c9,rfl⟩,hT,hE⟩:=HG.2 rfl;have hN:=Blk.new w' #[.int .i64 0,.string (E tgt),.slice ao9 n9 c9] 87;simp[Oper.wp,execOp,ev149,go_sem];exact⟨_,rfl,b1 _ _,by rw[hF];decide,fun _=>⟨_,w'.heap.size,rfl,hN,⟨_,_,_,rfl⟩,hT.after (b1 _ _),hE.after (b1 _ _)⟩⟩
             | 11,_,ho,hl,he =>
              simp at ho;subst ho;obtain⟨v141,ev141,HH⟩:=hJ.dn 1 _ 141 rfl (he ⟨1,.data⟩ (by simp) rfl) rfl;have qv141:=eval_of ev141;obtain⟨v150,ev150,HI⟩:=hJ.dn 10 _ 150 rfl (he ⟨10,.data⟩ (by simp) rfl) rfl;have qv150:=eval_of ev150;have a10:=he ⟨10,.data⟩ (by simp) rfl;have a9:=hJ.pr 10 _ rfl a10 ⟨9,.data⟩ (by simp) rfl;have a8:=hJ.pr 9 _ rfl a9 ⟨8,.data⟩ (by simp) rfl
              have hF:stB [8,11,13] done=[true,false,false]:=by
               have k11:done.getD 11 false=false:=hl
               have k13:done.getD 13 false=false:=by
                cases a13:done.getD 13 false with
                | false=>rfl
                | true =>
                 have a11:=hJ.pr 13 _ rfl a13 ⟨11,.data⟩ (by simp) rfl;rw[hl]at a11;cases a11
               simp only[stB,List.map_cons,List.map_nil,a8,k11,k13]
              have kp:11<done.size:=by rw[hJ.sz];decide
              have hX:stB [8,11,13] (done.setIfInBounds 11 true)=[true,true,false]:=by
               have e:=hF;simp only[stB,List.map_cons,List.map_nil,List.cons.injEq,and_true]at e;simp only[stB,List.map_cons,List.map_nil,getD_set _ _ _ kp,e,if_true,if_false,Nat.reduceEqDiff]
              rw[hF]at HI;obtain⟨t,b,rfl,hN,⟨ao9,n9,c9,rfl⟩,hT,hE⟩:=HI.2 rfl;have J9:v141=ev:=HH;clear HH;have hex:=hJ.ex;rw[hF]at hex;obtain⟨_,Hj,hW,e3,hH,Ht,_⟩:=hex;have j1:=km.out;have j2:EL.length=4:=by have:=congrArg List.length j1;rwa [List.length_map,stQ_len]at this
              have Hk:=hE.row;rw[j2]at Hk;refine wpOp_step rfl fun K' hK=>?_
              refine step_append_lies _ rfl (.tmp 141) (.tmp 150) 41 rfl ws.heap.size 87 i4 _ 3 48 Tryz.underlying41 kP.out kQ.out kR.out kS.out rfl (by omega) ev 4 (EL.flatMap ecp) (qv141.trans J9) Hk ⟨b,0,none⟩ 1 1 [.int .i64 0,.string (E tgt),.slice ao9 n9 c9] qv150 rfl hN.cells (by simp[Value.oneCell']) (by omega) (by simp only[maxLen];omega) (by omega) hw w'.heap.size rfl fun gE cE w'' hO ht kb hlt=>hK _ _ ?_
              refine hJ.put (d:=151) hA rfl rfl he (Below.grown hJ.bw ht hw (fun g' Hu=>(own_lt Hk Hu).2)) ?_ ?_ ?_
              ·rw[hX];exact⟨fun h0=>(by cases h0),Blk.grown Hj ht (own_ne Hk Hj (by decide)),own_grown hW Hk (by decide) ht,e3,Blk.grown hH ht (own_ne Hk hH (by decide)),fun _=>Ht (by decide),fun h0=>(by cases h0)⟩
              ·intro j q hq hj jC u h;rw[hF]at h;rw[hX];exact vSq3_nx (.inr (.inl rfl)) j u hj h
              ·rw[hX];intro _;refine⟨EL++[(stL h tgt Q,.slice ao9 n9 c9)],?_,hE.nilx.snoc ht (by rw[j2]) hO hT (fun g' Hu=>(by cases Hu))⟩;rw[List.map_append,j1,jR];rfl
             | 12,_,ho,hl,he =>
              simp at ho;subst ho;refine hJ.op (d:=152) hA hC hD hw rfl rfl rfl (by decide) he ?_;have q19:=hJ.keep 19 (.pointer (some ⟨gS,0,none⟩)) rfl (by kernel_rfl);refine wp_val (v:=.pointer (some ⟨gS,2,none⟩)) (by simp[execOp,q19,go_sem]) rfl
             | 13,_,ho,hl,he =>
              simp at ho;subst ho;obtain⟨v151,ev151,HJ⟩:=hJ.dn 11 _ 151 rfl (he ⟨11,.data⟩ (by simp) rfl) rfl;have qv151:=eval_of ev151;obtain⟨v152,ev152,Jk⟩:=hJ.dn 12 _ 152 rfl (he ⟨12,.data⟩ (by simp) rfl) rfl;have qv152:=eval_of ev152;have a11:=he ⟨11,.data⟩ (by simp) rfl;have a10:=hJ.pr 11 _ rfl a11 ⟨10,.data⟩ (by simp) rfl;have a9:=hJ.pr 10 _ rfl a10 ⟨9,.data⟩ (by simp) rfl;have a8:=hJ.pr 9 _ rfl a9 ⟨8,.data⟩ (by simp) rfl
              have hF:stB [8,11,13] done=[true,true,false]:=by
               have k13:done.getD 13 false=false:=hl;simp only[stB,List.map_cons,List.map_nil,a8,a11,k13]
              have kq:13<done.size:=by rw[hJ.sz];decide
              have hX:stB [8,11,13] (done.setIfInBounds 13 true)=[true,true,true]:=by
               have e:=hF;simp only[stB,List.map_cons,List.map_nil,List.cons.injEq,and_true]at e;simp only[stB,List.map_cons,List.map_nil,getD_set _ _ _ kq,e,if_true,if_false,Nat.reduceEqDiff]
              rw[hF]at HJ;obtain⟨L,hL,hE⟩:=HJ rfl;obtain⟨ae,n9,ce,rfl⟩:=hE.form;obtain rfl:v152=.pointer (some ⟨gS,2,none⟩):=Jk;have hex:=hJ.ex;rw[hF]at hex;obtain⟨_,Hj,hW,e3,hH,_,_⟩:=hex;have JC:=hH.lt;have f2:=hH.free 2;have c2:=hH.cell 2;refine wpOp_step rfl fun K' hK=>?_
              rw[if_pos (by simp[Region.wanted])];simp[Oper.wp,execOp,ev151,ev152,go_sem,f2,c2,JC];have h9:=hJ.skip (i:=13) (v:=undef) rfl rfl he (hJ.bw.setCell (p:=⟨gS,2,none⟩) HW (.slice ae n9 ce)) ?_ ?_
              ·exact hK a' _ h9
              ·rw[hX];exact⟨fun h0=>(by cases h0),Hj.other ⟨gS,2,none⟩ _ (by have:=HY.out;show ws.heap.size≠gS;omega),own_set hW (own_ne hW hH (by decide)),_,hH.set 2 _,fun h0=>absurd rfl h0,fun _=>⟨L,hL,hE.set hH (by decide) (by decide)⟩⟩
              ·intro j q hq hj jC d u hd hu hv;rw[hF]at hv;rw[hX];exact vSq3_nx (.inr (.inr rfl)) j u hj hv
            ·intro done a' w' hJ hd;obtain⟨f,hf,hv⟩:=hJ.all hd;have hX:stB [8,11,13] done=[true,true,true]:=stB_all hd (by kernel_rfl);have hex:=hJ.ex;rw[hX]at hex;subst hf;simp only[putAll,List.size_toArray,List.length_cons,List.length_nil,Nat.reduceAdd,List.getElem?_toArray,List.getElem?_cons_zero,List.getElem?_cons_succ,Option.bind_some,Act.put,List.setIfInBounds_toArray,List.set_cons_zero,List.set_cons_succ];go_wp2_with fail
             go_meet
             exact⟨hex,hJ.bw⟩
           case rest =>
            obtain⟨⟨_,qp,Kx,e9,Ky,_,Kz⟩,hb9⟩:=hcut;obtain⟨EL9,Jl,Jm⟩:=Kz rfl;obtain⟨wy,kf⟩:∃wy,wy=wc:=⟨_,rfl⟩;subst kf;have Jn:=Hi.trans hb9;clear H9 Hx Hs ja Hg Hi Kz hb9;obtain⟨ae,n9,ce,rfl⟩:=Jm.form;obtain⟨av,cv9,kr⟩:=RAt.form Kx.ss;rw[List.length_map]at kr;obtain⟨n10,Jo⟩:∃n,n=(stV vb rb 4++[lastB vb rb]).length:=⟨_,rfl⟩;rw[←Jo]at kr;subst kr;clear Jo;have qw:gR<ws.heap.size:=hR.lt;have ks:=hR.after Jn;have Hd:=ks.lt;have JC:=Ky.lt;have kt:=bt jG Jn;rw[jR,qe.out]at Jl;obtain⟨KA,KB,KC,KD,KE,KF⟩:=Ky.x3;obtain⟨Jp,KG,Jq,KH,Jr,KI⟩:=ks.x3;go_wp2;refine bodyPost_ret (v:=.tuple #[.agg #[.slice (some ⟨ws.heap.size,0,none⟩) 1 1,.slice av n10 cv9,.slice ae n9 ce],.int .i64 0]) ?_ rfl ?_
            ·simp[results,Tryz.results23,go_sem,Jp,Jq,Jr,Hd]
            ·rw[K0.out];exact⟨_,_,_,rfl,stn_ret ks (by omega) qp Kx Jm Jl _ _ _,((kt.setCell h5.out _).setCell h5.out _).setCell h5.out _⟩
end Go.Proofs.YtdgddpnjkinciaaGreatDoor
