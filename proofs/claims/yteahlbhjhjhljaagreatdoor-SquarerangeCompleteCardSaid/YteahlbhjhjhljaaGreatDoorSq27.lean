/- squarerange.Statement. -/
import Derived.Test.YteahlbhjhjhljaaGreatDoorSd27
import Derived.Test.YteahlbhjhjhljaaGreatDoorLc27
import Derived.Test.YteahlbhjhjhljaaGreatDoorSf27
import Derived.Test.YteahlbhjhjhljaaGreatDoorRq0
set_option linter.unusedVariables false
set_option linter.unusedSimpArgs false
set_option maxRecDepth 100000
set_option maxHeartbeats 16000000
namespace Go.Proofs.YteahlbhjhjhljaaGreatDoor
open Go.RowKit Go.Shelf
def vSq1 (B:Nat) (a b c d cc vl rd:ByteArray) (P:List ByteArray) (ps:Value) (m:Nat):RVB:=fun st i v w=>match i with
 | 0=>v=.agg #[.string a,.string b,.string c,.string d]
 | 1=>v=.string cc
 | 2=>v=.string vl
 | 3=>v=.string rd
 | 4=>st=[false]→∃g,v=.slice (some ⟨g,0,none⟩) 3 3∧B≤g∧Blk w g 22 [.string cc,.string vl,.string rd]
 | 5=>v=ps
 | 6=>SsAt w v (cc :: vl :: rd :: P)
 | 7=>v=.int .i64 (m:Int)
 | 8=>v=.int .i64 (m:Int)
 | _=>True
theorem vSq1_st (B:Nat) (a b c d cc vl rd:ByteArray) (P:List ByteArray) (ps:Value) (m:Nat):∀l j u w w',Below w.heap.size w w'→vSq1 B a b c d cc vl rd P ps m l j u w→vSq1 B a b c d cc vl rd P ps m l j u w':=by
 intro l j u w w' hb h;unfold vSq1 at h ⊢;split at h
 all_goals first
  | exact h
  | (intro h0;obtain ⟨x,h1,h2,h3⟩:=h h0;exact ⟨x,h1,h2,h3.after hb⟩)
  | exact SsAt.after h hb
theorem vSq1_ap {B:Nat} {a b c d cc vl rd:ByteArray} {P:List ByteArray} {ps:Value} {m:Nat} {w w':World}:∀j u,j≠6→vSq1 B a b c d cc vl rd P ps m [false] j u w→vSq1 B a b c d cc vl rd P ps m [true] j u w':=by
 intro j u hj h;unfold vSq1 at h ⊢;split at h
 all_goals first
  | exact absurd rfl hj
  | exact h
  | (intro h0;cases h0;done)
def vSq2 (B1 gS gP g h tk k:Nat) (ev x:Value) (B:Nat) (NL:List NEqn):RVB:=fun st i v w=>match i with
 | 0=>v=.pointer (some ⟨gS,2,none⟩)
 | 1=>v=ev
 | 2=>v=.string (E tk)
 | 3=>v=.pointer (some ⟨gP,2,none⟩)
 | 4=>v=.string (E g)
 | 5=>v=.int .i64 (k:Int)
 | 6=>v=.int .i64 ((2*k:Nat):Int)
 | 7=>v=.agg #[.string (E g),.int .i64 ((2*k:Nat):Int),.bool false,.string (E 1)]
 | 8=>v=.pointer (some ⟨gP,3,none⟩)
 | 9=>v=.string (E h)
 | 10=>v=.int .i64 (k:Int)
 | 11=>v=.int .i64 ((2*k:Nat):Int)
 | 12=>v=.int .i64 ((2*k+1:Nat):Int)
 | 13=>v=.agg #[.string (E h),.int .i64 ((2*k+1:Nat):Int),.bool false,.string (E 1)]
 | 14=>st=[false,false]→∃b,v=.slice (some ⟨b,0,none⟩) 2 2∧B1≤b∧TOwn w 0 (.slice (some ⟨b,0,none⟩) 2 2) [t1 g (2*k),t1 h (2*k+1)]
 | 15=>st=[false,false]→∃b,v=.agg #[.int .i64 0,.string (E tk),.slice (some ⟨b,0,none⟩) 2 2]∧B1≤b∧TOwn w 0 (.slice (some ⟨b,0,none⟩) 2 2) [t1 g (2*k),t1 h (2*k+1)]
 | 16=>st=[false,false]→∃b b2,v=.slice (some ⟨b2,0,none⟩) 1 1∧Blk w b2 120 [.int .i64 0,.string (E tk),.slice (some ⟨b,0,none⟩) 2 2]∧B1≤b∧TOwn w 0 (.slice (some ⟨b,0,none⟩) 2 2) [t1 g (2*k),t1 h (2*k+1)]
 | 17=>st=[true,false]→∃EL:List (NEqn × Value),EL.map (fun e=>e.1)=NL∧EOwn w B x v EL
 | 18=>v=.pointer (some ⟨gS,2,none⟩)
 | _=>True
theorem vSq2_st (B1 gS gP g h tk k:Nat) (ev x:Value) (B:Nat) (NL:List NEqn):∀l j u w w',Below w.heap.size w w'→vSq2 B1 gS gP g h tk k ev x B NL l j u w→vSq2 B1 gS gP g h tk k ev x B NL l j u w':=by
 intro l j u w w' hb h;unfold vSq2 at h ⊢;split at h
 all_goals first
  | exact h
  | (intro h0;obtain ⟨b,h1,h2,h3⟩:=h h0;exact ⟨b,h1,h2,h3.after hb⟩)
  | (intro h0;obtain ⟨b,b2,h1,h2,h3,h4⟩:=h h0;exact ⟨b,b2,h1,h2.after hb,h3,h4.after hb⟩)
  | (intro h0;obtain ⟨EL,h1,h2⟩:=h h0;exact ⟨EL,h1,h2.after hb⟩)
def fSq2 (gS gG p:Nat) (vv ev x:Value) (B:Nat) (VL:List Nat) (TL:List NTrm) (EL:List (NEqn × Value)) (NL:List NEqn) (st:List Bool) (w:World):Prop:=
 (st=[false,false]→EOwn w B x ev EL)∧Blk w gG 24 [.string (E p),.string (E 0)]∧VOwn w B vv VL∧TOwn w B x TL ∧
 ∃e3,Blk w gS 43 [.slice (some ⟨gG,0,none⟩) 1 1,vv,e3]∧(st≠[true,true]→e3=ev)∧(st=[true,true]→∃L:List (NEqn × Value),L.map (fun e=>e.1)=NL∧EOwn w B x e3 L)
theorem fSq2_st (gS gG p:Nat) (vv ev x:Value) (B:Nat) (VL:List Nat) (TL:List NTrm) (EL:List (NEqn × Value)) (NL:List NEqn):∀l w w',Below w.heap.size w w'→fSq2 gS gG p vv ev x B VL TL EL NL l w→fSq2 gS gG p vv ev x B VL TL EL NL l w':=by
 intro l w w' hb h;obtain ⟨h1,h2,h3,h4,e3,h5,h7,h6⟩:=h;exact ⟨fun k=>(h1 k).after hb,h2.after hb,own_after h3 hb,own_after h4 hb,e3,h5.after hb,h7,fun k=>by obtain ⟨L,a,b⟩:=h6 k;exact ⟨L,a,b.after hb⟩⟩
theorem vSq2_ap {B1 gS gP g h tk k:Nat} {ev x:Value} {B:Nat} {NL:List NEqn} {w w':World}:∀j u,j≠17→vSq2 B1 gS gP g h tk k ev x B NL [false,false] j u w→vSq2 B1 gS gP g h tk k ev x B NL [true,false] j u w':=by
 intro j u hj h;unfold vSq2 at h ⊢;split at h
 all_goals first
  | exact absurd rfl hj
  | exact h
  | (intro h0;cases h0;done)
theorem vSq2_sto {B1 gS gP g h tk k:Nat} {ev x:Value} {B:Nat} {NL:List NEqn} {w w':World}:∀j u,vSq2 B1 gS gP g h tk k ev x B NL [true,false] j u w→vSq2 B1 gS gP g h tk k ev x B NL [true,true] j u w':=by
 intro j u h;unfold vSq2 at h ⊢;split at h
 all_goals first
  | exact h
  | (intro h0;cases h0;done)
theorem sqstat_c (a b c d:ByteArray) (lo:Int) (cc:ByteArray) (P:List ByteArray) (vl rd:ByteArray) (v:Value) (w:World)
  (ha:a.size≤8) (hb:b.size≤100) (hc:c.size≤100) (hd:d.size≤100) (hcc:cc.size≤12) (hP:P.length≤8) (hPs:∀x∈P,x.size≤12) (hvl:vl.size≤12) (hrd:rd.size≤12) (hlo:-1099511627776<lo) (hlo2:lo<1099511627776) (hV:SsAt w v P) :
  Calls Tryz.prog 50 #[.agg #[.string a,.string b,.string c,.string d],.int .i64 lo,.string cc,v,.string vl,.string rd] w (StPost w (stR a b c d lo cc P vl rd)):=by
 obtain ⟨i0,hi0,hz00,hz01,hz02⟩:=info_parts info_nat;have HI0:=Lib.hid hi0;have HA0:=Lib.hid hz00;have HB0:=Lib.hid hz01;have HC0:=Lib.hid hz02;obtain ⟨i2,hi2,hz20,hz21,hz22⟩:=info_parts infoV27;obtain ⟨i3,hi3,hz30,hz31,hz32⟩:=info_parts infoT27;obtain ⟨i4,hi4,hz40,hz41,hz42⟩:=info_parts infoE27;have HI2:=Lib.hid hi2;have HA2:=Lib.hid hz20;have HB2:=Lib.hid hz21;have HC2:=Lib.hid hz22;have HI3:=Lib.hid hi3;have HA3:=Lib.hid hz30;have HB3:=Lib.hid hz31;have HC3:=Lib.hid hz32;have HI4:=Lib.hid hi4;have HA4:=Lib.hid hz40;have HB4:=Lib.hid hz41;have HC4:=Lib.hid hz42;clear hi0 hz00 hz01 hz02 hi2 hz20 hz21 hz22 hi3 hz30 hz31 hz32 hi4 hz40 hz41 hz42;obtain ⟨m,hm⟩:∃m,chkV [] (cc :: vl :: rd :: P) a b c d=m:=⟨_,rfl⟩;have HBM:Hid (m≠0→stR a b c d lo cc P vl rd=(m,nilN)):=fun h=>stR_chk hm h
 have HM0:=Lib.hid hm
 have HCK:Hid (∀(x:Value) (w:World),SsAt w x (cc :: vl :: rd :: P)→Calls Tryz.prog 104 #[.agg #[.string a,.string b,.string c,.string d],.slice none 0 0,x] w fun e w'=>e=.returned (.int .i64 m)∧Below w.heap.size w w'):=fun x w hx =>
  sqchk_c [] (cc :: vl :: rd :: P) a b c d _ x m w (by simp) (by simp;omega) (by simp) (by
   intro y hy;simp only [List.mem_cons] at hy;rcases hy with rfl | rfl | rfl | hy
   ·omega
   ·omega
   ·omega
   ·have:=hPs y hy;omega) ha hb hc hd (zs_nil w) hx hm
 have HCC:Hid (cc.size≤12):=hcc;have HVL:Hid (vl.size≤12):=hvl;have HRD:Hid (rd.size≤12):=hrd;have HAS:Hid (a.size≤8):=ha;have HPS:=Lib.hid hPs;have HPL:=Lib.hid hP;have HLO:Hid (lo.natAbs<1099511627776):=by rw [Hid];omega
 obtain ⟨R,hR⟩:∃R,R=stR a b c d lo cc P vl rd:=⟨_,rfl⟩;have HRR:=Lib.hid hR;rw [←hR] at HBM ⊢;clear ha hb hc hd hcc hP hPs hvl hrd hlo hlo2 hm hR;obtain ⟨ao,pc,rfl⟩:=RAt.form hV;obtain ⟨n,hn⟩:∃n,n=P.length:=⟨_,rfl⟩;have HN:=Lib.hid hn;rw [←hn] at hV ⊢;clear hn;have hB:=blk2a w #[.string a,.string b,.string c,.string d] #[.slice none 0 0,.slice none 0 0,.slice none 0 0] 26 43;have hR:=blk2b w #[.string a,.string b,.string c,.string d] #[.slice none 0 0,.slice none 0 0,.slice none 0 0] 26 43;have hBW:=b2 w (.cells #[.string a,.string b,.string c,.string d] 26) (.cells #[.slice none 0 0,.slice none 0 0,.slice none 0 0] 43);go_enter Tryz.func50,Tryz.ntmps50
 go_upto_region 1 with fail
 have hV1:=SsAt.after hV hBW;generalize (w.alloc (.cells #[.string a,.string b,.string c,.string d] 26)).alloc (.cells #[.slice none 0 0,.slice none 0 0,.slice none 0 0] 43)=w1 at hB hR hBW hV1 ⊢;obtain ⟨gR,hgR⟩:∃g,w.heap.size+1=g:=⟨_,rfl⟩;rw [hgR] at hR ⊢;have HGR:Hid (w.heap.size<gR):=by rw [Hid];omega
 replace hR:Blk w1 gR 43 [.slice none 0 0,.slice none 0 0,.slice none 0 0]:=hR;replace hB:Blk w1 w.heap.size 26 [.string a,.string b,.string c,.string d]:=hB;have HWR:Hid (w.heap.size≤gR):=by have:=HGR.out;rw [Hid];omega
 clear hgR;go_cut [14] (fun s14 wx=>s14=.int .i64 (m:Int)∧Below w1.heap.size w1 wx)
 case first =>
  refine wp_region_invB (vSq1 w1.heap.size a b c d cc vl rd P (.slice ao n pc) m) [6] w1.heap.size (fun _ _=>True) 154 trivial (by kernel_rfl) rfl (by kernel_rfl) ?_ ?_ (by kernel_rfl)
  ·intro hsl done a' w' i o hJ ho hun hpre;have hi:=(Array.getElem?_eq_some_iff.1 ho).1;have hst:=vSq1_st w1.heap.size a b c d cc vl rd P (.slice ao n pc) m;have hFt:∀(b:List Bool) (w w':World),Below w.heap.size w w'→(fun (_:List Bool) (_:World)=>True) b w→(fun (_:List Bool) (_:World)=>True) b w':=fun _ _ _ _ _=>trivial
   have hwz:=hJ.bw.size;match i,hi,ho,hun,hpre with
   | 0,_,ho,hun,hpre =>
    simp at ho;subst ho;refine hJ.op (d:=24) hsl hst hFt hwz rfl rfl rfl (by decide) hpre ?_;simp only [List.getElem_toArray,List.getElem_cons_zero,List.getElem_cons_succ] at hpre ⊢;have q6:=hJ.keep 6 (.pointer (some ⟨w.heap.size,0,none⟩)) rfl (by kernel_rfl);have hBx:=hB.after hJ.bw;have hBl:=hBx.lt;have x0:=hBx.cell 0;have x1:=hBx.cell 1;have x2:=hBx.cell 2;have x3:=hBx.cell 3;refine wp_val (v:=.agg #[.string a,.string b,.string c,.string d]) (by simp [execOp,q6,go_sem,x0,x1,x2,x3]) rfl
   | 1,_,ho,hun,hpre =>
    simp at ho;subst ho;refine hJ.op (d:=25) hsl hst hFt hwz rfl rfl rfl (by decide) hpre ?_;simp only [List.getElem_toArray,List.getElem_cons_zero,List.getElem_cons_succ] at hpre ⊢;have q2:=hJ.keep 2 (.string cc) rfl (by kernel_rfl);refine wp_val (v:=.string cc) (by simp [execOp,q2,go_sem]) rfl
   | 2,_,ho,hun,hpre =>
    simp at ho;subst ho;refine hJ.op (d:=26) hsl hst hFt hwz rfl rfl rfl (by decide) hpre ?_;simp only [List.getElem_toArray,List.getElem_cons_zero,List.getElem_cons_succ] at hpre ⊢;have q4:=hJ.keep 4 (.string vl) rfl (by kernel_rfl);refine wp_val (v:=.string vl) (by simp [execOp,q4,go_sem]) rfl
   | 3,_,ho,hun,hpre =>
    simp at ho;subst ho;refine hJ.op (d:=27) hsl hst hFt hwz rfl rfl rfl (by decide) hpre ?_;simp only [List.getElem_toArray,List.getElem_cons_zero,List.getElem_cons_succ] at hpre ⊢;have q5:=hJ.keep 5 (.string rd) rfl (by kernel_rfl);refine wp_val (v:=.string rd) (by simp [execOp,q5,go_sem]) rfl
   | 4,_,ho,hun,hpre =>
    simp at ho;subst ho;refine hJ.op (d:=28) hsl hst hFt hwz rfl rfl rfl (by decide) hpre ?_;simp only [List.getElem_toArray,List.getElem_cons_zero,List.getElem_cons_succ] at hpre ⊢;obtain ⟨v25,ev25,hv25⟩:=hJ.dn 1 _ 25 rfl (hpre { on:=1,ground:=Ground.data } (by simp) rfl) rfl;have qv25:=eval_of ev25;obtain ⟨v26,ev26,hv26⟩:=hJ.dn 2 _ 26 rfl (hpre { on:=2,ground:=Ground.data } (by simp) rfl) rfl;have qv26:=eval_of ev26;obtain ⟨v27,ev27,hv27⟩:=hJ.dn 3 _ 27 rfl (hpre { on:=3,ground:=Ground.data } (by simp) rfl) rfl;have qv27:=eval_of ev27;obtain rfl:v25=.string cc:=hv25;obtain rfl:v26=.string vl:=hv26;obtain rfl:v27=.string rd:=hv27;have hN:=Blk.new w' #[.string cc,.string vl,.string rd] 22;simp [Oper.wp,execOp,ev25,ev26,ev27,go_sem];exact ⟨_,rfl,b1 _ _,fun _=>⟨w'.heap.size,rfl,hwz,hN⟩⟩
   | 5,_,ho,hun,hpre =>
    simp at ho;subst ho;refine hJ.op (d:=29) hsl hst hFt hwz rfl rfl rfl (by decide) hpre ?_;simp only [List.getElem_toArray,List.getElem_cons_zero,List.getElem_cons_succ] at hpre ⊢;have q3:=hJ.keep 3 (.slice ao n pc) rfl (by kernel_rfl);refine wp_val (v:=.slice ao n pc) (by simp [execOp,q3,go_sem]) rfl
   | 6,_,ho,hun,hpre =>
    simp at ho;subst ho;simp only [List.getElem_toArray,List.getElem_cons_zero,List.getElem_cons_succ] at hpre;have hst0:stB [6] done=[false]:=by simp only [stB,List.map_cons,List.map_nil,hun]
    have hi6:6<done.size:=by rw [hJ.sz];decide
    have hst1:stB [6] (done.setIfInBounds 6 true)=[true]:=by simp only [stB,List.map_cons,List.map_nil];rw [getD_set _ _ _ hi6,if_pos rfl]
    obtain ⟨v28,ev28,hv28⟩:=hJ.dn 4 _ 28 rfl (hpre { on:=4,ground:=Ground.data } (by simp) rfl) rfl;have qv28:=eval_of ev28;obtain ⟨v29,ev29,hv29⟩:=hJ.dn 5 _ 29 rfl (hpre { on:=5,ground:=Ground.data } (by simp) rfl) rfl;have qv29:=eval_of ev29;rw [hst0] at hv28 hv29;obtain ⟨g,rfl,hBg,hG⟩:=hv28 rfl;obtain rfl:v29=.slice ao n pc:=hv29;refine wpOp_step rfl fun K' hK=>?_
    simp only [List.getElem_toArray,List.getElem_cons_zero,List.getElem_cons_succ];have hlN:=HN.out;have hlP:=HPL.out;refine step_append_all rfl (.tmp 28) (.tmp 29) 33 rfl qv28 qv29 w1.heap.size 22 i0 _ 16 Tryz.underlying33 HI0.out HA0.out HB0.out HC0.out rfl 3 [.string cc,.string vl,.string rd] (own_blkB hG rfl (by decide) hBg) P (SsAt.after hV1 hJ.bw) (by simp only [maxLen];omega) (by omega) hwz fun u w'' hown hgrow hlt=>hK _ _ ?_
    refine hJ.put (d:=30) hsl rfl rfl hpre (Below.grown hJ.bw hgrow hwz (fun g hg=>(hlt g hg).1)) trivial ?_ ?_
    ·intro j q hq hj hdn u h;rw [hst0] at h;rw [hst1];exact vSq1_ap j u hj h
    ·exact ss_own (base:=w1.heap.size) (cc :: vl :: rd :: P) (by simp;omega) hown
   | 7,_,ho,hun,hpre =>
    simp at ho;subst ho;refine hJ.op (d:=31) hsl hst hFt hwz rfl rfl rfl (by decide) hpre ?_;simp only [List.getElem_toArray,List.getElem_cons_zero,List.getElem_cons_succ] at hpre ⊢;obtain ⟨v24,ev24,hv24⟩:=hJ.dn 0 _ 24 rfl (hpre { on:=0,ground:=Ground.data } (by simp) rfl) rfl;have qv24:=eval_of ev24;obtain ⟨v30,ev30,hv30⟩:=hJ.dn 6 _ 30 rfl (hpre { on:=6,ground:=Ground.data } (by simp) rfl) rfl;have qv30:=eval_of ev30;obtain rfl:v24=.agg #[.string a,.string b,.string c,.string d]:=hv24;refine wp_callX 104 #[.tmp 24,.const (.slice none 0 0),.tmp 30] #[26,44,33] rfl (enters_of Tryz.func104 (by kernel_rfl) rfl) ?_;simp only [List.map_toArray,List.map_cons,List.map_nil,qv24,qv30,eval_const];refine (HCK.out v30 w' hv30).mono ?_;rintro e w'' ⟨rfl,hb⟩;exact ⟨_,rfl,hb,rfl⟩
   | 8,_,ho,hun,hpre =>
    simp at ho;subst ho;refine hJ.op (d:=14) hsl hst hFt hwz rfl rfl rfl (by decide) hpre ?_;simp only [List.getElem_toArray,List.getElem_cons_zero,List.getElem_cons_succ] at hpre ⊢;obtain ⟨v31,ev31,hv31⟩:=hJ.dn 7 _ 31 rfl (hpre { on:=7,ground:=Ground.data } (by simp) rfl) rfl;have qv31:=eval_of ev31;refine wp_val (v:=v31) (by simp [execOp,ev31,go_sem]) ?_;exact hv31
  ·intro done a' w' hJ hd;obtain ⟨f,hf,hv⟩:=hJ.all hd;have h8:=hv 8 _ 14 rfl rfl;subst hf;simp only [putAll,List.size_toArray,List.length_cons,List.length_nil,Nat.reduceAdd,List.getElem?_toArray,List.getElem?_cons_zero,List.getElem?_cons_succ,Option.bind_some,Act.put,List.setIfInBounds_toArray,List.set_cons_zero,List.set_cons_succ];go_wp2_with fail
   go_meet
   exact ⟨h8,hJ.bw⟩
 case rest =>
  obtain ⟨rfl,hbx⟩:=hcut;obtain ⟨wx,hwx⟩:∃wx,wx=wc:=⟨_,rfl⟩;subst hwx;replace hB:=hB.after hbx;replace hR:=hR.after hbx;replace hV1:=SsAt.after hV1 hbx;replace hBW:=bt hBW hbx;clear hbx HCK hV;by_cases hm0:m=0
  case neg =>
   have hmb:((m:Int) != 0)=true:=by rw [bne_iff_ne];omega
   have HX:=Lib.hid (HBM.out hm0);clear hm0 HBM hB;have hRl:=hR.lt;obtain ⟨hRc0,hRf0,hRc1,hRf1,hRc2,hRf2⟩:=hR.x3;go_wp2;refine bodyPost_ret (v:=.tuple #[.agg #[.slice none 0 0,.slice none 0 0,.slice none 0 0],.int .i64 (m:Int)]) ?_ rfl ?_
   ·simp [results,Tryz.results50,go_sem,hRc0,hRc1,hRc2,hRl]
   ·rw [HX.out];exact StPost.err (((hBW.setCell HWR.out _).setCell HWR.out _).setCell HWR.out _)
  case pos =>
   subst hm0;obtain ⟨hky,hvc,hvv,hvr,hvp⟩:=chk_nums HM0.out;obtain ⟨c1,_,rfl⟩:=of_vldB hvc;obtain ⟨vb,_,rfl⟩:=of_vldB hvv;obtain ⟨rb,_,rfl⟩:=of_vldB hvr;obtain ⟨p,g,h,⟨hp,hg,hh⟩,rfl,rfl,rfl,rfl,hpe⟩:=kyV_zero hky HAS.out;have hPN:=all_nums hvp;obtain ⟨Q,hQ⟩:∃Q,P.map numb=Q:=⟨_,rfl⟩;rw [hQ] at hPN;subst hPN;have hz:=stR_zero (lo:=lo) HM0.out;rw [←HRR.out] at hz;have HRZ:=Lib.hid hz;have HCB:=Lib.hid (lt_of_size HCC.out);have HVB:=Lib.hid (lt_of_size HVL.out);have HRB:=Lib.hid (lt_of_size HRD.out);have HKEY:Hid ((p<256^8∧g<256^128∧h<256^128)∧pedE p 0 g h=0):=⟨⟨hp,hg,hh⟩,hpe⟩;have HQB:Hid (∀x∈Q,x<256^12):=fun x hx=>lt_of_size (HPS.out (E x) (List.mem_map.2 ⟨x,hx,rfl⟩))
   have HNQ:Hid (n=Q.length):=by rw [Hid,HN.out,List.length_map]
   have hn8:n≤8:=by have:=HPL.out;rw [HN.out];exact this
   clear hz hky hvc hvv hvr hvp hp hg hh hpe HBM HM0 HPS HAS HCC HVL HRD HN HPL hQ;by_cases hv0:vb=0
   case pos =>
    have hz:=zE hv0;have HX:Hid (R=(11,nilN)):=by rw [Hid,HRZ.out,if_pos (.inl hv0)]
    clear hv0 hB;have hRl:=hR.lt;obtain ⟨hRc0,hRf0,hRc1,hRf1,hRc2,hRf2⟩:=hR.x3;go_wp2;refine bodyPost_ret (v:=.tuple #[.agg #[.slice none 0 0,.slice none 0 0,.slice none 0 0],.int .i64 11]) ?_ rfl ?_
    ·simp [results,Tryz.results50,go_sem,hRc0,hRc1,hRc2,hRl]
    ·rw [HX.out];exact StPost.err (((hBW.setCell HWR.out _).setCell HWR.out _).setCell HWR.out _)
   case neg =>
    have hz:=nzE (Nat.pos_of_ne_zero hv0);by_cases hr0:rb=0
    case pos =>
     have hz2:=zE hr0;have HX:Hid (R=(11,nilN)):=by rw [Hid,HRZ.out,if_pos (.inr hr0)]
     clear hr0 hv0 hB;have hRl:=hR.lt;obtain ⟨hRc0,hRf0,hRc1,hRf1,hRc2,hRf2⟩:=hR.x3;go_wp2;refine bodyPost_ret (v:=.tuple #[.agg #[.slice none 0 0,.slice none 0 0,.slice none 0 0],.int .i64 11]) ?_ rfl ?_
     ·simp [results,Tryz.results50,go_sem,hRc0,hRc1,hRc2,hRl]
     ·rw [HX.out];exact StPost.err (((hBW.setCell HWR.out _).setCell HWR.out _).setCell HWR.out _)
    case neg =>
     have hz2:=nzE (Nat.pos_of_ne_zero hr0);have HR2:Hid (R=if Q.length≠4 then (6,nilN) else if hasAll p c1 Q=false then (13,nilN) else (0,stN p g h lo c1 Q vb rb)):=by rw [Hid,HRZ.out,if_neg (by omega)]
     have HVR0:Hid (vb≠0∧rb≠0):=⟨hv0,hr0⟩;clear hv0 hr0 HRZ;by_cases hn4:n=4
     case neg =>
      have hne:((n:Int) != 4)=true:=by rw [bne_iff_ne];omega
      have HX:Hid (R=(6,nilN)):=by rw [Hid,HR2.out,if_pos (by rw [←HNQ.out];exact hn4)]
      clear hn4 hB;have hRl:=hR.lt;obtain ⟨hRc0,hRf0,hRc1,hRf1,hRc2,hRf2⟩:=hR.x3;go_wp2;refine bodyPost_ret (v:=.tuple #[.agg #[.slice none 0 0,.slice none 0 0,.slice none 0 0],.int .i64 6]) ?_ rfl ?_
      ·simp [results,Tryz.results50,go_sem,hRc0,hRc1,hRc2,hRl]
      ·rw [HX.out];exact StPost.err (((hBW.setCell HWR.out _).setCell HWR.out _).setCell HWR.out _)
     case pos =>
      subst hn4;have HQ4:Hid (Q.length=4):=HNQ.out.symm;have HR3:Hid (R=if hasAll p c1 Q=false then (13,nilN) else (0,stN p g h lo c1 Q vb rb)):=by rw [Hid,HR2.out,if_neg (by rw [HQ4.out];decide)]
      clear HR2 HNQ hn8;obtain ⟨L5,hL5⟩:∃L,L=c1 :: Q:=⟨_,rfl⟩;have HL5:Hid (L5.length=5):=by rw [Hid,hL5,List.length_cons,HQ4.out]
      have HLB:Hid (∀x∈L5,x<256^128):=fun x hx=>by
       rw [hL5] at hx;rcases List.mem_cons.1 hx with rfl | hx
       ·exact Nat.lt_of_lt_of_le HCB.out (Nat.pow_le_pow_right (by decide) (by decide))
       ·exact Nat.lt_of_lt_of_le (HQB.out x hx) (Nat.pow_le_pow_right (by decide) (by decide))
      have HLE:=Lib.hid hL5;have hV0:=hV1;have hN1:=Blk.new wx #[.string (E c1)] 22;have hbN:=b1 wx (.cells #[.string (E c1)] 22);have hlQ:=HQ4.out;go_upto_region 9 with (at_builtin;go_loud (refine wpList_append_all rfl (.tmp 48) (.tmp 49) 33 rfl rfl rfl wx.heap.size 22 i0 _ 16 Tryz.underlying33 HI0.out HA0.out HB0.out HC0.out rfl 1 [.string (E c1)] (own_blkB hN1 rfl (by decide) (Nat.le_refl _)) (Q.map E) (SsAt.after hV1 hbN) (by decide) (by decide) (by simp) ?_);intro ua wa hown hgr hbs;have hform:∃ax cx,ua=.slice ax 5 cx:=(by obtain ⟨ax,cx,h⟩:=RAt.form (ss_own (base:=wx.heap.size) (L5.map E) (by rw [List.length_map,HL5.out]) (by rw [HLE.out];exact hown));rw [List.length_map,HL5.out] at h;exact ⟨ax,cx,h⟩);obtain ⟨ax,cx,rfl⟩:=hform)
      have hU:SsAt wa (.slice ax 5 cx) (L5.map E):=ss_own (base:=wx.heap.size) (L5.map E) (by rw [List.length_map,HL5.out]) (by rw [HLE.out];exact hown);have hba:Below wx.heap.size wx wa:=Below.grown hbN hgr (by simp) (fun y hy=>(hbs y hy).1);clear hown hgr hbs hN1 hbN hL5;replace hB:=hB.after hba;replace hR:=hR.after hba;replace hV0:=SsAt.after hV0 hba;replace hBW:=bt hBW hba;clear hV1 hba;have HHS:Hid (∀(x:Nat) (w:World),x<256^128→Calls Tryz.prog 75 #[.agg #[.string (E p),.string (E 0)],.string (E x)] w fun e w'=>e=.returned (.bool (hasB p 0 x))∧Below w.heap.size w w'):=fun x w hx=>pHas_c p 0 x w HKEY.out.1.1 (by decide) (pedE_grp HKEY.out.2) hx
      go_loopw [52] (fun i wr=>∃k:Nat,k≤5∧i=.int .i64 k∧Hid (∀x∈L5.take k,hasB p 0 x=true)∧Below wa.heap.size wa wr) (fun i _=>5-(intOf i).toNat)
      case atStart=>exact ⟨0,by omega,rfl,(by intro x hx;simp at hx),Below.refl _ _⟩
      case round =>
       obtain ⟨k,hk,rfl,HAL,hbr⟩:=hrel;obtain ⟨wp,hwp⟩:∃wp,wp=wr:=⟨_,rfl⟩;subst hwp;replace hU:=SsAt.after hU hbr;replace hB:=hB.after hbr;replace hR:=hR.after hbr;replace hV0:=SsAt.after hV0 hbr;have hBW2:=bt hBW hbr;by_cases hlt:k<5
       ·have hkz:k<L5.length:=by rw [HL5.out];exact hlt
        obtain ⟨bb,o,rfl,hbl,x1⟩:=SsAt.at_ hU (show k<(L5.map E).length by rw [List.length_map];exact hkz);simp only [List.getElem_map] at x1;have HXM:Hid (L5[k]'hkz∈L5):=List.getElem_mem hkz;have HTK:Hid (L5.take (k+1)=L5.take k++[L5[k]'hkz]):=take_snoc L5 k hkz;generalize (L5[k]'hkz)=xk at x1 HXM HTK;have h0k:(0:Int)≤(k:Int):=by omega
        have h1k:(k:Int)<5:=by omega
        have HXB:=Lib.hid (HLB.out xk HXM.out);obtain ⟨hh,hhd⟩:∃t,hasB p 0 xk=t:=⟨_,rfl⟩;have HHD:=Lib.hid hhd;have HHX:=Lib.hid (HHS.out xk);rw [hhd] at HHX;clear hhd;obtain ⟨hBc0,hBf0,hBc1,hBf1,hBc2,hBf2,hBc3,hBf3⟩:=hB.x4;go_wp2_with fail
        refine (HHX.out _ HXB.out).mono ?_;rintro e wq ⟨rfl,hbq⟩;clear hBc0 hBf0 hBc1 hBf1 hBc2 hBf2 hBc3 hBf3;cases hh
        case false =>
         have HX:Hid (R=(13,nilN)):=by
          rw [Hid,HR3.out,if_pos];have h1:=HXM.out;rw [HLE.out] at h1;unfold hasAll;rcases List.mem_cons.1 h1 with e | e
          ·rw [←e,HHD.out,Bool.false_and]
          ·rw [Bool.and_eq_false_iff];right;rw [List.all_eq_false];exact ⟨xk,e,by rw [HHD.out];decide⟩
         replace hR:=hR.after hbq;have hbw:=bt hBW2 hbq;clear hB hU hV0 hBW2;have hRl:=hR.lt;obtain ⟨hRc0,hRf0,hRc1,hRf1,hRc2,hRf2⟩:=hR.x3;go_wp2;refine bodyPost_ret (v:=.tuple #[.agg #[.slice none 0 0,.slice none 0 0,.slice none 0 0],.int .i64 13]) ?_ rfl ?_
         ·simp [results,Tryz.results50,go_sem,hRc0,hRc1,hRc2,hRl]
         ·rw [HX.out];exact StPost.err (((hbw.setCell HWR.out _).setCell HWR.out _).setCell HWR.out _)
        case true =>
         have HA2:Hid (∀x∈L5.take (k+1),hasB p 0 x=true):=fun x hx=>by
          rw [HTK.out] at hx;rcases List.mem_append.1 hx with hx | hx
          ·exact HAL.out x hx
          ·rw [List.mem_singleton.1 hx];exact HHD.out
         go_wp2;go_roundw
         case rel=>exact ⟨k+1,by omega,by go_num,HA2,bt hbr hbq⟩
         case measure=>simp [intOf];omega
       ·have HRN:Hid (R=(0,stN p g h lo c1 Q vb rb)):=by
         rw [Hid,HR3.out,if_neg];have h1:L5.take k=L5:=List.take_of_length_le (by rw [HL5.out];omega);have h2:=HAL.out;rw [h1,HLE.out] at h2;unfold hasAll;rw [Bool.not_eq_false,Bool.and_eq_true,List.all_eq_true];exact ⟨h2 c1 (List.mem_cons_self ..),fun x hx=>h2 x (List.mem_cons_of_mem _ hx)⟩
        have HHC:Hid (hasB p 0 c1=true):=by
         have h1:L5.take k=L5:=List.take_of_length_le (by rw [HL5.out];omega);have h2:=HAL.out;rw [h1,HLE.out] at h2;exact h2 c1 (List.mem_cons_self ..)
        have HSM:=Lib.hid (fun w=>sqsum_c vb rb w HVB.out HRB.out);go_upto_region 14 with fail
        clear HAL hU HR3 HHS HLB HL5 HLE hlt hk;go_wp2_with fail
        refine (HSM.out _).mono ?_;rintro e ws ⟨rfl,hbs⟩;replace hB:=hB.after hbs;replace hR:=hR.after hbs;replace hV0:=SsAt.after hV0 hbs;have hBW3:=bt hBW2 hbs;clear hbs hbr hBW2 hBW HSM;have hBl:=hB.lt;have hRl:=hR.lt;have hGg:=blk2a ws #[.string (E p),.string (E 0)] #[.slice (some ⟨ws.heap.size,0,none⟩) 1 1,.slice none 0 0,.slice none 0 0] 24 43;have hSs:=blk2b ws #[.string (E p),.string (E 0)] #[.slice (some ⟨ws.heap.size,0,none⟩) 1 1,.slice none 0 0,.slice none 0 0] 24 43;have hbS:=b2 ws (.cells #[.string (E p),.string (E 0)] 24) (.cells #[.slice (some ⟨ws.heap.size,0,none⟩) 1 1,.slice none 0 0,.slice none 0 0] 43);obtain ⟨hBc0,hBf0,hBc1,hBf1,hBc2,hBf2,hBc3,hBf3⟩:=hB.x4;go_upto_region 18 with fail
        clear hBc0 hBf0 hBc1 hBf1 hBc2 hBf2 hBc3 hBf3;clear hBl hRl;generalize (ws.alloc (.cells #[.string (E p),.string (E 0)] 24)).alloc (.cells #[.slice (some ⟨ws.heap.size,0,none⟩) 1 1,.slice none 0 0,.slice none 0 0] 43)=wz at hGg hSs hbS ⊢;obtain ⟨gS,hgS⟩:∃g,ws.heap.size+1=g:=⟨_,rfl⟩;rw [hgS] at hSs ⊢;replace hSs:Blk wz gS 43 [.slice (some ⟨ws.heap.size,0,none⟩) 1 1,.slice none 0 0,.slice none 0 0]:=hSs;replace hGg:Blk wz ws.heap.size 24 [.string (E p),.string (E 0)]:=hGg;have HGS:Hid (ws.heap.size<gS):=by rw [Hid];omega
        have HWS:Hid (w.heap.size≤ws.heap.size):=hBW3.size;clear hgS;go_wp2;go_loopw [20,79] (fun v20 i wr=>∃(k:Nat) (vv ev:Value) (EL:List (NEqn × Value)),k≤4∧i=.int .i64 k∧Hid (EL.map (fun e=>e.1)=stQ g h Q k)∧Blk wr gS 43 [.slice (some ⟨ws.heap.size,0,none⟩) 1 1,vv,ev]∧Blk wr ws.heap.size 24 [.string (E p),.string (E 0)]∧VOwn wr ws.heap.size vv (stV vb rb k)∧EOwn wr ws.heap.size v20 ev EL∧TOwn wr ws.heap.size v20 (stT Q k)∧Below ws.heap.size ws wr) (fun _ i _=>4-(intOf i).toNat)
        case atStart=>exact ⟨0,_,_,[],by omega,rfl,rfl,hSs,hGg,World.ownsRow_nil _ _ _ _,EOwn.nil _ _ _,World.ownsRow_nil _ _ _ _,hbS⟩
        case round =>
         clear hSs hGg hbS;obtain ⟨k,vv,ev,EL,hk,rfl,HEL,hS,hG,hVO,hEO,hTO,hbr⟩:=hrel;obtain ⟨wp2,hwp2⟩:∃wp2,wp2=wr:=⟨_,rfl⟩;subst hwp2;by_cases hlt:k<4
         ·have hU:=SsAt.after hV0 hbr;have hkz:k<Q.length:=by rw [HQ4.out];exact hlt
          obtain ⟨bq,oq,rfl,hbl,x1⟩:=SsAt.at_ hU (show k<(Q.map E).length by rw [List.length_map];exact hkz);simp only [List.getElem_map] at x1;have HTK:Hid (Q.getD k 0=Q[k]'hkz):=by rw [Hid,List.getD_eq_getElem?_getD,List.getElem?_eq_getElem hkz];rfl
          have HTB:Hid (Q[k]'hkz<256^12):=HQB.out _ (List.getElem_mem hkz);generalize (Q[k]'hkz)=tk at x1 HTK HTB;have h0k:(0:Int)≤(k:Int):=by omega
          have h1k:(k:Int)<4:=by omega
          go_upto_region 22 with fail
          have hszp:=hbr.size;have hbV:=b1 wp2 (.cells #[.string (E vb),.string (E rb)] 114);have hVJ:=own_after hVO hbV;have hSJ:=hS.after hbV;have hlV:=stV_len vb rb k;obtain ⟨hSc0,hSf0,hSc1,hSf1,hSc2,hSf2⟩:=hS.x3;go_upto_region 23 with (at_builtin;go_loud (refine wpList_append_lies _ rfl (.tmp 85) (.tmp 90) 40 rfl ws.heap.size 114 i2 _ 1 16 Tryz.underlying40 HI2.out HA2.out HB2.out HC2.out rfl (by omega) vv (stV vb rb k).length (strs (stV vb rb k)) rfl hVJ ⟨wp2.heap.size,0,none⟩ 2 2 [.string (E vb),.string (E rb)] rfl rfl (Blk.new wp2 #[.string (E vb),.string (E rb)] 114).cells (by simp [Value.oneCell']) (by omega) (by simp only [maxLen];omega) (by omega) (by rw [World.size_alloc];omega) (wp2.heap.size+1) (by simp) ?_);intro gv cv wv hownV hgrowV hatV hltV;have hSv:=Blk.grown hSJ hgrowV (own_ne hVJ hSJ (by decide));obtain ⟨hSvc0,hSvf0,hSvc1,hSvf1,hSvc2,hSvf2⟩:=hSv.x3;have hSvl:=hSv.lt)
          have hSv:=Blk.grown hSJ hgrowV (own_ne hVJ hSJ (by decide));have hGJ:=hG.after hbV;have hGv:=Blk.grown hGJ hgrowV (own_ne hVJ hGJ (by decide));have hEv:=(hEO.after hbV).other hVJ (by decide) (by decide) hgrowV;have hTv:TOwn wv ws.heap.size u20 (stT Q k):=own_grown (hTO.after hbV) hVJ (by decide) hgrowV;have hbv:Below ws.heap.size ws wv:=Below.grown (ba hbr (.cells #[.string (E vb),.string (E rb)] 114)) hgrowV (by rw [World.size_alloc];omega) (fun y hy=>(own_lt hVO hy).2)
          have hVv:VOwn wv ws.heap.size (.slice (some ⟨gv,0,none⟩) (2*k+2) cv) (stV vb rb (k+1)):=by
           unfold VOwn;rw [stV_snoc,List.length_append,hlV];have e:strs (stV vb rb k++[vb,rb])=strs (stV vb rb k)++[.string (E vb),.string (E rb)]:=by unfold strs;rw [List.map_append];rfl
           rw [e];rw [hlV] at hownV;exact hownV
          clear hVJ hSJ hGJ hVO hS hG hEO hTO hbr hbV hownV hgrowV hatV hltV;clear hSc0 hSf0 hSc1 hSf1 hSc2 hSf2;have hEu:=hEv.set (i:=1) (u:=.slice (some ⟨gv,0,none⟩) (2*k+2) cv) hSv (by decide) (by decide);have hTu:TOwn (wv.setCell ⟨gS,1,none⟩ (.slice (some ⟨gv,0,none⟩) (2*k+2) cv)) ws.heap.size u20 (stT Q k):=own_set hTv (own_ne hTv hSv (by decide));have hVu:VOwn (wv.setCell ⟨gS,1,none⟩ (.slice (some ⟨gv,0,none⟩) (2*k+2) cv)) ws.heap.size (.slice (some ⟨gv,0,none⟩) (2*k+2) cv) (stV vb rb (k+1)):=own_set hVv (own_ne hVv hSv (by decide));have hGu:=hGv.other ⟨gS,1,none⟩ (.slice (some ⟨gv,0,none⟩) (2*k+2) cv) (by have:=HGS.out;show ws.heap.size≠gS;omega);have hSu:=hSv.set 1 (.slice (some ⟨gv,0,none⟩) (2*k+2) cv);have hbu:=hbv.setCell (p:=⟨gS,1,none⟩) (by have:=HGS.out;show ws.heap.size≤gS;omega) (.slice (some ⟨gv,0,none⟩) (2*k+2) cv);generalize wv.setCell ⟨gS,1,none⟩ (.slice (some ⟨gv,0,none⟩) (2*k+2) cv)=wu at hEu hTu hVu hGu hSu hbu ⊢;replace hSu:Blk wu gS 43 [.slice (some ⟨ws.heap.size,0,none⟩) 1 1,.slice (some ⟨gv,0,none⟩) (2*k+2) cv,ev]:=hSu;clear hEv hTv hVv hGv hSv hbv;generalize (.slice (some ⟨gv,0,none⟩) (2*k+2) cv:Value)=vv2 at hVu hSu ⊢;have HW1:Hid (ws.heap.size≤wu.heap.size):=hbu.size;obtain ⟨NL,hNL⟩:∃L,L=stQ g h Q (k+1):=⟨_,rfl⟩;go_cut [] (fun wy=>fSq2 gS ws.heap.size p vv2 ev u20 ws.heap.size (stV vb rb (k+1)) (stT Q k) EL NL [true,true] wy∧Below ws.heap.size wu wy)
          case first =>
           refine wp_region_invB (vSq2 wu.heap.size gS w.heap.size g h tk k ev u20 ws.heap.size NL) [17,19] ws.heap.size (fSq2 gS ws.heap.size p vv2 ev u20 ws.heap.size (stV vb rb (k+1)) (stT Q k) EL NL) 154 ?_ (by kernel_rfl) rfl (by kernel_rfl) ?_ ?_ (by kernel_rfl)
           ·exact fSq2_st _ _ _ _ _ _ _ _ _ _ _ _ _ _ (Below.drew (Below.refl _ _)) ⟨fun _=>hEu,hGu,hVu,hTu,ev,hSu,fun _=>rfl,fun h0=>by cases h0⟩
           ·intro hsl done a' w' i o hJ ho hun hpre;have hi:=(Array.getElem?_eq_some_iff.1 ho).1;have hst:=vSq2_st wu.heap.size gS w.heap.size g h tk k ev u20 ws.heap.size NL;have hFt:=fSq2_st gS ws.heap.size p vv2 ev u20 ws.heap.size (stV vb rb (k+1)) (stT Q k) EL NL;have hwz:ws.heap.size≤w'.heap.size:=Nat.le_trans HW1.out hJ.bw.size;match i,hi,ho,hun,hpre with
            | 0,_,ho,hun,hpre =>
             simp at ho;subst ho;refine hJ.op (d:=93) hsl hst hFt hwz rfl rfl rfl (by decide) hpre ?_;simp only [List.getElem_toArray,List.getElem_cons_zero,List.getElem_cons_succ] at hpre ⊢;have q19:=hJ.keep 19 (.pointer (some ⟨gS,0,none⟩)) rfl (by kernel_rfl);refine wp_val (v:=.pointer (some ⟨gS,2,none⟩)) (by simp [execOp,q19,go_sem]) rfl
            | 1,_,ho,hun,hpre =>
             simp at ho;subst ho;refine hJ.op (d:=94) hsl hst hFt hwz rfl rfl rfl (by decide) hpre ?_;simp only [List.getElem_toArray,List.getElem_cons_zero,List.getElem_cons_succ] at hpre ⊢;obtain ⟨v93,ev93,hv93⟩:=hJ.dn 0 _ 93 rfl (hpre { on:=0,ground:=Ground.data } (by simp) rfl) rfl;have qv93:=eval_of ev93;obtain rfl:v93=.pointer (some ⟨gS,2,none⟩):=hv93;obtain ⟨_,_,_,_,e3,hS3,he3,_⟩:=hJ.ex
             have hn19:stB [17,19] done≠[true,true]:=fun e=>by
              have h19:done.getD 19 false=true:=by
               simp only [stB,List.map_cons,List.map_nil,List.cons.injEq] at e;exact e.2.1
              have:=hJ.pr 19 _ rfl h19 { on:=1,ground:=Ground.phase } (by simp) rfl;rw [this] at hun;cases hun
             obtain rfl:=he3 hn19;have x2:=hS3.cell 2;refine wp_val (v:=e3) (by simp [execOp,ev93,go_sem,x2]) rfl
            | 2,_,ho,hun,hpre =>
             simp at ho;subst ho;refine hJ.op (d:=95) hsl hst hFt hwz rfl rfl rfl (by decide) hpre ?_;simp only [List.getElem_toArray,List.getElem_cons_zero,List.getElem_cons_succ] at hpre ⊢;have q22:=hJ.keep 22 (.string (E tk)) rfl (by kernel_rfl);refine wp_val (v:=.string (E tk)) (by simp [execOp,q22,go_sem]) rfl
            | 3,_,ho,hun,hpre =>
             simp at ho;subst ho;refine hJ.op (d:=96) hsl hst hFt hwz rfl rfl rfl (by decide) hpre ?_;simp only [List.getElem_toArray,List.getElem_cons_zero,List.getElem_cons_succ] at hpre ⊢;have q6:=hJ.keep 6 (.pointer (some ⟨w.heap.size,0,none⟩)) rfl (by kernel_rfl);refine wp_val (v:=.pointer (some ⟨w.heap.size,2,none⟩)) (by simp [execOp,q6,go_sem]) rfl
            | 4,_,ho,hun,hpre =>
             simp at ho;subst ho;refine hJ.op (d:=97) hsl hst hFt hwz rfl rfl rfl (by decide) hpre ?_;simp only [List.getElem_toArray,List.getElem_cons_zero,List.getElem_cons_succ] at hpre ⊢;obtain ⟨v96,ev96,hv96⟩:=hJ.dn 3 _ 96 rfl (hpre { on:=3,ground:=Ground.data } (by simp) rfl) rfl;have qv96:=eval_of ev96;have hBx:=hB.after (hbu.trans hJ.bw);have hBl:=hBx.lt;have x2:=hBx.cell 2;have x3:=hBx.cell 3;obtain rfl:v96=.pointer (some ⟨w.heap.size,2,none⟩):=hv96;refine wp_val (v:=.string (E g)) (by simp [execOp,ev96,go_sem,x2]) rfl
            | 5,_,ho,hun,hpre =>
             simp at ho;subst ho;refine hJ.op (d:=98) hsl hst hFt hwz rfl rfl rfl (by decide) hpre ?_;simp only [List.getElem_toArray,List.getElem_cons_zero,List.getElem_cons_succ] at hpre ⊢;have q21:=hJ.keep 21 (.int .i64 (k:Int)) rfl (by kernel_rfl);refine wp_val (v:=.int .i64 (k:Int)) (by simp [execOp,q21,go_sem]) rfl
            | 6,_,ho,hun,hpre =>
             simp at ho;subst ho;refine hJ.op (d:=99) hsl hst hFt hwz rfl rfl rfl (by decide) hpre ?_;simp only [List.getElem_toArray,List.getElem_cons_zero,List.getElem_cons_succ] at hpre ⊢;obtain ⟨v98,ev98,hv98⟩:=hJ.dn 5 _ 98 rfl (hpre { on:=5,ground:=Ground.data } (by simp) rfl) rfl;have qv98:=eval_of ev98;obtain rfl:v98=.int .i64 (k:Int):=hv98;refine wp_val (v:=.int .i64 ((2*k:Nat):Int)) (by rcases (show k=0∨k=1∨k=2∨k=3 by omega) with rfl | rfl | rfl | rfl <;> (simp [execOp,ev98,go_sem];try rfl)) rfl
            | 8,_,ho,hun,hpre =>
             simp at ho;subst ho;refine hJ.op (d:=101) hsl hst hFt hwz rfl rfl rfl (by decide) hpre ?_;simp only [List.getElem_toArray,List.getElem_cons_zero,List.getElem_cons_succ] at hpre ⊢;have q6:=hJ.keep 6 (.pointer (some ⟨w.heap.size,0,none⟩)) rfl (by kernel_rfl);refine wp_val (v:=.pointer (some ⟨w.heap.size,3,none⟩)) (by simp [execOp,q6,go_sem]) rfl
            | 9,_,ho,hun,hpre =>
             simp at ho;subst ho;refine hJ.op (d:=102) hsl hst hFt hwz rfl rfl rfl (by decide) hpre ?_;simp only [List.getElem_toArray,List.getElem_cons_zero,List.getElem_cons_succ] at hpre ⊢;obtain ⟨v101,ev101,hv101⟩:=hJ.dn 8 _ 101 rfl (hpre { on:=8,ground:=Ground.data } (by simp) rfl) rfl;have qv101:=eval_of ev101;have hBx:=hB.after (hbu.trans hJ.bw);have hBl:=hBx.lt;have x2:=hBx.cell 2;have x3:=hBx.cell 3;obtain rfl:v101=.pointer (some ⟨w.heap.size,3,none⟩):=hv101;refine wp_val (v:=.string (E h)) (by simp [execOp,ev101,go_sem,x3]) rfl
            | 10,_,ho,hun,hpre =>
             simp at ho;subst ho;refine hJ.op (d:=103) hsl hst hFt hwz rfl rfl rfl (by decide) hpre ?_;simp only [List.getElem_toArray,List.getElem_cons_zero,List.getElem_cons_succ] at hpre ⊢;have q21:=hJ.keep 21 (.int .i64 (k:Int)) rfl (by kernel_rfl);refine wp_val (v:=.int .i64 (k:Int)) (by simp [execOp,q21,go_sem]) rfl
            | 11,_,ho,hun,hpre =>
             simp at ho;subst ho;refine hJ.op (d:=104) hsl hst hFt hwz rfl rfl rfl (by decide) hpre ?_;simp only [List.getElem_toArray,List.getElem_cons_zero,List.getElem_cons_succ] at hpre ⊢;obtain ⟨v103,ev103,hv103⟩:=hJ.dn 10 _ 103 rfl (hpre { on:=10,ground:=Ground.data } (by simp) rfl) rfl;have qv103:=eval_of ev103;obtain rfl:v103=.int .i64 (k:Int):=hv103;refine wp_val (v:=.int .i64 ((2*k:Nat):Int)) (by rcases (show k=0∨k=1∨k=2∨k=3 by omega) with rfl | rfl | rfl | rfl <;> (simp [execOp,ev103,go_sem];try rfl)) rfl
            | 12,_,ho,hun,hpre =>
             simp at ho;subst ho;refine hJ.op (d:=105) hsl hst hFt hwz rfl rfl rfl (by decide) hpre ?_;simp only [List.getElem_toArray,List.getElem_cons_zero,List.getElem_cons_succ] at hpre ⊢;obtain ⟨v104,ev104,hv104⟩:=hJ.dn 11 _ 104 rfl (hpre { on:=11,ground:=Ground.data } (by simp) rfl) rfl;have qv104:=eval_of ev104;obtain rfl:v104=.int .i64 ((2*k:Nat):Int):=hv104;refine wp_val (v:=.int .i64 ((2*k+1:Nat):Int)) (by rcases (show k=0∨k=1∨k=2∨k=3 by omega) with rfl | rfl | rfl | rfl <;> (simp [execOp,ev104,go_sem];try rfl)) rfl
            | 18,_,ho,hun,hpre =>
             simp at ho;subst ho;refine hJ.op (d:=111) hsl hst hFt hwz rfl rfl rfl (by decide) hpre ?_;simp only [List.getElem_toArray,List.getElem_cons_zero,List.getElem_cons_succ] at hpre ⊢;have q19:=hJ.keep 19 (.pointer (some ⟨gS,0,none⟩)) rfl (by kernel_rfl);refine wp_val (v:=.pointer (some ⟨gS,2,none⟩)) (by simp [execOp,q19,go_sem]) rfl
            | 7,_,ho,hun,hpre =>
             simp at ho;subst ho;refine hJ.op (d:=100) hsl hst hFt hwz rfl rfl rfl (by decide) hpre ?_;simp only [List.getElem_toArray,List.getElem_cons_zero,List.getElem_cons_succ] at hpre ⊢;obtain ⟨v97,ev97,hv97⟩:=hJ.dn 4 _ 97 rfl (hpre { on:=4,ground:=Ground.data } (by simp) rfl) rfl;have qv97:=eval_of ev97;obtain ⟨v99,ev99,hv99⟩:=hJ.dn 6 _ 99 rfl (hpre { on:=6,ground:=Ground.data } (by simp) rfl) rfl;have qv99:=eval_of ev99;obtain rfl:v97=.string (E g):=hv97;obtain rfl:v99=.int .i64 ((2*k:Nat):Int):=hv99;refine wp_callX 117 #[.tmp 97,.tmp 99] #[22,3] rfl (enters_of Tryz.func117 (by kernel_rfl) rfl) ?_;simp only [List.map_toArray,List.map_cons,List.map_nil,qv97,qv99];refine (sqterm_c (E g) ((2*k:Nat):Int) w').mono ?_;rintro e w'' ⟨rfl,hb⟩;exact ⟨_,rfl,hb,rfl⟩
            | 13,_,ho,hun,hpre =>
             simp at ho;subst ho;refine hJ.op (d:=106) hsl hst hFt hwz rfl rfl rfl (by decide) hpre ?_;simp only [List.getElem_toArray,List.getElem_cons_zero,List.getElem_cons_succ] at hpre ⊢;obtain ⟨v102,ev102,hv102⟩:=hJ.dn 9 _ 102 rfl (hpre { on:=9,ground:=Ground.data } (by simp) rfl) rfl;have qv102:=eval_of ev102;obtain ⟨v105,ev105,hv105⟩:=hJ.dn 12 _ 105 rfl (hpre { on:=12,ground:=Ground.data } (by simp) rfl) rfl;have qv105:=eval_of ev105;obtain rfl:v102=.string (E h):=hv102;obtain rfl:v105=.int .i64 ((2*k+1:Nat):Int):=hv105;refine wp_callX 117 #[.tmp 102,.tmp 105] #[22,3] rfl (enters_of Tryz.func117 (by kernel_rfl) rfl) ?_;simp only [List.map_toArray,List.map_cons,List.map_nil,qv102,qv105];refine (sqterm_c (E h) ((2*k+1:Nat):Int) w').mono ?_;rintro e w'' ⟨rfl,hb⟩;exact ⟨_,rfl,hb,rfl⟩
            | 14,_,ho,hun,hpre =>
             simp at ho;subst ho;refine hJ.op (d:=107) hsl hst hFt hwz rfl rfl rfl (by decide) hpre ?_;simp only [List.getElem_toArray,List.getElem_cons_zero,List.getElem_cons_succ] at hpre ⊢;obtain ⟨v100,ev100,hv100⟩:=hJ.dn 7 _ 100 rfl (hpre { on:=7,ground:=Ground.data } (by simp) rfl) rfl;have qv100:=eval_of ev100;obtain ⟨v106,ev106,hv106⟩:=hJ.dn 13 _ 106 rfl (hpre { on:=13,ground:=Ground.data } (by simp) rfl) rfl;have qv106:=eval_of ev106;obtain rfl:v100=.agg #[.string (E g),.int .i64 ((2*k:Nat):Int),.bool false,.string (E 1)]:=hv100;obtain rfl:v106=.agg #[.string (E h),.int .i64 ((2*k+1:Nat):Int),.bool false,.string (E 1)]:=hv106;have hN:=Blk.new w' #[.string (E g),.int .i64 ((2*k:Nat):Int),.bool false,.string (E 1),.string (E h),.int .i64 ((2*k+1:Nat):Int),.bool false,.string (E 1)] 181;have hszw:=hJ.bw.size;simp [Oper.wp,execOp,ev100,ev106,go_sem];exact ⟨_,rfl,b1 _ _,fun _=>⟨w'.heap.size,rfl,hszw,TOwn.blk [t1 g (2*k),t1 h (2*k+1)] 2 rfl (by decide) hN⟩⟩
            | 15,_,ho,hun,hpre =>
             simp at ho;subst ho;refine hJ.op (d:=108) hsl hst hFt hwz rfl rfl rfl (by decide) hpre ?_;simp only [List.getElem_toArray,List.getElem_cons_zero,List.getElem_cons_succ] at hpre ⊢;obtain ⟨v95,ev95,hv95⟩:=hJ.dn 2 _ 95 rfl (hpre { on:=2,ground:=Ground.data } (by simp) rfl) rfl;have qv95:=eval_of ev95;obtain ⟨v107,ev107,hv107⟩:=hJ.dn 14 _ 107 rfl (hpre { on:=14,ground:=Ground.data } (by simp) rfl) rfl;have qv107:=eval_of ev107
             have hs0:stB [17,19] done=[false,false]:=by
              have k1:∀a17:done.getD 17 false=true,False:=fun a17=>by
                have a16:=hJ.pr 17 _ rfl a17 { on:=16,ground:=Ground.data } (by simp) rfl;have a15:=hJ.pr 16 _ rfl a16 { on:=15,ground:=Ground.data } (by simp) rfl;rw [a15] at hun;cases hun
              have k2:∀a19:done.getD 19 false=true,False:=fun a19=>k1 (hJ.pr 19 _ rfl a19 { on:=17,ground:=Ground.data } (by simp) rfl)
              have k3:done.getD 17 false=false:=by cases h:done.getD 17 false;rfl;exact (k1 h).elim
              have k4:done.getD 19 false=false:=by cases h:done.getD 19 false;rfl;exact (k2 h).elim
              simp only [stB,List.map_cons,List.map_nil,k3,k4]
             rw [hs0] at hv107;obtain ⟨b,rfl,hb1,hT⟩:=hv107 rfl;obtain rfl:v95=.string (E tk):=hv95;refine wp_callX 116 #[.tmp 95,.tmp 107] #[22,118] rfl (enters_of Tryz.func116 (by kernel_rfl) rfl) ?_;simp only [List.map_toArray,List.map_cons,List.map_nil,qv95,qv107];refine (sqequation_c (E tk) _ 2 2 w').mono ?_;rintro e w'' ⟨rfl,hb⟩;exact ⟨_,rfl,hb,fun _=>⟨b,rfl,hb1,hT.after hb⟩⟩
            | 16,_,ho,hun,hpre =>
             simp at ho;subst ho;refine hJ.op (d:=109) hsl hst hFt hwz rfl rfl rfl (by decide) hpre ?_;simp only [List.getElem_toArray,List.getElem_cons_zero,List.getElem_cons_succ] at hpre ⊢;obtain ⟨v108,ev108,hv108⟩:=hJ.dn 15 _ 108 rfl (hpre { on:=15,ground:=Ground.data } (by simp) rfl) rfl;have qv108:=eval_of ev108
             have hs0:stB [17,19] done=[false,false]:=by
              have k1:∀a17:done.getD 17 false=true,False:=fun a17=>by
                have a16:=hJ.pr 17 _ rfl a17 { on:=16,ground:=Ground.data } (by simp) rfl;rw [a16] at hun;cases hun
              have k2:∀a19:done.getD 19 false=true,False:=fun a19=>k1 (hJ.pr 19 _ rfl a19 { on:=17,ground:=Ground.data } (by simp) rfl)
              have k3:done.getD 17 false=false:=by cases h:done.getD 17 false;rfl;exact (k1 h).elim
              have k4:done.getD 19 false=false:=by cases h:done.getD 19 false;rfl;exact (k2 h).elim
              simp only [stB,List.map_cons,List.map_nil,k3,k4]
             rw [hs0] at hv108;obtain ⟨b,rfl,hb1,hT⟩:=hv108 rfl;have hN:=Blk.new w' #[.int .i64 0,.string (E tk),.slice (some ⟨b,0,none⟩) 2 2] 120;simp [Oper.wp,execOp,ev108,go_sem];exact ⟨_,rfl,b1 _ _,fun _=>⟨b,w'.heap.size,rfl,hN,hb1,hT.after (b1 _ _)⟩⟩
            | 17,_,ho,hun,hpre =>
             simp at ho;subst ho;simp only [List.getElem_toArray,List.getElem_cons_zero,List.getElem_cons_succ] at hpre
             have hs0:stB [17,19] done=[false,false]:=by
              have k1:∀a17:done.getD 17 false=true,False:=fun a17=>by
                rw [a17] at hun;cases hun
              have k2:∀a19:done.getD 19 false=true,False:=fun a19=>k1 (hJ.pr 19 _ rfl a19 { on:=17,ground:=Ground.data } (by simp) rfl)
              have k3:done.getD 17 false=false:=by cases h:done.getD 17 false;rfl;exact (k1 h).elim
              have k4:done.getD 19 false=false:=by cases h:done.getD 19 false;rfl;exact (k2 h).elim
              simp only [stB,List.map_cons,List.map_nil,k3,k4]
             have hi17:17<done.size:=by rw [hJ.sz];decide
             have hs1:stB [17,19] (done.setIfInBounds 17 true)=[true,false]:=by
              have e:=hs0;simp only [stB,List.map_cons,List.map_nil,List.cons.injEq,and_true] at e;simp only [stB,List.map_cons,List.map_nil];rw [getD_set _ _ _ hi17,getD_set _ _ _ hi17,if_pos rfl,if_neg (by decide),e.2]
             obtain ⟨v94,ev94,hv94⟩:=hJ.dn 1 _ 94 rfl (hpre { on:=1,ground:=Ground.data } (by simp) rfl) rfl;have qv94:=eval_of ev94;obtain ⟨v109,ev109,hv109⟩:=hJ.dn 16 _ 109 rfl (hpre { on:=16,ground:=Ground.data } (by simp) rfl) rfl;have qv109:=eval_of ev109;rw [hs0] at hv94 hv109;obtain ⟨b,b2,rfl,hN,hb1,hT⟩:=hv109 rfl;have hev:v94=ev:=hv94;clear hv94;have hex:=hJ.ex;rw [hs0] at hex;obtain ⟨hE0,hG0,hV0,hT0,e3,hS3,he3,_⟩:=hex;have hE1:=hE0 rfl;have hEQ:=HEL.out;have hEl:EL.length=k:=by have:=congrArg List.length hEQ;rwa [List.length_map,stQ_len] at this
             refine wpOp_step rfl fun K' hK=>?_
             simp only [List.getElem_toArray,List.getElem_cons_zero,List.getElem_cons_succ];refine step_append_lies _ rfl (.tmp 94) (.tmp 109) 41 rfl ws.heap.size 120 i4 _ 3 48 Tryz.underlying41 HI4.out HA4.out HB4.out HC4.out rfl (by omega) ev EL.length (EL.flatMap ecp) (qv94.trans hev) hE1.row ⟨b2,0,none⟩ 1 1 [.int .i64 0,.string (E tk),.slice (some ⟨b,0,none⟩) 2 2] qv109 rfl hN.cells (by simp [Value.oneCell']) (by omega) (by rw [hEl];simp only [maxLen];omega) (by rw [hEl];omega) hwz w'.heap.size rfl fun gE cE w'' hown hgrow hat hlt=>hK _ _ ?_
             have hro:=hE1.row
             have hel:ecp (eqK g h Q k,.slice (some ⟨b,0,none⟩) 2 2)=[.int .i64 0,.string (E tk),.slice (some ⟨b,0,none⟩) 2 2]:=by
              have e:=HTK.out;unfold ecp eqK;rw [←e];rfl
             have hfar:∀g',u20.ownBlock=some g'→(Value.slice (some ⟨b,0,none⟩) 2 2).ownBlock≠some g':=fun g' hg' hb'=>by
              have h1:=(own_lt hTu hg').1;have h2:b=g':=by simpa [Value.ownBlock] using hb'
              omega
             refine hJ.put (d:=110) hsl rfl rfl hpre (Below.grown hJ.bw hgrow hwz (fun g' hg'=>(own_lt hro hg').2)) ?_ ?_ ?_
             ·rw [hs1];exact ⟨fun h0=>(by cases h0),Blk.grown hG0 hgrow (own_ne hro hG0 (by decide)),own_grown hV0 hro (by decide) hgrow,own_grown hT0 hro (by decide) hgrow,e3,Blk.grown hS3 hgrow (own_ne hro hS3 (by decide)),fun _=>he3 (by decide),fun h0=>(by cases h0)⟩
             ·intro j q hq hj hdn u h;rw [hs0] at h;rw [hs1];exact vSq2_ap j u hj h
             ·rw [hs1];intro _;refine ⟨EL++[(eqK g h Q k,.slice (some ⟨b,0,none⟩) 2 2)],?_,hE1.snoc hgrow rfl (by rw [hel];exact hown) hT hfar⟩;rw [List.map_append,hEQ,hNL,stQ_snoc];rfl
            | 19,_,ho,hun,hpre =>
             simp at ho;subst ho;simp only [List.getElem_toArray,List.getElem_cons_zero,List.getElem_cons_succ] at hpre;obtain ⟨v110,ev110,hv110⟩:=hJ.dn 17 _ 110 rfl (hpre { on:=17,ground:=Ground.data } (by simp) rfl) rfl;have qv110:=eval_of ev110;obtain ⟨v111,ev111,hv111⟩:=hJ.dn 18 _ 111 rfl (hpre { on:=18,ground:=Ground.data } (by simp) rfl) rfl;have qv111:=eval_of ev111;have h17:=hpre { on:=17,ground:=Ground.data } (by simp) rfl;have hi19:19<done.size:=by rw [hJ.sz];decide
             have hs0:stB [17,19] done=[true,false]:=by simp only [stB,List.map_cons,List.map_nil,h17,hun]
             have hs1:stB [17,19] (done.setIfInBounds 19 true)=[true,true]:=by
              simp only [stB,List.map_cons,List.map_nil];rw [getD_set _ _ _ hi19,getD_set _ _ _ hi19,if_pos rfl,if_neg (by decide),h17]
             rw [hs0] at hv110;obtain ⟨L,hL,hE⟩:=hv110 rfl;obtain ⟨ae,ce,hve⟩:=RAt.form hE.es;obtain ⟨n9,hn9⟩:∃n,n=(L.map fun e=>e.1.q).length:=⟨_,rfl⟩;rw [←hn9] at hve;clear hn9;subst hve;obtain rfl:v111=.pointer (some ⟨gS,2,none⟩):=hv111;have hex:=hJ.ex;rw [hs0] at hex;obtain ⟨_,hG0,hV0,hT0,e3,hS3,_,_⟩:=hex;have hSl:=hS3.lt;have f2:=hS3.free 2;have c2:=hS3.cell 2;have hgS:ws.heap.size≤gS:=Nat.le_of_lt HGS.out;refine wpOp_step rfl fun K' hK=>?_
             simp only [List.getElem_toArray,List.getElem_cons_zero,List.getElem_cons_succ];rw [if_pos (by simp [Region.wanted])];simp [Oper.wp,execOp,ev110,ev111,go_sem,f2,c2,hSl];have h9:=hJ.skip (i:=19) (v:=undef) rfl rfl hpre (hJ.bw.setCell (p:=⟨gS,2,none⟩) hgS (.slice ae n9 ce)) ?_ ?_
             ·exact hK a' _ h9
             ·rw [hs1];exact ⟨fun h0=>(by cases h0),hG0.other ⟨gS,2,none⟩ _ (by have:=HGS.out;show ws.heap.size≠gS;omega),own_set hV0 (own_ne hV0 hS3 (by decide)),own_set hT0 (own_ne hT0 hS3 (by decide)),_,hS3.set 2 _,fun h0=>absurd rfl h0,fun _=>⟨L,hL,hE.set hS3 (by decide) (by decide)⟩⟩
             ·intro j q hq hj hdn d u hd hu hv;rw [hs0] at hv;rw [hs1];exact vSq2_sto j u hv
           ·intro done a' w' hJ hd;obtain ⟨f,hf,hv⟩:=hJ.all hd;have hs1:stB [17,19] done=[true,true]:=stB_all hd (by kernel_rfl);have hex:=hJ.ex;rw [hs1] at hex;subst hf;simp only [putAll,List.size_toArray,List.length_cons,List.length_nil,Nat.reduceAdd,List.getElem?_toArray,List.getElem?_cons_zero,List.getElem?_cons_succ,Option.bind_some,Act.put,List.setIfInBounds_toArray,List.set_cons_zero,List.set_cons_succ];go_wp2_with fail
            go_meet
            exact ⟨hex,hJ.bw⟩
          case rest =>
           obtain ⟨⟨_,hG4,hV4,hT4,e3,hS4,_,hE4⟩,hb4⟩:=hcut;obtain ⟨EL4,hEL4,hEO4⟩:=hE4 rfl;obtain ⟨wy,hwy⟩:∃wy,wy=wc:=⟨_,rfl⟩;subst hwy;have hb5:=hbu.trans hb4;clear hEu hTu hVu hGu hSu hbu hE4 hb4 HEL;go_wp2_with fail
           refine (sqterm_c (E tk) (2*(k:Int)) _).mono ?_;rintro e wt ⟨rfl,hbt⟩;unfold term1;have hb6:=bt hb5 hbt;have hsz6:=hb6.size;have hbB:=b1 wt (.cells #[.string (E tk),.int .i64 (2*(k:Int)),.bool false,.string (E 1)] 181)
           have hTJ:(wt.alloc (.cells #[.string (E tk),.int .i64 (2*(k:Int)),.bool false,.string (E 1)] 181)).ownsRow ws.heap.size 181 4 u20 k ((stT Q k).flatMap tcs):=by
            have h:=(hT4.after hbt).after hbB;unfold TOwn at h;rwa [stT_len] at h
           go_upto_region 25 with (at_builtin;go_loud (refine wpList_append_lies _ rfl (.tmp 112) (.tmp 117) 118 rfl ws.heap.size 181 i3 _ 4 48 Tryz.underlying118 HI3.out HA3.out HB3.out HC3.out rfl (by omega) u20 k ((stT Q k).flatMap tcs) rfl hTJ ⟨wt.heap.size,0,none⟩ 1 1 [.string (E tk),.int .i64 (2*(k:Int)),.bool false,.string (E 1)] rfl rfl (Blk.new wt #[.string (E tk),.int .i64 (2*(k:Int)),.bool false,.string (E 1)] 181).cells (by simp [Value.oneCell']) (by omega) (by simp only [maxLen];omega) (by omega) (by rw [World.size_alloc];omega) (wt.heap.size+1) (by simp) ?_);intro gT cT wT hownT hgrowT hatT hltT)
           have hSJ:=(hS4.after hbt).after hbB;have hGJ:=(hG4.after hbt).after hbB;have hS7:=Blk.grown hSJ hgrowT (own_ne hTJ hSJ (by decide));have hG7:=Blk.grown hGJ hgrowT (own_ne hTJ hGJ (by decide));have hV7:VOwn wT ws.heap.size vv2 (stV vb rb (k+1)):=own_grown (own_after (own_after hV4 hbt) hbB) hTJ (by decide) hgrowT;have hE7:=((hEO4.after hbt).after hbB).terms (m:=k+1) (c:=cT) hTJ hgrowT (by rw [World.size_alloc];exact hatT)
           have hT7:TOwn wT ws.heap.size (.slice (some ⟨gT,0,none⟩) (k+1) cT) (stT Q (k+1)):=by
            unfold TOwn;rw [stT_snoc,List.length_append,stT_len,List.flatMap_append,HTK.out];exact hownT
           have hb7:Below ws.heap.size ws wT:=Below.grown (ba hb6 (.cells #[.string (E tk),.int .i64 (2*(k:Int)),.bool false,.string (E 1)] 181)) hgrowT (by rw [World.size_alloc];omega) (fun y hy=>(own_lt hT4 hy).2);have HE7:Hid (EL4.map (fun e=>e.1)=stQ g h Q (k+1)):=by rw [Hid,hEL4,hNL]
           clear hownT hgrowT hatT hltT hTJ hSJ hGJ hbB hb6 hsz6 hbt hb5 hG4 hV4 hT4 hS4 hEO4;go_wp2;go_roundw
           case rel=>exact ⟨k+1,vv2,e3,EL4,by omega,by go_num,HE7,hS7,hG7,hV7,hE7,hT7,hb7⟩
           case measure=>simp [intOf];omega
         ·obtain rfl:k=4:=by omega
          go_upto_region 26 with fail
          clear hlt hk;obtain ⟨tgt,htg⟩:∃t,t=shiftN p c1 g (-lo):=⟨_,rfl⟩;have HTG:=Lib.hid htg;have HOF:Hid (∀w:World,Calls Tryz.prog 106 #[.int .i64 lo] w fun e w'=>e=.returned (.agg #[.bool (sg (lo)),.string (E (lo).natAbs)])∧Below w.heap.size w w'):=fun w=>iof_c lo w (by have:=HLO.out;omega) (by have:=HLO.out;omega)
          have HNG:Hid (∀w:World,Calls Tryz.prog 102 #[.agg #[.bool (sg (lo)),.string (E (lo).natAbs)]] w fun e w'=>e=.returned (.agg #[.bool (sg (-lo)),.string (E (-lo).natAbs)])∧Below w.heap.size w w'):=fun w=>ineg_c lo w (lo128 HLO.out)
          have HSH:Hid (∀w:World,Calls Tryz.prog 118 #[.agg #[.string (E p),.string (E 0),.string (E g),.string (E h)],.string (E c1),.agg #[.bool (sg (-lo)),.string (E (-lo).natAbs)]] w fun e w'=>e=.returned (.tuple #[.string (E tgt),.int .i64 0])∧Below w.heap.size w w'):=fun w=>by
           rw [htg];exact shift_c p 0 g h c1 (-lo) w HKEY.out.1.1 (by decide) HKEY.out.1.2.1 HKEY.out.1.2.2 (Nat.lt_of_lt_of_le HCB.out (Nat.pow_le_pow_right (by decide) (by decide))) (by rw [Int.natAbs_neg];exact lo128 HLO.out) HKEY.out.2 HHC.out (ped_two HKEY.out.2).2.2.2.1
          clear htg;go_cut [18,23] (fun s18 s23 wy=>s23=.string (E tgt)∧s18=.int .i64 0∧Below wp2.heap.size wp2 wy)
          case first =>
           refine wp_region_invB (vSq6 (.agg #[.string (E p),.string (E 0),.string (E g),.string (E h)]) c1 tgt lo) [] wp2.heap.size (fun _ _=>True) 154 trivial (by kernel_rfl) rfl (by kernel_rfl) ?_ ?_ (by kernel_rfl)
           ·intro hsl done a' w' i o hJ ho hun hpre;have hi:=(Array.getElem?_eq_some_iff.1 ho).1;have hst:=vSq6_st (.agg #[.string (E p),.string (E 0),.string (E g),.string (E h)]) c1 tgt lo;have hFt:∀(b:List Bool) (w w':World),Below w.heap.size w w'→(fun (_:List Bool) (_:World)=>True) b w→(fun (_:List Bool) (_:World)=>True) b w':=fun _ _ _ _ _=>trivial
            have hwz:=hJ.bw.size;match i,hi,ho,hun,hpre with
            | 0,_,ho,hun,hpre =>
             simp at ho;subst ho;refine hJ.op (d:=121) hsl hst hFt hwz rfl rfl rfl (by decide) hpre ?_;simp only [List.getElem_toArray,List.getElem_cons_zero,List.getElem_cons_succ] at hpre ⊢;have q6:=hJ.keep 6 (.pointer (some ⟨w.heap.size,0,none⟩)) rfl (by kernel_rfl);have hBx:=hB.after (bt hbr hJ.bw);have hBl:=hBx.lt;have x0:=hBx.cell 0;have x1:=hBx.cell 1;have x2:=hBx.cell 2;have x3:=hBx.cell 3;refine wp_val (v:=.agg #[.string (E p),.string (E 0),.string (E g),.string (E h)]) (by simp [execOp,q6,go_sem,x0,x1,x2,x3]) rfl
            | 1,_,ho,hun,hpre =>
             simp at ho;subst ho;refine hJ.op (d:=122) hsl hst hFt hwz rfl rfl rfl (by decide) hpre ?_;simp only [List.getElem_toArray,List.getElem_cons_zero,List.getElem_cons_succ] at hpre ⊢;have q2:=hJ.keep 2 (.string (E c1)) rfl (by kernel_rfl);refine wp_val (v:=.string (E c1)) (by simp [execOp,q2,go_sem]) rfl
            | 2,_,ho,hun,hpre =>
             simp at ho;subst ho;refine hJ.op (d:=123) hsl hst hFt hwz rfl rfl rfl (by decide) hpre ?_;simp only [List.getElem_toArray,List.getElem_cons_zero,List.getElem_cons_succ] at hpre ⊢;have q1:=hJ.keep 1 (.int .i64 lo) rfl (by kernel_rfl);refine wp_val (v:=.int .i64 lo) (by simp [execOp,q1,go_sem]) rfl
            | 3,_,ho,hun,hpre =>
             simp at ho;subst ho;refine hJ.op (d:=124) hsl hst hFt hwz rfl rfl rfl (by decide) hpre ?_;simp only [List.getElem_toArray,List.getElem_cons_zero,List.getElem_cons_succ] at hpre ⊢;obtain ⟨v123,ev123,hv123⟩:=hJ.dn 2 _ 123 rfl (hpre { on:=2,ground:=Ground.data } (by simp) rfl) rfl;have qv123:=eval_of ev123;obtain rfl:v123=.int .i64 lo:=hv123;refine wp_callX 106 #[.tmp 123] #[2] rfl (enters_of Tryz.func106 (by kernel_rfl) rfl) ?_;simp only [List.map_toArray,List.map_cons,List.map_nil,qv123];refine (HOF.out w').mono ?_;rintro e w'' ⟨rfl,hb⟩;exact ⟨_,rfl,hb,rfl⟩
            | 4,_,ho,hun,hpre =>
             simp at ho;subst ho;refine hJ.op (d:=125) hsl hst hFt hwz rfl rfl rfl (by decide) hpre ?_;simp only [List.getElem_toArray,List.getElem_cons_zero,List.getElem_cons_succ] at hpre ⊢;obtain ⟨v124,ev124,hv124⟩:=hJ.dn 3 _ 124 rfl (hpre { on:=3,ground:=Ground.data } (by simp) rfl) rfl;have qv124:=eval_of ev124;obtain rfl:v124=.agg #[.bool (sg (lo)),.string (E (lo).natAbs)]:=hv124;refine wp_callX 102 #[.tmp 124] #[28] rfl (enters_of Tryz.func102 (by kernel_rfl) rfl) ?_;simp only [List.map_toArray,List.map_cons,List.map_nil,qv124];refine (HNG.out w').mono ?_;rintro e w'' ⟨rfl,hb⟩;exact ⟨_,rfl,hb,rfl⟩
            | 5,_,ho,hun,hpre =>
             simp at ho;subst ho;refine hJ.op (d:=126) hsl hst hFt hwz rfl rfl rfl (by decide) hpre ?_;simp only [List.getElem_toArray,List.getElem_cons_zero,List.getElem_cons_succ] at hpre ⊢;obtain ⟨v121,ev121,hv121⟩:=hJ.dn 0 _ 121 rfl (hpre { on:=0,ground:=Ground.data } (by simp) rfl) rfl;have qv121:=eval_of ev121;obtain rfl:v121=.agg #[.string (E p),.string (E 0),.string (E g),.string (E h)]:=hv121;obtain ⟨v122,ev122,hv122⟩:=hJ.dn 1 _ 122 rfl (hpre { on:=1,ground:=Ground.data } (by simp) rfl) rfl;have qv122:=eval_of ev122;obtain rfl:v122=.string (E c1):=hv122;obtain ⟨v125,ev125,hv125⟩:=hJ.dn 4 _ 125 rfl (hpre { on:=4,ground:=Ground.data } (by simp) rfl) rfl;have qv125:=eval_of ev125;obtain rfl:v125=.agg #[.bool (sg (-lo)),.string (E (-lo).natAbs)]:=hv125;refine wp_callX 118 #[.tmp 121,.tmp 122,.tmp 125] #[26,22,28] rfl (enters_of Tryz.func118 (by kernel_rfl) rfl) ?_;simp only [List.map_toArray,List.map_cons,List.map_nil,qv121,qv122,qv125];refine (HSH.out w').mono ?_;rintro e w'' ⟨rfl,hb⟩;exact ⟨_,rfl,hb,rfl⟩
            | 6,_,ho,hun,hpre =>
             simp at ho;subst ho;refine hJ.op (d:=120) hsl hst hFt hwz rfl rfl rfl (by decide) hpre ?_;simp only [List.getElem_toArray,List.getElem_cons_zero,List.getElem_cons_succ] at hpre ⊢;obtain ⟨v126,ev126,hv126⟩:=hJ.dn 5 _ 126 rfl (hpre { on:=5,ground:=Ground.data } (by simp) rfl) rfl;have qv126:=eval_of ev126;obtain rfl:v126=.tuple #[.string (E tgt),.int .i64 0]:=hv126;refine wp_val (v:=.tuple #[.string (E tgt),.int .i64 0]) (by simp [execOp,ev126,go_sem]) rfl
            | 7,_,ho,hun,hpre =>
             simp at ho;subst ho;refine hJ.op (d:=127) hsl hst hFt hwz rfl rfl rfl (by decide) hpre ?_;simp only [List.getElem_toArray,List.getElem_cons_zero,List.getElem_cons_succ] at hpre ⊢;obtain ⟨v120,ev120,hv120⟩:=hJ.dn 6 _ 120 rfl (hpre { on:=6,ground:=Ground.data } (by simp) rfl) rfl;have qv120:=eval_of ev120;obtain rfl:v120=.tuple #[.string (E tgt),.int .i64 0]:=hv120;refine wp_val (v:=.string (E tgt)) (by simp [execOp,ev120,go_sem]) rfl
            | 8,_,ho,hun,hpre =>
             simp at ho;subst ho;refine hJ.op (d:=128) hsl hst hFt hwz rfl rfl rfl (by decide) hpre ?_;simp only [List.getElem_toArray,List.getElem_cons_zero,List.getElem_cons_succ] at hpre ⊢;obtain ⟨v120,ev120,hv120⟩:=hJ.dn 6 _ 120 rfl (hpre { on:=6,ground:=Ground.data } (by simp) rfl) rfl;have qv120:=eval_of ev120;obtain rfl:v120=.tuple #[.string (E tgt),.int .i64 0]:=hv120;refine wp_val (v:=.int .i64 0) (by simp [execOp,ev120,go_sem]) rfl
            | 9,_,ho,hun,hpre =>
             simp at ho;subst ho;refine hJ.op (d:=23) hsl hst hFt hwz rfl rfl rfl (by decide) hpre ?_;simp only [List.getElem_toArray,List.getElem_cons_zero,List.getElem_cons_succ] at hpre ⊢;obtain ⟨v127,ev127,hv127⟩:=hJ.dn 7 _ 127 rfl (hpre { on:=7,ground:=Ground.data } (by simp) rfl) rfl;have qv127:=eval_of ev127;obtain rfl:v127=.string (E tgt):=hv127;refine wp_val (v:=.string (E tgt)) (by simp [execOp,ev127,go_sem]) rfl
            | 10,_,ho,hun,hpre =>
             simp at ho;subst ho;refine hJ.op (d:=18) hsl hst hFt hwz rfl rfl rfl (by decide) hpre ?_;simp only [List.getElem_toArray,List.getElem_cons_zero,List.getElem_cons_succ] at hpre ⊢;obtain ⟨v128,ev128,hv128⟩:=hJ.dn 8 _ 128 rfl (hpre { on:=8,ground:=Ground.data } (by simp) rfl) rfl;have qv128:=eval_of ev128;obtain rfl:v128=.int .i64 0:=hv128;refine wp_val (v:=.int .i64 0) (by simp [execOp,ev128,go_sem]) rfl
           ·intro done a' w' hJ hd;obtain ⟨f,hf,hv⟩:=hJ.all hd;have h9:=hv 9 _ 23 rfl rfl;have h10:=hv 10 _ 18 rfl rfl;subst hf;simp only [putAll,List.size_toArray,List.length_cons,List.length_nil,Nat.reduceAdd,List.getElem?_toArray,List.getElem?_cons_zero,List.getElem?_cons_succ,Option.bind_some,Act.put,List.setIfInBounds_toArray,List.set_cons_zero,List.set_cons_succ];go_wp2_with fail
            go_meet
            exact ⟨h9,h10,hJ.bw⟩
          case rest =>
           obtain ⟨rfl,rfl,hbq⟩:=hcut;obtain ⟨w8,hw8⟩:∃w8,w8=wc:=⟨_,rfl⟩;subst hw8;replace hS:=hS.after hbq;replace hG:=hG.after hbq;replace hVO:=hVO.after hbq;replace hEO:=hEO.after hbq;replace hTO:=hTO.after hbq;have hb8:=bt hbr hbq;clear hbr hbq hV0;have hsz8:=hb8.size;have hbV:=b1 w8 (.cells #[.string (E (lastB vb rb))] 114);have hVJ:(w8.alloc (.cells #[.string (E (lastB vb rb))] 114)).ownsRow ws.heap.size 114 1 vv 8 (strs (stV vb rb 4)):=own_after hVO hbV;have hSJ:=hS.after hbV;obtain ⟨hSc0,hSf0,hSc1,hSf1,hSc2,hSf2⟩:=hS.x3;go_upto_region 30 with (at_builtin;go_loud (refine wpList_append_lies _ rfl (.tmp 134) (.tmp 137) 40 rfl ws.heap.size 114 i2 _ 1 16 Tryz.underlying40 HI2.out HA2.out HB2.out HC2.out rfl (by omega) vv 8 (strs (stV vb rb 4)) rfl hVJ ⟨w8.heap.size,0,none⟩ 1 1 [.string (E (lastB vb rb))] rfl rfl (Blk.new w8 #[.string (E (lastB vb rb))] 114).cells (by simp [Value.oneCell']) (by omega) (by simp only [maxLen];omega) (by omega) (by rw [World.size_alloc];omega) (w8.heap.size+1) (by simp) ?_);intro gv cv wv hownV hgrowV hatV hltV;have hSv:=Blk.grown hSJ hgrowV (own_ne hVJ hSJ (by decide));obtain ⟨hSvc0,hSvf0,hSvc1,hSvf1,hSvc2,hSvf2⟩:=hSv.x3;have hSvl:=hSv.lt)
           have hSv:=Blk.grown hSJ hgrowV (own_ne hVJ hSJ (by decide));have hGJ:=hG.after hbV;have hGv:=Blk.grown hGJ hgrowV (own_ne hVJ hGJ (by decide));have hEv:=(hEO.after hbV).other hVJ (by decide) (by decide) hgrowV;have hTv:TOwn wv ws.heap.size u20 (stT Q 4):=own_grown (hTO.after hbV) hVJ (by decide) hgrowV;have hbv:Below ws.heap.size ws wv:=Below.grown (ba hb8 (.cells #[.string (E (lastB vb rb))] 114)) hgrowV (by rw [World.size_alloc];omega) (fun y hy=>(own_lt hVO hy).2);have hVv:VOwn wv ws.heap.size (.slice (some ⟨gv,0,none⟩) 9 cv) (stV vb rb 4++[lastB vb rb]):=hownV;clear hVJ hSJ hGJ hVO hS hG hEO hTO hb8 hbV hownV hgrowV hatV hltV;clear hSc0 hSf0 hSc1 hSf1 hSc2 hSf2;have hgS:ws.heap.size≤gS:=Nat.le_of_lt HGS.out;have hEu:=hEv.set (i:=1) (u:=.slice (some ⟨gv,0,none⟩) 9 cv) hSv (by decide) (by decide);have hTu:TOwn (wv.setCell ⟨gS,1,none⟩ (.slice (some ⟨gv,0,none⟩) 9 cv)) ws.heap.size u20 (stT Q 4):=own_set hTv (own_ne hTv hSv (by decide));have hVu:VOwn (wv.setCell ⟨gS,1,none⟩ (.slice (some ⟨gv,0,none⟩) 9 cv)) ws.heap.size (.slice (some ⟨gv,0,none⟩) 9 cv) (stV vb rb 4++[lastB vb rb]):=own_set hVv (own_ne hVv hSv (by decide));have hGu:=hGv.other ⟨gS,1,none⟩ (.slice (some ⟨gv,0,none⟩) 9 cv) (by have:=HGS.out;show ws.heap.size≠gS;omega);have hSu:=hSv.set 1 (.slice (some ⟨gv,0,none⟩) 9 cv);have hbu:=hbv.setCell (p:=⟨gS,1,none⟩) hgS (.slice (some ⟨gv,0,none⟩) 9 cv);generalize wv.setCell ⟨gS,1,none⟩ (.slice (some ⟨gv,0,none⟩) 9 cv)=wu at hEu hTu hVu hGu hSu hbu ⊢;replace hSu:Blk wu gS 43 [.slice (some ⟨ws.heap.size,0,none⟩) 1 1,.slice (some ⟨gv,0,none⟩) 9 cv,ev]:=hSu;clear hEv hTv hVv hGv hSv hbv;generalize (.slice (some ⟨gv,0,none⟩) 9 cv:Value)=vv2 at hVu hSu ⊢;have HW1:Hid (ws.heap.size≤wu.heap.size):=hbu.size;have HEL4:=Lib.hid HEL.out;obtain ⟨NL,hNL⟩:∃L,L=stQ g h Q 4++[stL h tgt Q]:=⟨_,rfl⟩;clear HEL;go_cut [] (fun wy=>fSq3 gS ws.heap.size p vv2 ev u20 ws.heap.size (stV vb rb 4++[lastB vb rb]) (stT Q 4) EL NL [true,true,true] wy∧Below ws.heap.size wu wy)
           case first =>
            refine wp_region_invB (vSq3 gS w.heap.size h tgt ev u20 ws.heap.size (stT Q 4++[t1 h 8]) EL NL) [8,11,13] ws.heap.size (fSq3 gS ws.heap.size p vv2 ev u20 ws.heap.size (stV vb rb 4++[lastB vb rb]) (stT Q 4) EL NL) 154 ?_ (by kernel_rfl) rfl (by kernel_rfl) ?_ ?_ (by kernel_rfl)
            ·exact fSq3_st _ _ _ _ _ _ _ _ _ _ _ _ _ _ (Below.drew (Below.refl _ _)) ⟨fun _=>⟨hTu,hEu⟩,hGu,hVu,ev,hSu,fun _=>rfl,fun h0=>(by cases h0)⟩
            ·intro hsl done a' w' i o hJ ho hun hpre;have hi:=(Array.getElem?_eq_some_iff.1 ho).1;have hst:=vSq3_st gS w.heap.size h tgt ev u20 ws.heap.size (stT Q 4++[t1 h 8]) EL NL;have hFt:=fSq3_st gS ws.heap.size p vv2 ev u20 ws.heap.size (stV vb rb 4++[lastB vb rb]) (stT Q 4) EL NL;have hwz:ws.heap.size≤w'.heap.size:=Nat.le_trans HW1.out hJ.bw.size;match i,hi,ho,hun,hpre with
             | 0,_,ho,hun,hpre =>
              simp at ho;subst ho;refine hJ.op (d:=140) hsl hst hFt hwz rfl rfl rfl (by decide) hpre ?_;simp only [List.getElem_toArray,List.getElem_cons_zero,List.getElem_cons_succ] at hpre ⊢;have q19:=hJ.keep 19 (.pointer (some ⟨gS,0,none⟩)) rfl (by kernel_rfl);refine wp_val (v:=.pointer (some ⟨gS,2,none⟩)) (by simp [execOp,q19,go_sem]) rfl
             | 1,_,ho,hun,hpre =>
              simp at ho;subst ho;refine hJ.op (d:=141) hsl hst hFt hwz rfl rfl rfl (by decide) hpre ?_;simp only [List.getElem_toArray,List.getElem_cons_zero,List.getElem_cons_succ] at hpre ⊢;obtain ⟨v140,ev140,hv140⟩:=hJ.dn 0 _ 140 rfl (hpre { on:=0,ground:=Ground.data } (by simp) rfl) rfl;have qv140:=eval_of ev140;obtain rfl:v140=.pointer (some ⟨gS,2,none⟩):=hv140;obtain ⟨_,_,_,e3,hS3,he3,_⟩:=hJ.ex
              have hn13:stB [8,11,13] done≠[true,true,true]:=fun e=>by
               have h13:done.getD 13 false=true:=by
                simp only [stB,List.map_cons,List.map_nil,List.cons.injEq] at e;exact e.2.2.1
               have:=hJ.pr 13 _ rfl h13 { on:=1,ground:=Ground.phase } (by simp) rfl;rw [this] at hun;cases hun
              obtain rfl:=he3 hn13;have x2:=hS3.cell 2;refine wp_val (v:=e3) (by simp [execOp,ev140,go_sem,x2]) rfl
             | 2,_,ho,hun,hpre =>
              simp at ho;subst ho;refine hJ.op (d:=142) hsl hst hFt hwz rfl rfl rfl (by decide) hpre ?_;simp only [List.getElem_toArray,List.getElem_cons_zero,List.getElem_cons_succ] at hpre ⊢;have q23:=hJ.keep 23 (.string (E tgt)) rfl (by kernel_rfl);refine wp_val (v:=.string (E tgt)) (by simp [execOp,q23,go_sem]) rfl
             | 3,_,ho,hun,hpre =>
              simp at ho;subst ho;refine hJ.op (d:=143) hsl hst hFt hwz rfl rfl rfl (by decide) hpre ?_;simp only [List.getElem_toArray,List.getElem_cons_zero,List.getElem_cons_succ] at hpre ⊢;have q20:=hJ.keep 20 (u20) rfl (by kernel_rfl);refine wp_val (v:=u20) (by simp [execOp,q20,go_sem]) rfl
             | 4,_,ho,hun,hpre =>
              simp at ho;subst ho;refine hJ.op (d:=144) hsl hst hFt hwz rfl rfl rfl (by decide) hpre ?_;simp only [List.getElem_toArray,List.getElem_cons_zero,List.getElem_cons_succ] at hpre ⊢;have q6:=hJ.keep 6 (.pointer (some ⟨w.heap.size,0,none⟩)) rfl (by kernel_rfl);refine wp_val (v:=.pointer (some ⟨w.heap.size,3,none⟩)) (by simp [execOp,q6,go_sem]) rfl
             | 5,_,ho,hun,hpre =>
              simp at ho;subst ho;refine hJ.op (d:=145) hsl hst hFt hwz rfl rfl rfl (by decide) hpre ?_;simp only [List.getElem_toArray,List.getElem_cons_zero,List.getElem_cons_succ] at hpre ⊢;obtain ⟨v144,ev144,hv144⟩:=hJ.dn 4 _ 144 rfl (hpre { on:=4,ground:=Ground.data } (by simp) rfl) rfl;have qv144:=eval_of ev144;have hBx:=hB.after (hbu.trans hJ.bw);have hBl:=hBx.lt;have x2:=hBx.cell 2;have x3:=hBx.cell 3;obtain rfl:v144=.pointer (some ⟨w.heap.size,3,none⟩):=hv144;refine wp_val (v:=.string (E h)) (by simp [execOp,ev144,go_sem,x3]) rfl
             | 6,_,ho,hun,hpre =>
              simp at ho;subst ho;refine hJ.op (d:=146) hsl hst hFt hwz rfl rfl rfl (by decide) hpre ?_;simp only [List.getElem_toArray,List.getElem_cons_zero,List.getElem_cons_succ] at hpre ⊢;obtain ⟨v145,ev145,hv145⟩:=hJ.dn 5 _ 145 rfl (hpre { on:=5,ground:=Ground.data } (by simp) rfl) rfl;have qv145:=eval_of ev145;obtain rfl:v145=.string (E h):=hv145;refine wp_callX 117 #[.tmp 145,.const (.int .i64 8)] #[22,3] rfl (enters_of Tryz.func117 (by kernel_rfl) rfl) ?_;simp only [List.map_toArray,List.map_cons,List.map_nil,qv145,eval_const];refine (sqterm_c (E h) 8 w').mono ?_;rintro e w'' ⟨rfl,hb⟩;exact ⟨_,rfl,hb,rfl⟩
             | 7,_,ho,hun,hpre =>
              simp at ho;subst ho;refine hJ.op (d:=147) hsl hst hFt hwz rfl rfl rfl (by decide) hpre ?_;simp only [List.getElem_toArray,List.getElem_cons_zero,List.getElem_cons_succ] at hpre ⊢;obtain ⟨v146,ev146,hv146⟩:=hJ.dn 6 _ 146 rfl (hpre { on:=6,ground:=Ground.data } (by simp) rfl) rfl;have qv146:=eval_of ev146;obtain rfl:v146=.agg #[.string (E h),.int .i64 8,.bool false,.string (E 1)]:=hv146;have hN:=Blk.new w' #[.string (E h),.int .i64 8,.bool false,.string (E 1)] 181;simp [Oper.wp,execOp,ev146,go_sem];exact ⟨_,rfl,b1 _ _,fun _=>⟨w'.heap.size,rfl,hN⟩⟩
             | 8,_,ho,hun,hpre =>
              simp at ho;subst ho;simp only [List.getElem_toArray,List.getElem_cons_zero,List.getElem_cons_succ] at hpre;obtain ⟨v143,ev143,hv143⟩:=hJ.dn 3 _ 143 rfl (hpre { on:=3,ground:=Ground.data } (by simp) rfl) rfl;have qv143:=eval_of ev143;obtain ⟨v147,ev147,hv147⟩:=hJ.dn 7 _ 147 rfl (hpre { on:=7,ground:=Ground.data } (by simp) rfl) rfl;have qv147:=eval_of ev147
              have hs0:stB [8,11,13] done=[false,false,false]:=by
               have k8:done.getD 8 false=false:=hun
               have k11:done.getD 11 false=false:=by
                cases a11:done.getD 11 false with
                | false=>rfl
                | true =>
                 have a10:=hJ.pr 11 _ rfl a11 { on:=10,ground:=Ground.data } (by simp) rfl;have a9:=hJ.pr 10 _ rfl a10 { on:=9,ground:=Ground.data } (by simp) rfl;have a8:=hJ.pr 9 _ rfl a9 { on:=8,ground:=Ground.data } (by simp) rfl;rw [hun] at a8;cases a8
               have k13:done.getD 13 false=false:=by
                cases a13:done.getD 13 false with
                | false=>rfl
                | true =>
                 have a11:=hJ.pr 13 _ rfl a13 { on:=11,ground:=Ground.data } (by simp) rfl;rw [k11] at a11;cases a11
               simp only [stB,List.map_cons,List.map_nil,k8,k11,k13]
              have hi8:8<done.size:=by rw [hJ.sz];decide
              have hs1:stB [8,11,13] (done.setIfInBounds 8 true)=[true,false,false]:=by
               have e:=hs0;simp only [stB,List.map_cons,List.map_nil,List.cons.injEq,and_true] at e;simp only [stB,List.map_cons,List.map_nil,getD_set _ _ _ hi8,e,if_true,if_false,Nat.reduceEqDiff]
              rw [hs0] at hv147;obtain ⟨b,rfl,hN⟩:=hv147 rfl;have hx9:v143=u20:=hv143;clear hv143;have hex:=hJ.ex;rw [hs0] at hex;obtain ⟨hE0,hG0,hV0,e3,hS3,he3,_⟩:=hex;obtain ⟨hT1,hE1⟩:=hE0 rfl
              have hT2:w'.ownsRow ws.heap.size 181 4 u20 4 ((stT Q 4).flatMap tcs):=by
               have h:=hT1;unfold TOwn at h;rwa [stT_len] at h
              refine wpOp_step rfl fun K' hK=>?_
              simp only [List.getElem_toArray,List.getElem_cons_zero,List.getElem_cons_succ];refine step_append_lies _ rfl (.tmp 143) (.tmp 147) 118 rfl ws.heap.size 181 i3 _ 4 48 Tryz.underlying118 HI3.out HA3.out HB3.out HC3.out rfl (by omega) u20 4 ((stT Q 4).flatMap tcs) (qv143.trans hx9) hT2 ⟨b,0,none⟩ 1 1 [.string (E h),.int .i64 8,.bool false,.string (E 1)] qv147 rfl hN.cells (by simp [Value.oneCell']) (by omega) (by simp only [maxLen];omega) (by omega) hwz w'.heap.size rfl fun gE cE w'' hown hgrow hat hlt=>hK _ _ ?_
              refine hJ.put (d:=148) hsl rfl rfl hpre (Below.grown hJ.bw hgrow hwz (fun g' hg'=>(own_lt hT2 hg').2)) ?_ ?_ ?_
              ·rw [hs1];exact ⟨fun h0=>(by cases h0),Blk.grown hG0 hgrow (own_ne hT2 hG0 (by decide)),own_grown hV0 hT2 (by decide) hgrow,e3,Blk.grown hS3 hgrow (own_ne hT2 hS3 (by decide)),fun _=>he3 (by decide),fun h0=>(by cases h0)⟩
              ·intro j q hq hj hdn u h;rw [hs0] at h;rw [hs1];exact vSq3_nx (.inl rfl) j u hj h
              ·rw [hs1];intro _;refine ⟨⟨_,_,_,rfl⟩,?_,hE1.terms hT2 hgrow hat⟩;unfold TOwn;rw [List.length_append,stT_len,List.flatMap_append];exact hown
             | 9,_,ho,hun,hpre =>
              simp at ho;subst ho;refine hJ.op (d:=149) hsl hst hFt hwz rfl rfl rfl (by decide) hpre ?_;simp only [List.getElem_toArray,List.getElem_cons_zero,List.getElem_cons_succ] at hpre ⊢;obtain ⟨v142,ev142,hv142⟩:=hJ.dn 2 _ 142 rfl (hpre { on:=2,ground:=Ground.data } (by simp) rfl) rfl;have qv142:=eval_of ev142;obtain ⟨v148,ev148,hv148⟩:=hJ.dn 8 _ 148 rfl (hpre { on:=8,ground:=Ground.data } (by simp) rfl) rfl;have qv148:=eval_of ev148;have a8:=hpre { on:=8,ground:=Ground.data } (by simp) rfl
              have hs0:stB [8,11,13] done=[true,false,false]:=by
               have k11:done.getD 11 false=false:=by
                cases a11:done.getD 11 false with
                | false=>rfl
                | true =>
                 have a10:=hJ.pr 11 _ rfl a11 { on:=10,ground:=Ground.data } (by simp) rfl;have a9:=hJ.pr 10 _ rfl a10 { on:=9,ground:=Ground.data } (by simp) rfl;rw [hun] at a9;cases a9
               have k13:done.getD 13 false=false:=by
                cases a13:done.getD 13 false with
                | false=>rfl
                | true =>
                 have a11:=hJ.pr 13 _ rfl a13 { on:=11,ground:=Ground.data } (by simp) rfl;rw [k11] at a11;cases a11
               simp only [stB,List.map_cons,List.map_nil,a8,k11,k13]
              rw [hs0] at hv148;obtain ⟨⟨ao9,n9,c9,rfl⟩,hT,hE⟩:=hv148 rfl;obtain rfl:v142=.string (E tgt):=hv142;refine wp_callX 116 #[.tmp 142,.tmp 148] #[22,118] rfl (enters_of Tryz.func116 (by kernel_rfl) rfl) ?_;simp only [List.map_toArray,List.map_cons,List.map_nil,qv142,qv148];refine (sqequation_c (E tgt) ao9 n9 c9 w').mono ?_;rintro e w'' ⟨rfl,hb⟩;exact ⟨_,rfl,hb,by rw [hs0];decide,fun _=>⟨_,rfl,⟨_,_,_,rfl⟩,hT.after hb,hE.after hb⟩⟩
             | 10,_,ho,hun,hpre =>
              simp at ho;subst ho;refine hJ.op (d:=150) hsl hst hFt hwz rfl rfl rfl (by decide) hpre ?_;simp only [List.getElem_toArray,List.getElem_cons_zero,List.getElem_cons_succ] at hpre ⊢;obtain ⟨v149,ev149,hv149⟩:=hJ.dn 9 _ 149 rfl (hpre { on:=9,ground:=Ground.data } (by simp) rfl) rfl;have qv149:=eval_of ev149;have a9:=hpre { on:=9,ground:=Ground.data } (by simp) rfl;have a8:=hJ.pr 9 _ rfl a9 { on:=8,ground:=Ground.data } (by simp) rfl
              have hs0:stB [8,11,13] done=[true,false,false]:=by
               have k11:done.getD 11 false=false:=by
                cases a11:done.getD 11 false with
                | false=>rfl
                | true =>
                 have a10:=hJ.pr 11 _ rfl a11 { on:=10,ground:=Ground.data } (by simp) rfl;rw [hun] at a10;cases a10
               have k13:done.getD 13 false=false:=by
                cases a13:done.getD 13 false with
                | false=>rfl
                | true =>
                 have a11:=hJ.pr 13 _ rfl a13 { on:=11,ground:=Ground.data } (by simp) rfl;rw [k11] at a11;cases a11
               simp only [stB,List.map_cons,List.map_nil,a8,k11,k13]
              rw [hs0] at hv149;obtain ⟨t,rfl,⟨ao9,n9,c9,rfl⟩,hT,hE⟩:=hv149.2 rfl;have hN:=Blk.new w' #[.int .i64 0,.string (E tgt),.slice ao9 n9 c9] 120;simp [Oper.wp,execOp,ev149,go_sem];exact ⟨_,rfl,b1 _ _,by rw [hs0];decide,fun _=>⟨_,w'.heap.size,rfl,hN,⟨_,_,_,rfl⟩,hT.after (b1 _ _),hE.after (b1 _ _)⟩⟩
             | 11,_,ho,hun,hpre =>
              simp at ho;subst ho;simp only [List.getElem_toArray,List.getElem_cons_zero,List.getElem_cons_succ] at hpre;obtain ⟨v141,ev141,hv141⟩:=hJ.dn 1 _ 141 rfl (hpre { on:=1,ground:=Ground.data } (by simp) rfl) rfl;have qv141:=eval_of ev141;obtain ⟨v150,ev150,hv150⟩:=hJ.dn 10 _ 150 rfl (hpre { on:=10,ground:=Ground.data } (by simp) rfl) rfl;have qv150:=eval_of ev150;have a10:=hpre { on:=10,ground:=Ground.data } (by simp) rfl;have a9:=hJ.pr 10 _ rfl a10 { on:=9,ground:=Ground.data } (by simp) rfl;have a8:=hJ.pr 9 _ rfl a9 { on:=8,ground:=Ground.data } (by simp) rfl
              have hs0:stB [8,11,13] done=[true,false,false]:=by
               have k11:done.getD 11 false=false:=hun
               have k13:done.getD 13 false=false:=by
                cases a13:done.getD 13 false with
                | false=>rfl
                | true =>
                 have a11:=hJ.pr 13 _ rfl a13 { on:=11,ground:=Ground.data } (by simp) rfl;rw [hun] at a11;cases a11
               simp only [stB,List.map_cons,List.map_nil,a8,k11,k13]
              have hi11:11<done.size:=by rw [hJ.sz];decide
              have hs1:stB [8,11,13] (done.setIfInBounds 11 true)=[true,true,false]:=by
               have e:=hs0;simp only [stB,List.map_cons,List.map_nil,List.cons.injEq,and_true] at e;simp only [stB,List.map_cons,List.map_nil,getD_set _ _ _ hi11,e,if_true,if_false,Nat.reduceEqDiff]
              rw [hs0] at hv150;obtain ⟨t,b,rfl,hN,⟨ao9,n9,c9,rfl⟩,hT,hE⟩:=hv150.2 rfl;have hev:v141=ev:=hv141;clear hv141;have hex:=hJ.ex;rw [hs0] at hex;obtain ⟨_,hG0,hV0,e3,hS3,he3,_⟩:=hex;have hEQ:=HEL4.out;have hEl:EL.length=4:=by have:=congrArg List.length hEQ;rwa [List.length_map,stQ_len] at this
              have hro:=hE.row;rw [hEl] at hro;refine wpOp_step rfl fun K' hK=>?_
              simp only [List.getElem_toArray,List.getElem_cons_zero,List.getElem_cons_succ];refine step_append_lies _ rfl (.tmp 141) (.tmp 150) 41 rfl ws.heap.size 120 i4 _ 3 48 Tryz.underlying41 HI4.out HA4.out HB4.out HC4.out rfl (by omega) ev 4 (EL.flatMap ecp) (qv141.trans hev) hro ⟨b,0,none⟩ 1 1 [.int .i64 0,.string (E tgt),.slice ao9 n9 c9] qv150 rfl hN.cells (by simp [Value.oneCell']) (by omega) (by simp only [maxLen];omega) (by omega) hwz w'.heap.size rfl fun gE cE w'' hown hgrow hat hlt=>hK _ _ ?_
              refine hJ.put (d:=151) hsl rfl rfl hpre (Below.grown hJ.bw hgrow hwz (fun g' hg'=>(own_lt hro hg').2)) ?_ ?_ ?_
              ·rw [hs1];exact ⟨fun h0=>(by cases h0),Blk.grown hG0 hgrow (own_ne hro hG0 (by decide)),own_grown hV0 hro (by decide) hgrow,e3,Blk.grown hS3 hgrow (own_ne hro hS3 (by decide)),fun _=>he3 (by decide),fun h0=>(by cases h0)⟩
              ·intro j q hq hj hdn u h;rw [hs0] at h;rw [hs1];exact vSq3_nx (.inr (.inl rfl)) j u hj h
              ·rw [hs1];intro _;refine ⟨EL++[(stL h tgt Q,.slice ao9 n9 c9)],?_,hE.nilx.snoc hgrow (by rw [hEl]) hown hT (fun g' hg'=>(by cases hg'))⟩;rw [List.map_append,hEQ,hNL];rfl
             | 12,_,ho,hun,hpre =>
              simp at ho;subst ho;refine hJ.op (d:=152) hsl hst hFt hwz rfl rfl rfl (by decide) hpre ?_;simp only [List.getElem_toArray,List.getElem_cons_zero,List.getElem_cons_succ] at hpre ⊢;have q19:=hJ.keep 19 (.pointer (some ⟨gS,0,none⟩)) rfl (by kernel_rfl);refine wp_val (v:=.pointer (some ⟨gS,2,none⟩)) (by simp [execOp,q19,go_sem]) rfl
             | 13,_,ho,hun,hpre =>
              simp at ho;subst ho;simp only [List.getElem_toArray,List.getElem_cons_zero,List.getElem_cons_succ] at hpre;obtain ⟨v151,ev151,hv151⟩:=hJ.dn 11 _ 151 rfl (hpre { on:=11,ground:=Ground.data } (by simp) rfl) rfl;have qv151:=eval_of ev151;obtain ⟨v152,ev152,hv152⟩:=hJ.dn 12 _ 152 rfl (hpre { on:=12,ground:=Ground.data } (by simp) rfl) rfl;have qv152:=eval_of ev152;have a11:=hpre { on:=11,ground:=Ground.data } (by simp) rfl;have a10:=hJ.pr 11 _ rfl a11 { on:=10,ground:=Ground.data } (by simp) rfl;have a9:=hJ.pr 10 _ rfl a10 { on:=9,ground:=Ground.data } (by simp) rfl;have a8:=hJ.pr 9 _ rfl a9 { on:=8,ground:=Ground.data } (by simp) rfl
              have hs0:stB [8,11,13] done=[true,true,false]:=by
               have k13:done.getD 13 false=false:=hun;simp only [stB,List.map_cons,List.map_nil,a8,a11,k13]
              have hi13:13<done.size:=by rw [hJ.sz];decide
              have hs1:stB [8,11,13] (done.setIfInBounds 13 true)=[true,true,true]:=by
               have e:=hs0;simp only [stB,List.map_cons,List.map_nil,List.cons.injEq,and_true] at e;simp only [stB,List.map_cons,List.map_nil,getD_set _ _ _ hi13,e,if_true,if_false,Nat.reduceEqDiff]
              rw [hs0] at hv151;obtain ⟨L,hL,hE⟩:=hv151 rfl;obtain ⟨ae,n9,ce,rfl⟩:=hE.form;obtain rfl:v152=.pointer (some ⟨gS,2,none⟩):=hv152;have hex:=hJ.ex;rw [hs0] at hex;obtain ⟨_,hG0,hV0,e3,hS3,_,_⟩:=hex;have hSl:=hS3.lt;have f2:=hS3.free 2;have c2:=hS3.cell 2;refine wpOp_step rfl fun K' hK=>?_
              simp only [List.getElem_toArray,List.getElem_cons_zero,List.getElem_cons_succ];rw [if_pos (by simp [Region.wanted])];simp [Oper.wp,execOp,ev151,ev152,go_sem,f2,c2,hSl];have h9:=hJ.skip (i:=13) (v:=undef) rfl rfl hpre (hJ.bw.setCell (p:=⟨gS,2,none⟩) hgS (.slice ae n9 ce)) ?_ ?_
              ·exact hK a' _ h9
              ·rw [hs1];exact ⟨fun h0=>(by cases h0),hG0.other ⟨gS,2,none⟩ _ (by have:=HGS.out;show ws.heap.size≠gS;omega),own_set hV0 (own_ne hV0 hS3 (by decide)),_,hS3.set 2 _,fun h0=>absurd rfl h0,fun _=>⟨L,hL,hE.set hS3 (by decide) (by decide)⟩⟩
              ·intro j q hq hj hdn d u hd hu hv;rw [hs0] at hv;rw [hs1];exact vSq3_nx (.inr (.inr rfl)) j u hj hv
            ·intro done a' w' hJ hd;obtain ⟨f,hf,hv⟩:=hJ.all hd;have hs1:stB [8,11,13] done=[true,true,true]:=stB_all hd (by kernel_rfl);have hex:=hJ.ex;rw [hs1] at hex;subst hf;simp only [putAll,List.size_toArray,List.length_cons,List.length_nil,Nat.reduceAdd,List.getElem?_toArray,List.getElem?_cons_zero,List.getElem?_cons_succ,Option.bind_some,Act.put,List.setIfInBounds_toArray,List.set_cons_zero,List.set_cons_succ];go_wp2_with fail
             go_meet
             exact ⟨hex,hJ.bw⟩
           case rest =>
            obtain ⟨⟨_,hG9,hV9,e9,hS9,_,hE9⟩,hb9⟩:=hcut;obtain ⟨EL9,hEL9,hEO9⟩:=hE9 rfl;obtain ⟨wy,hwy⟩:∃wy,wy=wc:=⟨_,rfl⟩;subst hwy;have hb10:=hbu.trans hb9;clear hEu hTu hVu hGu hSu hbu hE9 hb9;obtain ⟨ae,n9,ce,rfl⟩:=hEO9.form;obtain ⟨av,cv9,hav⟩:=RAt.form hV9.ss;rw [List.length_map] at hav;obtain ⟨n10,hn10⟩:∃n,n=(stV vb rb 4++[lastB vb rb]).length:=⟨_,rfl⟩;rw [←hn10] at hav;subst hav;clear hn10;have hRL:gR<ws.heap.size:=hR.lt;have hRy:=hR.after hb10;have hRl:=hRy.lt;have hSl:=hS9.lt;have hBWy:=bt hBW3 hb10;rw [hNL,HTG.out] at hEL9;obtain ⟨hS9c0,hS9f0,hS9c1,hS9f1,hS9c2,hS9f2⟩:=hS9.x3;obtain ⟨hRyc0,hRyf0,hRyc1,hRyf1,hRyc2,hRyf2⟩:=hRy.x3;go_wp2;refine bodyPost_ret (v:=.tuple #[.agg #[.slice (some ⟨ws.heap.size,0,none⟩) 1 1,.slice av n10 cv9,.slice ae n9 ce],.int .i64 0]) ?_ rfl ?_
            ·simp [results,Tryz.results50,go_sem,hRyc0,hRyc1,hRyc2,hRl]
            ·rw [HRN.out];exact ⟨_,_,_,rfl,stn_ret hRy (by omega) hG9 hV9 hEO9 hEL9 _ _ _,((hBWy.setCell HWR.out _).setCell HWR.out _).setCell HWR.out _⟩
end Go.Proofs.YteahlbhjhjhljaaGreatDoor
