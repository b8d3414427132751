/- law 27's awake returns true. -/
import Derived.Test.YtfgandecbkbleaaGreatDoorHoR
set_option linter.unusedVariables false
set_option linter.unusedSimpArgs false
set_option maxRecDepth 100000
set_option maxHeartbeats 16000000
namespace Go.Proofs.YtfgandecbkbleaaGreatDoor
open Go.RowKit Go.Shelf
def vAw (B gO:Nat):RV:=fun st i v w=>match i with
 | 0=>v=.agg #[.string (E 77),.string ⟨#[]⟩,.string (E 4),.string (E 9)]
 | 1=>v=.agg #[.bool false,.string (E 10),.bool false,.string (E 2)]
 | 2=>v=.string (E 5)
 | 3=>v=.string (E 1)
 | 4=>v=.string (E 0)
 | 5=>v=.string (E 0)
 | 6=>v=.string (E 2)
 | 7=>st=false→∃b,v=.slice (some ⟨b,0,none⟩) 4 4∧SsAt w v exT.vals
 | 8=>st=false→∃u,v=.agg #[u,.string ⟨#[]⟩,.int .i64 0]∧SsAt w u exT.vals
 | 9=>∃p o t,v=.tuple #[p,o,t,.int .i64 0]∧NOwn w 0 p exP∧OOwn w 0 o exO∧∃ao n c,t=.agg #[.slice ao n c,.string ⟨#[]⟩,.int .i64 4]
 | 10=>∃p o t,v=.tuple #[p,o,t,.int .i64 0]∧NOwn w 0 p exP∧OOwn w 0 o exO∧∃ao n c,t=.agg #[.slice ao n c,.string ⟨#[]⟩,.int .i64 4]
 | 11=>NOwn w 0 v exP
 | 12=>OOwn w 0 v exO
 | 13=>∃ao n c,v=.agg #[.slice ao n c,.string ⟨#[]⟩,.int .i64 4]
 | 14=>v=.int .i64 0
 | 15=>∃g x y z,v=.pointer (some ⟨g,0,none⟩)∧B≤g∧Blk w g 47 [x,y,z]∧(st=true→z=.int .i64 4)
 | 16=>NOwn w 0 v exP
 | 17=>OOwn w 0 v exO
 | 19=>v=.int .i64 0
 | _=>True
theorem vAw_st (B gO:Nat):∀b j u w w',Below w.heap.size w w'→vAw B gO b j u w→vAw B gO b j u w':=by
 intro b j u w w' hb h;unfold vAw at h ⊢;split at h
 all_goals first
  | exact h
  | (intro h0;obtain ⟨x,h1,h2⟩:=h h0;exact ⟨x,h1,SsAt.after h2 hb⟩)
  | (obtain ⟨p,o,t,h1,h2,h3,h4⟩:=h;exact ⟨p,o,t,h1,own_after h2 hb,own_after h3 hb,h4⟩)
  | exact own_after h hb
  | (obtain ⟨g,x,y,z,h1,h2,h3,h4⟩:=h;exact ⟨g,x,y,z,h1,h2,h3.after hb,h4⟩)
theorem vAw_store {B gO g:Nat} {w:World} {y0 y1 y2:Value} (hG:Blk w g 47 [y0,y1,y2]) (hB:B≤g) (x0 x1:Value):∀(j:Nat) (u:Value),(j=15→u=.pointer (some ⟨g,0,none⟩))→vAw B gO false j u w→vAw B gO true j u (((w.setCell ⟨g,0,none⟩ x0).setCell ⟨g,1,none⟩ x1).setCell ⟨g,2,none⟩ (.int .i64 4)):=by
 intro j u h15 h;have hN:∀{v l},NOwn w 0 v l→NOwn (((w.setCell ⟨g,0,none⟩ x0).setCell ⟨g,1,none⟩ x1).setCell ⟨g,2,none⟩ (.int .i64 4)) 0 v l:=fun h=>own_set (own_set (own_set h (own_ne h hG (by decide))) (own_ne h hG (by decide))) (own_ne h hG (by decide))
 have hO:∀{v l},OOwn w 0 v l→OOwn (((w.setCell ⟨g,0,none⟩ x0).setCell ⟨g,1,none⟩ x1).setCell ⟨g,2,none⟩ (.int .i64 4)) 0 v l:=fun h=>own_set (own_set (own_set h (own_ne h hG (by decide))) (own_ne h hG (by decide))) (own_ne h hG (by decide))
 unfold vAw at h ⊢;split at h
 all_goals first
  | exact h
  | exact hN h
  | exact hO h
  | (intro h0;cases h0;done)
  | (obtain ⟨p,o,t,h1,h2,h3,h4⟩:=h;exact ⟨p,o,t,h1,hN h2,hO h3,h4⟩)
  | exact ⟨g,_,_,_,h15 rfl,hB,((hG.set 0 x0).set 1 x1).set 2 (.int .i64 4),fun _=>rfl⟩
def vAx (u3:Value):RV:=fun _ i v w=>match i with
 | 0=>v=.agg #[.string (E 77),.string ⟨#[]⟩,.string (E 4),.string (E 9)]
 | 1=>v=.agg #[.bool false,.string (E 10),.bool false,.string (E 2)]
 | 2=>v=u3
 | 3=>∃z,v=.tuple #[z,.int .i64 0]∧ZsAt w z exW
 | 4=>∃z,v=.tuple #[z,.int .i64 0]∧ZsAt w z exW
 | 5=>ZsAt w v exW
 | 6=>v=.int .i64 0
 | 7=>ZsAt w v exW
 | 8=>v=.int .i64 0
 | _=>True
theorem vAx_st (u3:Value):∀b j u w w',Below w.heap.size w w'→vAx u3 b j u w→vAx u3 b j u w':=by
 intro b j u w w' hb h;unfold vAx at h ⊢;split at h
 all_goals first
  | exact h
  | (obtain ⟨z,h1,h2⟩:=h;exact ⟨z,h1,ZsAt.after h2 hb⟩)
  | exact ZsAt.after h hb
theorem i64f (n:Nat):(Value.agg #[.bool (sg (n:Int)),.string (E (n:Int).natAbs)])=.agg #[.bool false,.string (E n)]:=by rw [sg_nat,Int.natAbs_natCast]
theorem awake27_c (w:World):Calls Tryz.prog 10 #[] w fun e w'=>e=.returned (.bool true)∧Below w.heap.size w w':=by
 have HW:Hid (∀(n:Nat) (w:World),n<9223372036854775807→Calls Tryz.prog 26 #[.int .i64 (n:Int)] w fun e w'=>e=.returned (.agg #[.bool false,.string (E n)])∧Below w.heap.size w w'):=fun n w hn=>by
  have h:=l27whole_c (n:Int) w (by omega) (by omega);rwa [sg_nat,Int.natAbs_natCast] at h
 have H10:=Lib.hid (fun w=>HW.out 10 w (by decide));have H2:=Lib.hid (fun w=>HW.out 2 w (by decide));go_enter Tryz.func10,Tryz.ntmps10
 go_wp2_with fail
 refine (H10.out _).mono ?_;rintro e w1 ⟨rfl,hb1⟩;go_wp2_with fail
 refine (H2.out _).mono ?_;rintro e w2 ⟨rfl,hb2⟩;have hO:=Blk.new w2 #[.bool false,.string (E 10),.bool false,.string (E 2)] 30;have hb:=ba (bt hb1 hb2) (.cells #[.bool false,.string (E 10),.bool false,.string (E 2)] 30);clear hb1 hb2 H10 H2;go_upto_region 2 with fail
 generalize w2.alloc (.cells #[.bool false,.string (E 10),.bool false,.string (E 2)] 30)=w3 at hO hb ⊢;obtain ⟨gO,hgO⟩:∃g,w2.heap.size=g:=⟨_,rfl⟩;rw [hgO] at hO ⊢;replace hO:Blk w3 gO 30 [.bool false,.string (E 10),.bool false,.string (E 2)]:=hO;clear hgO
 have HPR:Hid (∀(u:Value) (w:World),SsAt w u exT.vals→Calls Tryz.prog 15 #[.agg #[.string (E 77),.string ⟨#[]⟩,.string (E 4),.string (E 9)],.int .i64 3,.agg #[.bool false,.string (E 10),.bool false,.string (E 2)],.string (E 5),.agg #[u,.string ⟨#[]⟩,.int .i64 0]] w (PrPost w ⟨0,exP,exO,exT.on 4⟩)):=fun u w hu=>by
  have hz:∀n k:Nat,n<256^k→(E n).size≤k:=fun n k h=>(E_size_le n k).2 h
  have h:=sqprep_c (fun _ _ _ _=>0) (E 77) (E 0) (E 4) (E 9) 3 false (E 10) false (E 2) (E 5) exT u w (fun h=>absurd rfl h) exT_ok (hz 77 8 (by decide)) (Nat.le_trans (hz 0 8 (by decide)) (by decide)) (Nat.le_trans (hz 4 8 (by decide)) (by decide)) (Nat.le_trans (hz 9 8 (by decide)) (by decide)) (hz 10 12 (by decide)) (hz 2 12 (by decide)) (hz 5 12 (by decide)) (by decide) (by decide) hu;rw [ex_pr] at h;exact h
 go_cut [2,3,4,5] (fun s2 s3 s4 s5 wx=>∃g x y,s4=.pointer (some ⟨g,0,none⟩)∧s5=.int .i64 0∧NOwn wx 0 s2 exP∧OOwn wx 0 s3 exO∧Blk wx g 47 [x,y,.int .i64 4]∧Below w3.heap.size w3 wx)
 case first =>
  refine wp_region_inv (vAw w3.heap.size gO) 18 66 (by kernel_rfl) rfl (by kernel_rfl) ?_ ?_ (by kernel_rfl)
  ·intro hsl done a' w' i o hI ho hun hpre;have hi:i<20:=(Array.getElem?_eq_some_iff.1 ho).1;have hst:=vAw_st w3.heap.size gO;have hwz:=hI.bw.size;have c13:done.getD 18 false=true→done.getD 13 false=true:=fun h=>hI.pr 18 _ rfl h { on:=13,ground:=Ground.data } (by simp) rfl
   have c15:done.getD 18 false=true→done.getD 15 false=true:=fun h=>hI.pr 18 _ rfl h { on:=15,ground:=Ground.data } (by simp) rfl
   have c10:done.getD 13 false=true→done.getD 10 false=true:=fun h=>hI.pr 13 _ rfl h { on:=10,ground:=Ground.data } (by simp) rfl
   have c9:done.getD 10 false=true→done.getD 9 false=true:=fun h=>hI.pr 10 _ rfl h { on:=9,ground:=Ground.data } (by simp) rfl
   have c8:done.getD 9 false=true→done.getD 8 false=true:=fun h=>hI.pr 9 _ rfl h { on:=8,ground:=Ground.data } (by simp) rfl
   match i,hi,ho,hun,hpre with
   | 0,_,ho,hun,hpre =>
    simp at ho;subst ho;refine hI.op (d:=12) hsl hst hwz rfl rfl rfl (by decide) hpre ?_;simp only [List.getElem_toArray,List.getElem_cons_zero,List.getElem_cons_succ] at hpre ⊢;refine wp_callX 38 #[] #[] rfl (enters_of Tryz.func38 (by kernel_rfl) rfl) ?_;simp only [List.map_toArray,List.map_nil];refine (l27key_c w').mono ?_;rintro e w'' ⟨rfl,hb⟩;exact ⟨_,rfl,hb,rfl⟩
   | 1,_,ho,hun,hpre =>
    simp at ho;subst ho;refine hI.op (d:=13) hsl hst hwz rfl rfl rfl (by decide) hpre ?_;simp only [List.getElem_toArray,List.getElem_cons_zero,List.getElem_cons_succ] at hpre ⊢;have q1:=hI.keep 1 (.pointer (some ⟨gO,0,none⟩)) rfl (by kernel_rfl);have hOx:=hO.after hI.bw;have hOl:=hOx.lt;have x0:=hOx.cell 0;have x1:=hOx.cell 1;have x2:=hOx.cell 2;have x3:=hOx.cell 3;refine wp_val (v:=.agg #[.bool false,.string (E 10),.bool false,.string (E 2)]) (by simp [execOp,q1,go_sem,x0,x1,x2,x3]) rfl
   | 2,_,ho,hun,hpre =>
    simp at ho;subst ho;refine hI.op (d:=14) hsl hst hwz rfl rfl rfl (by decide) hpre ?_;simp only [List.getElem_toArray,List.getElem_cons_zero,List.getElem_cons_succ] at hpre ⊢;refine wp_callX 28 #[.const (.int .u64 5)] #[78] rfl (enters_of Tryz.func28 (by kernel_rfl) rfl) ?_;simp only [List.map_toArray,List.map_cons,List.map_nil,eval_const];refine (l27num_c 5 w' (by decide)).mono ?_;rintro e w'' ⟨rfl,hb⟩;exact ⟨_,rfl,hb,rfl⟩
   | 3,_,ho,hun,hpre =>
    simp at ho;subst ho;refine hI.op (d:=15) hsl hst hwz rfl rfl rfl (by decide) hpre ?_;simp only [List.getElem_toArray,List.getElem_cons_zero,List.getElem_cons_succ] at hpre ⊢;refine wp_callX 28 #[.const (.int .u64 1)] #[78] rfl (enters_of Tryz.func28 (by kernel_rfl) rfl) ?_;simp only [List.map_toArray,List.map_cons,List.map_nil,eval_const];refine (l27num_c 1 w' (by decide)).mono ?_;rintro e w'' ⟨rfl,hb⟩;exact ⟨_,rfl,hb,rfl⟩
   | 4,_,ho,hun,hpre =>
    simp at ho;subst ho;refine hI.op (d:=16) hsl hst hwz rfl rfl rfl (by decide) hpre ?_;simp only [List.getElem_toArray,List.getElem_cons_zero,List.getElem_cons_succ] at hpre ⊢;refine wp_callX 28 #[.const (.int .u64 0)] #[78] rfl (enters_of Tryz.func28 (by kernel_rfl) rfl) ?_;simp only [List.map_toArray,List.map_cons,List.map_nil,eval_const];refine (l27num_c 0 w' (by decide)).mono ?_;rintro e w'' ⟨rfl,hb⟩;exact ⟨_,rfl,hb,rfl⟩
   | 5,_,ho,hun,hpre =>
    simp at ho;subst ho;refine hI.op (d:=17) hsl hst hwz rfl rfl rfl (by decide) hpre ?_;simp only [List.getElem_toArray,List.getElem_cons_zero,List.getElem_cons_succ] at hpre ⊢;refine wp_callX 28 #[.const (.int .u64 0)] #[78] rfl (enters_of Tryz.func28 (by kernel_rfl) rfl) ?_;simp only [List.map_toArray,List.map_cons,List.map_nil,eval_const];refine (l27num_c 0 w' (by decide)).mono ?_;rintro e w'' ⟨rfl,hb⟩;exact ⟨_,rfl,hb,rfl⟩
   | 6,_,ho,hun,hpre =>
    simp at ho;subst ho;refine hI.op (d:=18) hsl hst hwz rfl rfl rfl (by decide) hpre ?_;simp only [List.getElem_toArray,List.getElem_cons_zero,List.getElem_cons_succ] at hpre ⊢;refine wp_callX 28 #[.const (.int .u64 2)] #[78] rfl (enters_of Tryz.func28 (by kernel_rfl) rfl) ?_;simp only [List.map_toArray,List.map_cons,List.map_nil,eval_const];refine (l27num_c 2 w' (by decide)).mono ?_;rintro e w'' ⟨rfl,hb⟩;exact ⟨_,rfl,hb,rfl⟩
   | 7,_,ho,hun,hpre =>
    simp at ho;subst ho;refine hI.op (d:=19) hsl hst hwz rfl rfl rfl (by decide) hpre ?_;simp only [List.getElem_toArray,List.getElem_cons_zero,List.getElem_cons_succ] at hpre ⊢;obtain ⟨v15,ev15,hv15⟩:=hI.dn 3 _ 15 rfl (hpre { on:=3,ground:=Ground.data } (by simp) rfl) rfl;have qv15:=eval_of ev15;obtain ⟨v16,ev16,hv16⟩:=hI.dn 4 _ 16 rfl (hpre { on:=4,ground:=Ground.data } (by simp) rfl) rfl;have qv16:=eval_of ev16;obtain ⟨v17,ev17,hv17⟩:=hI.dn 5 _ 17 rfl (hpre { on:=5,ground:=Ground.data } (by simp) rfl) rfl;have qv17:=eval_of ev17;obtain ⟨v18,ev18,hv18⟩:=hI.dn 6 _ 18 rfl (hpre { on:=6,ground:=Ground.data } (by simp) rfl) rfl;have qv18:=eval_of ev18;obtain rfl:v15=.string (E 1):=hv15;obtain rfl:v16=.string (E 0):=hv16;obtain rfl:v17=.string (E 0):=hv17;obtain rfl:v18=.string (E 2):=hv18;have hN:=Blk.new w' #[.string (E 1),.string (E 0),.string (E 0),.string (E 2)] 22;have hSS:SsAt (w'.alloc (.cells #[.string (E 1),.string (E 0),.string (E 0),.string (E 2)] 22)) (.slice (some ⟨w'.heap.size,0,none⟩) 4 4) exT.vals:=ss_own (base:=0) exT.vals rfl (own_blk hN rfl (by decide));simp [Oper.wp,execOp,ev15,ev16,ev17,ev18,go_sem];exact ⟨_,rfl,b1 _ _,fun _=>⟨w'.heap.size,rfl,hSS⟩⟩
   | 8,_,ho,hun,hpre =>
    simp at ho;subst ho;refine hI.op (d:=20) hsl hst hwz rfl rfl rfl (by decide) hpre ?_;simp only [List.getElem_toArray,List.getElem_cons_zero,List.getElem_cons_succ] at hpre ⊢;obtain ⟨v19,ev19,hv19⟩:=hI.dn 7 _ 19 rfl (hpre { on:=7,ground:=Ground.data } (by simp) rfl) rfl;have qv19:=eval_of ev19;have st0:done.getD 18 false=false:=Bool.eq_false_iff.2 fun h=>by rw [c8 (c9 (c10 (c13 h)))] at hun;cases hun
    obtain ⟨b,rfl,hS⟩:=hv19 st0;refine wp_callX 39 #[.tmp 19] #[45] rfl (enters_of Tryz.func39 (by kernel_rfl) rfl) ?_;simp only [List.map_toArray,List.map_cons,List.map_nil,qv19];refine (cvalues_c exT.vals ⟨b,0,none⟩ 4 4 w' (by decide) hS).mono ?_;rintro e w'' ⟨u,rfl,hu,hb⟩;exact ⟨_,rfl,hb,fun _=>⟨u,rfl,hu⟩⟩
   | 9,_,ho,hun,hpre =>
    simp at ho;subst ho;refine hI.op (d:=21) hsl hst hwz rfl rfl rfl (by decide) hpre ?_;simp only [List.getElem_toArray,List.getElem_cons_zero,List.getElem_cons_succ] at hpre ⊢;obtain ⟨v12,ev12,hv12⟩:=hI.dn 0 _ 12 rfl (hpre { on:=0,ground:=Ground.data } (by simp) rfl) rfl;have qv12:=eval_of ev12;obtain ⟨v13,ev13,hv13⟩:=hI.dn 1 _ 13 rfl (hpre { on:=1,ground:=Ground.data } (by simp) rfl) rfl;have qv13:=eval_of ev13;obtain ⟨v14,ev14,hv14⟩:=hI.dn 2 _ 14 rfl (hpre { on:=2,ground:=Ground.data } (by simp) rfl) rfl;have qv14:=eval_of ev14;obtain ⟨v20,ev20,hv20⟩:=hI.dn 8 _ 20 rfl (hpre { on:=8,ground:=Ground.data } (by simp) rfl) rfl;have qv20:=eval_of ev20;obtain rfl:v12=.agg #[.string (E 77),.string ⟨#[]⟩,.string (E 4),.string (E 9)]:=hv12;obtain rfl:v13=.agg #[.bool false,.string (E 10),.bool false,.string (E 2)]:=hv13;obtain rfl:v14=.string (E 5):=hv14;have st0:done.getD 18 false=false:=Bool.eq_false_iff.2 fun h=>by rw [c9 (c10 (c13 h))] at hun;cases hun
    obtain ⟨u,rfl,hu⟩:=hv20 st0;refine wp_callX 15 #[.tmp 12,.const (.int .i64 3),.tmp 13,.tmp 14,.tmp 20] #[26,3,30,22,47] rfl (enters_of Tryz.func15 (by kernel_rfl) rfl) ?_;simp only [List.map_toArray,List.map_cons,List.map_nil,qv12,qv13,qv14,qv20,eval_const];refine (HPR.out u w' hu).mono ?_;rintro e w'' ⟨p,o,t,rfl,hp,ho,⟨x,rfl,hx⟩,hb⟩;obtain ⟨ao,c,rfl⟩:=RAt.form hx;exact ⟨_,rfl,hb,p,o,_,rfl,own_mono hp (Nat.zero_le _),own_mono ho (Nat.zero_le _),ao,_,c,rfl⟩
   | 10,_,ho,hun,hpre =>
    simp at ho;subst ho;refine hI.op (d:=11) hsl hst hwz rfl rfl rfl (by decide) hpre ?_;simp only [List.getElem_toArray,List.getElem_cons_zero,List.getElem_cons_succ] at hpre ⊢;obtain ⟨v21,ev21,hv21⟩:=hI.dn 9 _ 21 rfl (hpre { on:=9,ground:=Ground.data } (by simp) rfl) rfl;have qv21:=eval_of ev21;refine wp_val (v:=v21) (by simp [execOp,ev21,go_sem]) ?_;exact hv21
   | 11,_,ho,hun,hpre =>
    simp at ho;subst ho;refine hI.op (d:=22) hsl hst hwz rfl rfl rfl (by decide) hpre ?_;simp only [List.getElem_toArray,List.getElem_cons_zero,List.getElem_cons_succ] at hpre ⊢;obtain ⟨v11,ev11,hv11⟩:=hI.dn 10 _ 11 rfl (hpre { on:=10,ground:=Ground.data } (by simp) rfl) rfl;have qv11:=eval_of ev11;obtain ⟨p,o,t,rfl,hp,ho,hx⟩:=hv11;refine wp_val (v:=p) (by simp [execOp,ev11,go_sem]) ?_;exact hp
   | 12,_,ho,hun,hpre =>
    simp at ho;subst ho;refine hI.op (d:=23) hsl hst hwz rfl rfl rfl (by decide) hpre ?_;simp only [List.getElem_toArray,List.getElem_cons_zero,List.getElem_cons_succ] at hpre ⊢;obtain ⟨v11,ev11,hv11⟩:=hI.dn 10 _ 11 rfl (hpre { on:=10,ground:=Ground.data } (by simp) rfl) rfl;have qv11:=eval_of ev11;obtain ⟨p,o,t,rfl,hp,ho,hx⟩:=hv11;refine wp_val (v:=o) (by simp [execOp,ev11,go_sem]) ?_;exact ho
   | 13,_,ho,hun,hpre =>
    simp at ho;subst ho;refine hI.op (d:=24) hsl hst hwz rfl rfl rfl (by decide) hpre ?_;simp only [List.getElem_toArray,List.getElem_cons_zero,List.getElem_cons_succ] at hpre ⊢;obtain ⟨v11,ev11,hv11⟩:=hI.dn 10 _ 11 rfl (hpre { on:=10,ground:=Ground.data } (by simp) rfl) rfl;have qv11:=eval_of ev11;obtain ⟨p,o,t,rfl,hp,ho,hx⟩:=hv11;refine wp_val (v:=t) (by simp [execOp,ev11,go_sem]) ?_;exact hx
   | 14,_,ho,hun,hpre =>
    simp at ho;subst ho;refine hI.op (d:=25) hsl hst hwz rfl rfl rfl (by decide) hpre ?_;simp only [List.getElem_toArray,List.getElem_cons_zero,List.getElem_cons_succ] at hpre ⊢;obtain ⟨v11,ev11,hv11⟩:=hI.dn 10 _ 11 rfl (hpre { on:=10,ground:=Ground.data } (by simp) rfl) rfl;have qv11:=eval_of ev11;obtain ⟨p,o,t,rfl,hp,ho,hx⟩:=hv11;refine wp_val (v:=.int .i64 0) (by simp [execOp,ev11,go_sem]) ?_;exact rfl
   | 15,_,ho,hun,hpre =>
    simp at ho;subst ho;refine hI.op (d:=4) hsl hst hwz rfl rfl rfl (by decide) hpre ?_;simp only [List.getElem_toArray,List.getElem_cons_zero,List.getElem_cons_succ] at hpre ⊢;have hN:=Blk.new w' #[.slice none 0 0,.string ⟨#[]⟩,.int .i64 0] 47;have hbN:=b1 w' (.cells #[.slice none 0 0,.string ⟨#[]⟩,.int .i64 0] 47);simp [Oper.wp,execOp,go_sem];have st0:done.getD 18 false=false:=Bool.eq_false_iff.2 fun h=>by rw [c15 h] at hun;cases hun
    exact ⟨_,rfl,hbN,w'.heap.size,_,_,_,rfl,hwz,hN,fun h=>by rw [Array.getD_eq_getD_getElem?] at st0;rw [st0] at h;cases h⟩
   | 16,_,ho,hun,hpre =>
    simp at ho;subst ho;refine hI.op (d:=2) hsl hst hwz rfl rfl rfl (by decide) hpre ?_;simp only [List.getElem_toArray,List.getElem_cons_zero,List.getElem_cons_succ] at hpre ⊢;obtain ⟨v22,ev22,hv22⟩:=hI.dn 11 _ 22 rfl (hpre { on:=11,ground:=Ground.data } (by simp) rfl) rfl;have qv22:=eval_of ev22;refine wp_val (v:=v22) (by simp [execOp,ev22,go_sem]) ?_;exact hv22
   | 17,_,ho,hun,hpre =>
    simp at ho;subst ho;refine hI.op (d:=3) hsl hst hwz rfl rfl rfl (by decide) hpre ?_;simp only [List.getElem_toArray,List.getElem_cons_zero,List.getElem_cons_succ] at hpre ⊢;obtain ⟨v23,ev23,hv23⟩:=hI.dn 12 _ 23 rfl (hpre { on:=12,ground:=Ground.data } (by simp) rfl) rfl;have qv23:=eval_of ev23;refine wp_val (v:=v23) (by simp [execOp,ev23,go_sem]) ?_;exact hv23
   | 18,_,ho,hun,hpre =>
    simp at ho;subst ho;refine wpOp_step rfl fun K' hK=>?_
    simp only [List.getElem_toArray,List.getElem_cons_zero,List.getElem_cons_succ] at hpre ⊢;obtain ⟨v24,ev24,hv24⟩:=hI.dn 13 _ 24 rfl (hpre { on:=13,ground:=Ground.data } (by simp) rfl) rfl;have qv24:=eval_of ev24;obtain ⟨v4,ev4,hv4⟩:=hI.dn 15 _ 4 rfl (hpre { on:=15,ground:=Ground.data } (by simp) rfl) rfl;have qv4:=eval_of ev4;obtain ⟨ao,nn,cc,rfl⟩:=hv24;obtain ⟨g,y0,y1,y2,rfl,hBg,hG,_⟩:=hv4;have hGl:=hG.lt;have f0:=hG.free 0;have f1:=hG.free 1;have f2:=hG.free 2;have z0:=hG.cell 0;have z1:=hG.cell 1;have z2:=hG.cell 2;rw [if_pos (by simp [Region.wanted])];simp [Oper.wp,execOp,ev24,ev4,go_sem,f0,f1,f2,z0,z1,z2,hGl];have hi18:18<done.size:=by rw [hI.sz];decide
    have sB:∀(w:World) (i:Nat) (u:Value),Below w3.heap.size w3 w→Below w3.heap.size w3 (w.setCell ⟨g,i,none⟩ u):=fun w i u h=>h.setCell hBg u
    have hB3:Below w3.heap.size w3 (((w'.setCell ⟨g,0,none⟩ (.slice ao nn cc)).setCell ⟨g,1,none⟩ (.string ⟨#[]⟩)).setCell ⟨g,2,none⟩ (.int .i64 4)):=sB _ _ _ (sB _ _ _ (sB _ _ _ hI.bw));have h9:=hI.skip (i:=18) (v:=undef) rfl rfl hpre hB3 ?_
    ·exact hK a' _ h9
    intro j q hq hj hdn d u hd hu hv;rw [getD_set _ _ _ hi18,if_pos rfl];rw [hun] at hv;refine vAw_store hG hBg _ _ j u ?_ hv;rintro rfl;simp at hq;subst hq;cases hd
    rw [ev4] at hu;injection hu with hu
    exact hu.symm
   | 19,_,ho,hun,hpre =>
    simp at ho;subst ho;refine hI.op (d:=5) hsl hst hwz rfl rfl rfl (by decide) hpre ?_;simp only [List.getElem_toArray,List.getElem_cons_zero,List.getElem_cons_succ] at hpre ⊢;obtain ⟨v25,ev25,hv25⟩:=hI.dn 14 _ 25 rfl (hpre { on:=14,ground:=Ground.data } (by simp) rfl) rfl;have qv25:=eval_of ev25;refine wp_val (v:=v25) (by simp [execOp,ev25,go_sem]) ?_;exact hv25
  ·intro done a' w' hI hd;obtain ⟨f,hf,hv⟩:=hI.all hd;have hT:done.getD 18 false=true:=hd 18 (by decide);rw [hT] at hv;obtain ⟨g,x,y,z,e15,hBg,hG,hz⟩:=hv 15 _ 4 rfl rfl;have h16:=hv 16 _ 2 rfl rfl;have h17:=hv 17 _ 3 rfl rfl;have h19:=hv 19 _ 5 rfl rfl;obtain rfl:z=.int .i64 4:=hz rfl;subst hf;simp only [putAll,List.size_toArray,List.length_cons,List.length_nil,Nat.reduceAdd,List.getElem?_toArray,List.getElem?_cons_zero,List.getElem?_cons_succ,Option.bind_some,Act.put,List.setIfInBounds_toArray,List.set_cons_zero,List.set_cons_succ];go_wp2_with fail
   go_meet
   exact ⟨g,x,y,rfl,h19,h16,h17,hG,hI.bw⟩
 case rest =>
  obtain ⟨g,x,y,rfl,rfl,h2,h3,hG,hbc⟩:=hcut;obtain ⟨wx,hwx⟩:∃wx,wx=wc:=⟨_,rfl⟩;subst hwx;have hO4:=hO.after hbc;have hBW:=bt hb hbc;clear hO hb hbc HPR;have H67:=Lib.hid (fun w=>l27num_c 67 w (by decide));have H4:=Lib.hid (fun w=>l27num_c 4 w (by decide));have H16:=Lib.hid (fun w=>l27num_c 16 w (by decide));have hGl:=hG.lt;obtain ⟨hGc0,hGf0,hGc1,hGf1,hGc2,hGf2⟩:=hG.x3;go_wp2_with fail
  refine (H67.out _).mono ?_;rintro e wa ⟨rfl,hba⟩;go_wp2_with fail
  refine (H4.out _).mono ?_;rintro e wb ⟨rfl,hbb⟩;go_wp2_with fail
  refine (H4.out _).mono ?_;rintro e wd ⟨rfl,hbd⟩;go_wp2_with fail
  refine (H16.out _).mono ?_;rintro e we ⟨rfl,hbe⟩;have hbx:=bt (bt (bt hba hbb) hbd) hbe;have hO5:=hO4.after hbx;have h25:=own_after h2 hbx;have h35:=own_after h3 hbx;have hB5:=bt hBW hbx;have hN:=Blk.new we #[.string (E 67),.string (E 4),.string (E 4),.string (E 16)] 22;have hNb:=b1 we (.cells #[.string (E 67),.string (E 4),.string (E 4),.string (E 16)] 22);have hSS:SsAt (we.alloc (.cells #[.string (E 67),.string (E 4),.string (E 4),.string (E 16)] 22)) (.slice (some ⟨we.heap.size,0,none⟩) 4 4) (exP.map E):=ss_own (base:=0) (exP.map E) rfl (own_blk hN rfl (by decide));have h26:=NOwn.ss (own_after h25 hNb);have h36:=own_after h35 hNb;have hO6:=hO5.after hNb;have hB6:=bt hB5 hNb;clear hba hbb hbd hbe hbx hO4 hO5 h25 h35 hB5 hBW hN hNb hG;go_wp2_with fail
  refine (sameNats_cV exP exP _ _ true _ (by decide) (by decide) h26 hSS (by decide)).mono ?_;rintro e wf ⟨rfl,hbf⟩;have hO7:=hO6.after hbf;have h37:=own_after h36 hbf;have hB7:=bt hB6 hbf;clear hO6 h36 hB6 hbf h26 hSS;go_upto_region 5 with fail
  have HWT:Hid (∀w,OOwn w 0 u3 exO→Calls Tryz.prog 11 #[.agg #[.string (E 77),.string ⟨#[]⟩,.string (E 4),.string (E 9)],.int .i64 3,.agg #[.bool false,.string (E 10),.bool false,.string (E 2)],u3] w (WtPost w (0,exW))):=fun w ho=>by
   have hz:∀n k:Nat,n<256^k→(E n).size≤k:=fun n k h=>(E_size_le n k).2 h
   have h:=sqwit_c (E 77) (E 0) (E 4) (E 9) 3 false (E 10) false (E 2) (exO.map nop) u3 w (hz 77 8 (by decide)) (Nat.le_trans (hz 0 8 (by decide)) (by decide)) (Nat.le_trans (hz 4 8 (by decide)) (by decide)) (Nat.le_trans (hz 9 8 (by decide)) (by decide)) (hz 10 12 (by decide)) (hz 2 12 (by decide)) (by decide) (by
    intro q hq;obtain ⟨p,hp,rfl⟩:=List.mem_map.1 hq;have hp:p∈[(2,1),(1,0),(1,0),(1,2)]:=hp;simp only [List.mem_cons,List.not_mem_nil,or_false] at hp;rcases hp with rfl | rfl | rfl | rfl <;> exact ⟨hz _ 12 (by decide),hz _ 12 (by decide)⟩) ho.os
   rw [ex_wit] at h;exact h
  go_cut [6,7] (fun s6 s7 wy=>s7=.int .i64 0∧ZsAt wy s6 exW∧Below wf.heap.size wf wy)
  case first =>
   refine wp_region_inv (vAx u3) 99 66 (by kernel_rfl) rfl (by kernel_rfl) ?_ ?_ (by kernel_rfl)
   ·intro hsl done a' w' i o hI ho hun hpre;have hi:=(Array.getElem?_eq_some_iff.1 ho).1;have hst:=vAx_st u3;have hwz:=hI.bw.size;match i,hi,ho,hun,hpre with
    | 0,_,ho,hun,hpre =>
     simp at ho;subst ho;refine hI.op (d:=44) hsl hst hwz rfl rfl rfl (by decide) hpre ?_;simp only [List.getElem_toArray,List.getElem_cons_zero,List.getElem_cons_succ] at hpre ⊢;refine wp_callX 38 #[] #[] rfl (enters_of Tryz.func38 (by kernel_rfl) rfl) ?_;simp only [List.map_toArray,List.map_nil];refine (l27key_c w').mono ?_;rintro e w'' ⟨rfl,hb⟩;exact ⟨_,rfl,hb,rfl⟩
    | 1,_,ho,hun,hpre =>
     simp at ho;subst ho;refine hI.op (d:=45) hsl hst hwz rfl rfl rfl (by decide) hpre ?_;simp only [List.getElem_toArray,List.getElem_cons_zero,List.getElem_cons_succ] at hpre ⊢;have q1:=hI.keep 1 (.pointer (some ⟨gO,0,none⟩)) rfl (by kernel_rfl);have hOx:=hO7.after hI.bw;have hOl:=hOx.lt;have x0:=hOx.cell 0;have x1:=hOx.cell 1;have x2:=hOx.cell 2;have x3:=hOx.cell 3;refine wp_val (v:=.agg #[.bool false,.string (E 10),.bool false,.string (E 2)]) (by simp [execOp,q1,go_sem,x0,x1,x2,x3]) rfl
    | 2,_,ho,hun,hpre =>
     simp at ho;subst ho;refine hI.op (d:=46) hsl hst hwz rfl rfl rfl (by decide) hpre ?_;simp only [List.getElem_toArray,List.getElem_cons_zero,List.getElem_cons_succ] at hpre ⊢;have q3:=hI.keep 3 u3 rfl (by kernel_rfl);refine wp_val (v:=u3) (by simp [execOp,q3,go_sem]) rfl
    | 3,_,ho,hun,hpre =>
     simp at ho;subst ho;refine hI.op (d:=47) hsl hst hwz rfl rfl rfl (by decide) hpre ?_;simp only [List.getElem_toArray,List.getElem_cons_zero,List.getElem_cons_succ] at hpre ⊢;obtain ⟨v44,ev44,hv44⟩:=hI.dn 0 _ 44 rfl (hpre { on:=0,ground:=Ground.data } (by simp) rfl) rfl;have qv44:=eval_of ev44;obtain ⟨v45,ev45,hv45⟩:=hI.dn 1 _ 45 rfl (hpre { on:=1,ground:=Ground.data } (by simp) rfl) rfl;have qv45:=eval_of ev45;obtain ⟨v46,ev46,hv46⟩:=hI.dn 2 _ 46 rfl (hpre { on:=2,ground:=Ground.data } (by simp) rfl) rfl;have qv46:=eval_of ev46;obtain rfl:v44=.agg #[.string (E 77),.string ⟨#[]⟩,.string (E 4),.string (E 9)]:=hv44;obtain rfl:v45=.agg #[.bool false,.string (E 10),.bool false,.string (E 2)]:=hv45;obtain rfl:v46=u3:=hv46;refine wp_callX 11 #[.tmp 44,.const (.int .i64 3),.tmp 45,.tmp 46] #[26,3,30,33] rfl (enters_of Tryz.func11 (by kernel_rfl) rfl) ?_;simp only [List.map_toArray,List.map_cons,List.map_nil,qv44,qv45,qv46,eval_const];refine (HWT.out w' (own_after h37 hI.bw)).mono ?_;rintro e w'' ⟨z,rfl,hz,hb⟩;exact ⟨_,rfl,hb,z,rfl,hz⟩
    | 4,_,ho,hun,hpre =>
     simp at ho;subst ho;refine hI.op (d:=43) hsl hst hwz rfl rfl rfl (by decide) hpre ?_;simp only [List.getElem_toArray,List.getElem_cons_zero,List.getElem_cons_succ] at hpre ⊢;obtain ⟨v47,ev47,hv47⟩:=hI.dn 3 _ 47 rfl (hpre { on:=3,ground:=Ground.data } (by simp) rfl) rfl;have qv47:=eval_of ev47;refine wp_val (v:=v47) (by simp [execOp,ev47,go_sem]) ?_;exact hv47
    | 5,_,ho,hun,hpre =>
     simp at ho;subst ho;refine hI.op (d:=48) hsl hst hwz rfl rfl rfl (by decide) hpre ?_;simp only [List.getElem_toArray,List.getElem_cons_zero,List.getElem_cons_succ] at hpre ⊢;obtain ⟨v43,ev43,hv43⟩:=hI.dn 4 _ 43 rfl (hpre { on:=4,ground:=Ground.data } (by simp) rfl) rfl;have qv43:=eval_of ev43;obtain ⟨z,rfl,hz⟩:=hv43;refine wp_val (v:=z) (by simp [execOp,ev43,go_sem]) ?_;exact hz
    | 6,_,ho,hun,hpre =>
     simp at ho;subst ho;refine hI.op (d:=49) hsl hst hwz rfl rfl rfl (by decide) hpre ?_;simp only [List.getElem_toArray,List.getElem_cons_zero,List.getElem_cons_succ] at hpre ⊢;obtain ⟨v43,ev43,hv43⟩:=hI.dn 4 _ 43 rfl (hpre { on:=4,ground:=Ground.data } (by simp) rfl) rfl;have qv43:=eval_of ev43;obtain ⟨z,rfl,hz⟩:=hv43;refine wp_val (v:=.int .i64 0) (by simp [execOp,ev43,go_sem]) ?_;exact rfl
    | 7,_,ho,hun,hpre =>
     simp at ho;subst ho;refine hI.op (d:=6) hsl hst hwz rfl rfl rfl (by decide) hpre ?_;simp only [List.getElem_toArray,List.getElem_cons_zero,List.getElem_cons_succ] at hpre ⊢;obtain ⟨v48,ev48,hv48⟩:=hI.dn 5 _ 48 rfl (hpre { on:=5,ground:=Ground.data } (by simp) rfl) rfl;have qv48:=eval_of ev48;refine wp_val (v:=v48) (by simp [execOp,ev48,go_sem]) ?_;exact hv48
    | 8,_,ho,hun,hpre =>
     simp at ho;subst ho;refine hI.op (d:=7) hsl hst hwz rfl rfl rfl (by decide) hpre ?_;simp only [List.getElem_toArray,List.getElem_cons_zero,List.getElem_cons_succ] at hpre ⊢;obtain ⟨v49,ev49,hv49⟩:=hI.dn 6 _ 49 rfl (hpre { on:=6,ground:=Ground.data } (by simp) rfl) rfl;have qv49:=eval_of ev49;refine wp_val (v:=v49) (by simp [execOp,ev49,go_sem]) ?_;exact hv49
   ·intro done a' w' hI hd;obtain ⟨f,hf,hv⟩:=hI.all hd;have h7:=hv 7 _ 6 rfl rfl;have h8:=hv 8 _ 7 rfl rfl;subst hf;simp only [putAll,List.size_toArray,List.length_cons,List.length_nil,Nat.reduceAdd,List.getElem?_toArray,List.getElem?_cons_zero,List.getElem?_cons_succ,Option.bind_some,Act.put,List.setIfInBounds_toArray,List.set_cons_zero,List.set_cons_succ];go_wp2_with fail
    go_meet
    exact ⟨h8,h7,hI.bw⟩
  case rest =>
   obtain ⟨rfl,hZ,hbc⟩:=hcut;obtain ⟨wy,hwy⟩:∃wy,wy=wc:=⟨_,rfl⟩;subst hwy;have hB8:=bt hB7 hbc;clear hB7 hbc hO7 h37 HWT h2 h3;have K2:=Lib.hid (fun w=>HW.out 2 w (by decide));have K1:=Lib.hid (fun w=>HW.out 1 w (by decide));have K0:=Lib.hid (fun w=>HW.out 0 w (by decide));have KM:Hid (∀w,Calls Tryz.prog 26 #[.int .i64 (-2)] w fun e w'=>e=.returned (.agg #[.bool true,.string (E 2)])∧Below w.heap.size w w'):=fun w=>l27whole_c (-2) w (by decide) (by decide)
   clear HW;go_wp2_with fail
   refine (K2.out _).mono ?_;rintro e y0 ⟨rfl,hz0⟩;have hR0:=bt hB8 hz0;have hZ0:=ZsAt.after hZ hz0;clear hz0 hB8 hZ;go_wp2_with fail
   refine (K1.out _).mono ?_;rintro e y1 ⟨rfl,hz1⟩;have hR1:=bt hR0 hz1;have hZ1:=ZsAt.after hZ0 hz1;clear hz1 hR0 hZ0;go_wp2_with fail
   refine (K1.out _).mono ?_;rintro e y2 ⟨rfl,hz2⟩;have hR2:=bt hR1 hz2;have hZ2:=ZsAt.after hZ1 hz2;clear hz2 hR1 hZ1;go_wp2_with fail
   refine (K0.out _).mono ?_;rintro e y3 ⟨rfl,hz3⟩;have hR3:=bt hR2 hz3;have hZ3:=ZsAt.after hZ2 hz3;clear hz3 hR2 hZ2;go_wp2_with fail
   refine (K1.out _).mono ?_;rintro e y4 ⟨rfl,hz4⟩;have hR4:=bt hR3 hz4;have hZ4:=ZsAt.after hZ3 hz4;clear hz4 hR3 hZ3;go_wp2_with fail
   refine (K0.out _).mono ?_;rintro e y5 ⟨rfl,hz5⟩;have hR5:=bt hR4 hz5;have hZ5:=ZsAt.after hZ4 hz5;clear hz5 hR4 hZ4;go_wp2_with fail
   refine (K1.out _).mono ?_;rintro e y6 ⟨rfl,hz6⟩;have hR6:=bt hR5 hz6;have hZ6:=ZsAt.after hZ5 hz6;clear hz6 hR5 hZ5;go_wp2_with fail
   refine (K2.out _).mono ?_;rintro e y7 ⟨rfl,hz7⟩;have hR7:=bt hR6 hz7;have hZ7:=ZsAt.after hZ6 hz7;clear hz7 hR6 hZ6;go_wp2_with fail
   refine (KM.out _).mono ?_;rintro e y8 ⟨rfl,hz8⟩;have hR8:=bt hR7 hz8;have hZ8:=ZsAt.after hZ7 hz8;clear hz8 hR7 hZ7;have hI9:=Blk.new y8 #[.bool false,.string (E 2),.bool false,.string (E 1),.bool false,.string (E 1),.bool false,.string (E 0),.bool false,.string (E 1),.bool false,.string (E 0),.bool false,.string (E 1),.bool false,.string (E 2),.bool true,.string (E 2)] 28;have hI9b:=b1 y8 (.cells #[.bool false,.string (E 2),.bool false,.string (E 1),.bool false,.string (E 1),.bool false,.string (E 0),.bool false,.string (E 1),.bool false,.string (E 0),.bool false,.string (E 1),.bool false,.string (E 2),.bool true,.string (E 2)] 28);have hZ9:=ZsAt.after hZ8 hI9b;have hR9:=bt hR8 hI9b;have hZB:ZsAt (y8.alloc (.cells #[.bool false,.string (E 2),.bool false,.string (E 1),.bool false,.string (E 1),.bool false,.string (E 0),.bool false,.string (E 1),.bool false,.string (E 0),.bool false,.string (E 1),.bool false,.string (E 2),.bool true,.string (E 2)] 28)) (.slice (some ⟨y8.heap.size,0,none⟩) 9 9) exW:=is_blk (exW.map zI) rfl hI9;clear hR8 hZ8 hI9 hI9b;go_wp2_with fail
   refine (sameInts_c exW _ _ _ (by decide) hZ9 hZB).mono ?_;rintro e yz ⟨rfl,hbz⟩;go_wp2_with fail
   refine bodyPost_ret (v:=.bool true) ?_ rfl ⟨rfl,bt hR9 hbz⟩;simp [results,Tryz.results10,go_sem]
end Go.Proofs.YtfgandecbkbleaaGreatDoor
