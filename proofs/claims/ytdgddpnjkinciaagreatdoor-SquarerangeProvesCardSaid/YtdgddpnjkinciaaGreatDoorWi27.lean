/- SquarerangeWitnesses: the law. -/
import Derived.Great.BuildSlice
import Derived.Test.YtdgddpnjkinciaaGreatDoorRq0
set_option linter.all false
set_option maxRecDepth 100000
set_option maxHeartbeats 16000000
namespace Go.Proofs.YtdgddpnjkinciaaGreatDoor
section
open Go.RowKit Go.Shelf
theorem kL_eq:(kL.map (Value.int .u32))=u32f kC 64:=by rfl
theorem iL_eq:[Value.int .u32 1779033703,Value.int .u32 3144134277,Value.int .u32 1013904242,Value.int .u32 2773480762,Value.int .u32 1359893119,Value.int .u32 2600822924,Value.int .u32 528734635,Value.int .u32 1541459225]=u32f iC 8:=by rfl
theorem pconstants_v (w:World):Calls Tryz.prog 233 #[] w fun e w'=>e=.returned (.agg (u32f kC 64).toArray)∧Bw w w':=by
 go_enter Tryz.func233,Tryz.ntmps233
 go_upto_region 1 with fail
 obtain⟨Z,hZ⟩:∃Z:Array Value,Z=#[.int .u32 0,.int .u32 0,.int .u32 0,.int .u32 0,.int .u32 0,.int .u32 0,.int .u32 0,.int .u32 0,.int .u32 0,.int .u32 0,.int .u32 0,.int .u32 0,.int .u32 0,.int .u32 0,.int .u32 0,.int .u32 0,.int .u32 0,.int .u32 0,.int .u32 0,.int .u32 0,.int .u32 0,.int .u32 0,.int .u32 0,.int .u32 0,.int .u32 0,.int .u32 0,.int .u32 0,.int .u32 0,.int .u32 0,.int .u32 0,.int .u32 0,.int .u32 0,.int .u32 0,.int .u32 0,.int .u32 0,.int .u32 0,.int .u32 0,.int .u32 0,.int .u32 0,.int .u32 0,.int .u32 0,.int .u32 0,.int .u32 0,.int .u32 0,.int .u32 0,.int .u32 0,.int .u32 0,.int .u32 0,.int .u32 0,.int .u32 0,.int .u32 0,.int .u32 0,.int .u32 0,.int .u32 0,.int .u32 0,.int .u32 0,.int .u32 0,.int .u32 0,.int .u32 0,.int .u32 0,.int .u32 0,.int .u32 0,.int .u32 0,.int .u32 0]:=⟨_,rfl⟩;rw[←hZ];have HZ:Hid (Z.toList=u32f (fun _=>0) 64):=by rw[Hid,hZ];exact z64
 clear hZ;have hR:Blk (w.alloc (.cells Z 270)) w.heap.size 270 (u32f (fun _=>0) 64):=(Blk.new w Z 270).as HZ.out;have hb:=b1 w (.cells Z 270);generalize w.alloc (.cells Z 270)=w1 at hR hb ⊢;clear HZ;apply wp_region_lit
 refine wpList_buildFlatArr rfl 270 239 64 _ rfl .u32 kL Tryz.underlying270 (by kernel_rfl) (by kernel_rfl) (by kernel_rfl) ?_;rw[kL_eq];refine wpList_store_row rfl 270 (.tmp 0) (.tmp 1) rfl w.heap.size _ rfl rfl 270 _ hR (size_w64 _) (by simp[u32f]) (u32f_one _ _) ?_;apply wpList_nil
 go_wp2;refine bodyPost_ret (v:=.agg (u32f kC 64).toArray) ?_ rfl ⟨rfl,setRow_below hb (Nat.le_refl _)⟩;exact results_cell_row (p:=0) (ty:=270) rfl _ _ w.heap.size 270 _ (0,0) _ rfl (setRow_heap _ _ _ _ _ _ hR) Tryz.underlying270 rfl (size_w64 _)
theorem size_s8 (F:Nat→Int):(Tryz.prog.info? 263).map (·.size)=some (u32f F 8).toArray.size:=by
 rw[show (u32f F 8).toArray.size=8 by simp[u32f]];kernel_rfl
theorem pfirst_v (w:World):Calls Tryz.prog 224 #[] w fun e w'=>e=.returned (.agg (u32f iC 8).toArray)∧Bw w w':=by
 go_enter Tryz.func224,Tryz.ntmps224
 go_wp2;have h:=(Blk.new w #[Value.int IntKind.u32 1779033703,Value.int IntKind.u32 3144134277,Value.int IntKind.u32 1013904242,Value.int IntKind.u32 2773480762,Value.int IntKind.u32 1359893119,Value.int IntKind.u32 2600822924,Value.int IntKind.u32 528734635,Value.int IntKind.u32 1541459225] 263).as iL_eq;refine bodyPost_ret (v:=.agg (u32f iC 8).toArray) ?_ rfl ⟨rfl,b1 w _⟩;exact results_cell_row (p:=0) (ty:=263) rfl _ _ w.heap.size 263 _ (0,0) _ rfl h Tryz.underlying263 rfl (size_s8 _)
end
section
/- law 27's awake returns true. -/
open Go.RowKit Go.Shelf
def vAw (B gO:Nat):RV:=fun st i v w=>match i with
 | 0=>v=.agg #[.string (E 77),.string ⟨#[]⟩,.string (E 4),.string (E 9)]
 | 1=>v=.agg #[.bool false,.string (E 10),.bool false,.string (E 2)]
 | 2=>v=.string (E 5)
 | 3=>v=.string (E 1)
 | 4=>v=.string (E 0)
 | 5=>v=.string (E 0)
 | 6=>v=.string (E 2)
 | 7=>st=false→∃b,v=.slice (some ⟨b,0,none⟩) 4 4∧SsAt w v exT.vals
 | 8=>st=false→∃u,v=.agg #[u,.string ⟨#[]⟩,.int .i64 0]∧SsAt w u exT.vals
 | 9=>∃p o t,v=.tuple #[p,o,t,.int .i64 0]∧NOwn w 0 p exP∧OOwn w 0 o exO∧∃ao n c,t=.agg #[.slice ao n c,.string ⟨#[]⟩,.int .i64 4]
 | 10=>∃p o t,v=.tuple #[p,o,t,.int .i64 0]∧NOwn w 0 p exP∧OOwn w 0 o exO∧∃ao n c,t=.agg #[.slice ao n c,.string ⟨#[]⟩,.int .i64 4]
 | 11=>NOwn w 0 v exP
 | 12=>OOwn w 0 v exO
 | 13=>∃ao n c,v=.agg #[.slice ao n c,.string ⟨#[]⟩,.int .i64 4]
 | 14=>v=.int .i64 0
 | 15=>∃g x y z,v=.pointer (some ⟨g,0,none⟩)∧B≤g∧Blk w g 35 [x,y,z]∧(st=true→z=.int .i64 4)
 | 16=>NOwn w 0 v exP
 | 17=>OOwn w 0 v exO
 | 19=>v=.int .i64 0
 | _=>True
theorem vAw_st (B gO:Nat):∀b j u w w',Bw w w'→vAw B gO b j u w→vAw B gO b j u w':=by
 intro b j u w w' hb h;unfold vAw at h ⊢;split at h
 all_goals first
  | exact h
  | (intro h0;obtain⟨x,h1,h2⟩:=h h0;exact⟨x,h1,SsAt.after h2 hb⟩)
  | (obtain⟨p,o,t,h1,h2,h3,h4⟩:=h;exact⟨p,o,t,h1,own_after h2 hb,own_after h3 hb,h4⟩)
  | exact own_after h hb
  | (obtain⟨g,x,y,z,h1,h2,h3,h4⟩:=h;exact⟨g,x,y,z,h1,h2,h3.after hb,h4⟩)
theorem vAw_store {B gO g:Nat} {w:World} {y0 y1 y2:Value} (hG:Blk w g 35 [y0,y1,y2]) (hB:B≤g) (x0 x1:Value):∀(j:Nat) (u:Value),(j=15→u=.pointer (some ⟨g,0,none⟩))→vAw B gO false j u w→vAw B gO true j u (((w.setCell ⟨g,0,none⟩ x0).setCell ⟨g,1,none⟩ x1).setCell ⟨g,2,none⟩ (.int .i64 4)):=by
 intro j u hb h;have hN:∀{v l},NOwn w 0 v l→NOwn (((w.setCell ⟨g,0,none⟩ x0).setCell ⟨g,1,none⟩ x1).setCell ⟨g,2,none⟩ (.int .i64 4)) 0 v l:=fun h=>own_set (own_set (own_set h (own_ne h hG (by decide))) (own_ne h hG (by decide))) (own_ne h hG (by decide))
 have hO:∀{v l},OOwn w 0 v l→OOwn (((w.setCell ⟨g,0,none⟩ x0).setCell ⟨g,1,none⟩ x1).setCell ⟨g,2,none⟩ (.int .i64 4)) 0 v l:=fun h=>own_set (own_set (own_set h (own_ne h hG (by decide))) (own_ne h hG (by decide))) (own_ne h hG (by decide))
 unfold vAw at h ⊢;split at h
 all_goals first
  | exact h
  | exact hN h
  | exact hO h
  | (intro h0;cases h0;done)
  | (obtain⟨p,o,t,h1,h2,h3,h4⟩:=h;exact⟨p,o,t,h1,hN h2,hO h3,h4⟩)
  | exact⟨g,_,_,_,hb rfl,hB,((hG.set 0 x0).set 1 x1).set 2 (.int .i64 4),fun _=>rfl⟩
def vAx (u3:Value):RV:=fun _ i v w=>match i with
 | 0=>v=.agg #[.string (E 77),.string ⟨#[]⟩,.string (E 4),.string (E 9)]
 | 1=>v=.agg #[.bool false,.string (E 10),.bool false,.string (E 2)]
 | 2=>v=u3
 | 3=>∃z,v=.tuple #[z,.int .i64 0]∧ZsAt w z exW
 | 4=>∃z,v=.tuple #[z,.int .i64 0]∧ZsAt w z exW
 | 5=>ZsAt w v exW
 | 6=>v=.int .i64 0
 | 7=>ZsAt w v exW
 | 8=>v=.int .i64 0
 | _=>True
theorem vAx_st (u3:Value):∀b j u w w',Bw w w'→vAx u3 b j u w→vAx u3 b j u w':=by
 intro b j u w w' hb h;unfold vAx at h ⊢;split at h
 all_goals first
  | exact h
  | (obtain⟨z,h1,h2⟩:=h;exact⟨z,h1,ZsAt.after h2 hb⟩)
  | exact ZsAt.after h hb
theorem awake27_c (w:World):Calls Tryz.prog 6 #[] w fun e w'=>e=.returned (.bool true)∧Bw w w':=by
 have HW:Hid (∀(n:Nat) (w:World),n<9223372036854775807→Calls Tryz.prog 15 #[.int .i64 (n:Int)] w fun e w'=>e=.returned (.agg #[.bool false,.string (E n)])∧Bw w w'):=fun n w hn=>by
  have h:=l27whole_c (n:Int) w (by omega) (by omega);rwa [sg_nat,Int.natAbs_natCast]at h
 have Hm:=Kh (fun w=>HW.out 10 w (by decide));have H2:=Kh (fun w=>HW.out 2 w (by decide));go_enter Tryz.func6,Tryz.ntmps6
 go_wp2_with fail
 refine (Hm.out _).mono ?_;rintro e w1 ⟨rfl,Hn⟩;go_wp2_with fail
 refine (H2.out _).mono ?_;rintro e w2 ⟨rfl,Ho⟩;have hO:=Blk.new w2 #[.bool false,.string (E 10),.bool false,.string (E 2)] 30;have hb:=ba (bt Hn Ho) (.cells #[.bool false,.string (E 10),.bool false,.string (E 2)] 30);clear Hn Ho Hm H2;go_upto_region 2 with fail
 generalize w2.alloc (.cells #[.bool false,.string (E 10),.bool false,.string (E 2)] 30)=w3 at hO hb ⊢;obtain⟨gO,Hp⟩:∃g,w2.heap.size=g:=⟨_,rfl⟩;rw[Hp]at hO ⊢;replace hO:Blk w3 gO 30 [.bool false,.string (E 10),.bool false,.string (E 2)]:=hO;clear Hp
 have Hq:Hid (∀(u:Value) (w:World),SsAt w u exT.vals→Calls Tryz.prog 16 #[.agg #[.string (E 77),.string ⟨#[]⟩,.string (E 4),.string (E 9)],.int .i64 3,.agg #[.bool false,.string (E 10),.bool false,.string (E 2)],.string (E 5),.agg #[u,.string ⟨#[]⟩,.int .i64 0]] w (PrPost w ⟨0,exP,exO,exT.on 4⟩)):=fun u w hu=>by
  have hz:∀n k:Nat,n<256^k→(E n).size≤k:=fun n k h=>(E_size_le n k).2 h
  have h:=sqprep_c (fun _ _ _ _=>0) (E 77) (E 0) (E 4) (E 9) 3 false (E 10) false (E 2) (E 5) exT u w (fun h=>absurd rfl h) exT_ok (hz 77 8 (by decide)) (Nat.le_trans (hz 0 8 (by decide)) (by decide)) (Nat.le_trans (hz 4 8 (by decide)) (by decide)) (Nat.le_trans (hz 9 8 (by decide)) (by decide)) (hz 10 12 (by decide)) (hz 2 12 (by decide)) (hz 5 12 (by decide)) (by decide) (by decide) hu;rw[ex_pr]at h;exact h
 go_cut [2,3,4,5] (fun s2 s3 s4 s5 wx=>∃g x y,s4=.pointer (some ⟨g,0,none⟩)∧s5=.int .i64 0∧NOwn wx 0 s2 exP∧OOwn wx 0 s3 exO∧Blk wx g 35 [x,y,.int .i64 4]∧Bw w3 wx)
 case first =>
  refine wp_region_inv (vAw w3.heap.size gO) 18 66 (by kernel_rfl) rfl (by kernel_rfl) ?_ ?_ (by kernel_rfl)
  ·intro hh done a' w' i o hI ho he hc;have hi:i<20:=(Array.getElem?_eq_some_iff.1 ho).1;have hk:=vAw_st w3.heap.size gO;have hg:=hI.bw.size;have c13:done.getD 18 false=true→done.getD 13 false=true:=fun h=>hI.pr 18 _ rfl h ⟨13,.data⟩ (by simp) rfl
   have c15:done.getD 18 false=true→done.getD 15 false=true:=fun h=>hI.pr 18 _ rfl h ⟨15,.data⟩ (by simp) rfl
   have c10:done.getD 13 false=true→done.getD 10 false=true:=fun h=>hI.pr 13 _ rfl h ⟨10,.data⟩ (by simp) rfl
   have c9:done.getD 10 false=true→done.getD 9 false=true:=fun h=>hI.pr 10 _ rfl h ⟨9,.data⟩ (by simp) rfl
   have c8:done.getD 9 false=true→done.getD 8 false=true:=fun h=>hI.pr 9 _ rfl h ⟨8,.data⟩ (by simp) rfl
   match i,hi,ho,he,hc with
   | 0,_,ho,he,hc =>
    simp at ho;subst ho;refine hI.op (d:=12) hh hk hg rfl rfl rfl (by decide) hc ?_;refine wp_callX 17 #[] #[] rfl (enters_of Tryz.func17 (by kernel_rfl) rfl) ?_;simp only[List.map_toArray,List.map_nil];refine (l27key_c w').mono ?_;rintro e w'' ⟨rfl,hb⟩;exact⟨_,rfl,hb,rfl⟩
   | 1,_,ho,he,hc =>
    simp at ho;subst ho;refine hI.op (d:=13) hh hk hg rfl rfl rfl (by decide) hc ?_;have q1:=hI.keep 1 (.pointer (some ⟨gO,0,none⟩)) rfl (by kernel_rfl);have hm:=hO.after hI.bw;have H6:=hm.lt;have x0:=hm.cell 0;have x1:=hm.cell 1;have x2:=hm.cell 2;have x3:=hm.cell 3;refine wp_val (v:=.agg #[.bool false,.string (E 10),.bool false,.string (E 2)]) (by simp[execOp,q1,go_sem,x0,x1,x2,x3]) rfl
   | 2,_,ho,he,hc =>
    simp at ho;subst ho;refine hI.op (d:=14) hh hk hg rfl rfl rfl (by decide) hc ?_;refine wp_callX 9 #[.const (.int .u64 5)] #[50] rfl (enters_of Tryz.func9 (by kernel_rfl) rfl) ?_;simp only[List.map_toArray,List.map_cons,List.map_nil,eval_const];refine (l27num_c 5 w' (by decide)).mono ?_;rintro e w'' ⟨rfl,hb⟩;exact⟨_,rfl,hb,rfl⟩
   | 3,_,ho,he,hc =>
    simp at ho;subst ho;refine hI.op (d:=15) hh hk hg rfl rfl rfl (by decide) hc ?_;refine wp_callX 9 #[.const (.int .u64 1)] #[50] rfl (enters_of Tryz.func9 (by kernel_rfl) rfl) ?_;simp only[List.map_toArray,List.map_cons,List.map_nil,eval_const];refine (l27num_c 1 w' (by decide)).mono ?_;rintro e w'' ⟨rfl,hb⟩;exact⟨_,rfl,hb,rfl⟩
   | 4,_,ho,he,hc =>
    simp at ho;subst ho;refine hI.op (d:=16) hh hk hg rfl rfl rfl (by decide) hc ?_;refine wp_callX 9 #[.const (.int .u64 0)] #[50] rfl (enters_of Tryz.func9 (by kernel_rfl) rfl) ?_;simp only[List.map_toArray,List.map_cons,List.map_nil,eval_const];refine (l27num_c 0 w' (by decide)).mono ?_;rintro e w'' ⟨rfl,hb⟩;exact⟨_,rfl,hb,rfl⟩
   | 5,_,ho,he,hc =>
    simp at ho;subst ho;refine hI.op (d:=17) hh hk hg rfl rfl rfl (by decide) hc ?_;refine wp_callX 9 #[.const (.int .u64 0)] #[50] rfl (enters_of Tryz.func9 (by kernel_rfl) rfl) ?_;simp only[List.map_toArray,List.map_cons,List.map_nil,eval_const];refine (l27num_c 0 w' (by decide)).mono ?_;rintro e w'' ⟨rfl,hb⟩;exact⟨_,rfl,hb,rfl⟩
   | 6,_,ho,he,hc =>
    simp at ho;subst ho;refine hI.op (d:=18) hh hk hg rfl rfl rfl (by decide) hc ?_;refine wp_callX 9 #[.const (.int .u64 2)] #[50] rfl (enters_of Tryz.func9 (by kernel_rfl) rfl) ?_;simp only[List.map_toArray,List.map_cons,List.map_nil,eval_const];refine (l27num_c 2 w' (by decide)).mono ?_;rintro e w'' ⟨rfl,hb⟩;exact⟨_,rfl,hb,rfl⟩
   | 7,_,ho,he,hc =>
    simp at ho;subst ho;refine hI.op (d:=19) hh hk hg rfl rfl rfl (by decide) hc ?_;obtain⟨v15,ev15,hD⟩:=hI.dn 3 _ 15 rfl (hc ⟨3,.data⟩ (by simp) rfl) rfl;have qv15:=eval_of ev15;obtain⟨v16,ev16,hE⟩:=hI.dn 4 _ 16 rfl (hc ⟨4,.data⟩ (by simp) rfl) rfl;have qv16:=eval_of ev16;obtain⟨v17,ev17,hF⟩:=hI.dn 5 _ 17 rfl (hc ⟨5,.data⟩ (by simp) rfl) rfl;have qv17:=eval_of ev17;obtain⟨v18,ev18,hH⟩:=hI.dn 6 _ 18 rfl (hc ⟨6,.data⟩ (by simp) rfl) rfl;have qv18:=eval_of ev18;obtain rfl:v15=.string (E 1):=hD;obtain rfl:v16=.string (E 0):=hE;obtain rfl:v17=.string (E 0):=hF;obtain rfl:v18=.string (E 2):=hH;have hN:=Blk.new w' #[.string (E 1),.string (E 0),.string (E 0),.string (E 2)] 22;have hB:SsAt (w'.alloc (.cells #[.string (E 1),.string (E 0),.string (E 0),.string (E 2)] 22)) (.slice (some ⟨w'.heap.size,0,none⟩) 4 4) exT.vals:=ss_own (base:=0) exT.vals rfl (own_blk hN rfl (by decide));simp[Oper.wp,execOp,ev15,ev16,ev17,ev18,go_sem];exact⟨_,rfl,b1 _ _,fun _=>⟨w'.heap.size,rfl,hB⟩⟩
   | 8,_,ho,he,hc =>
    simp at ho;subst ho;refine hI.op (d:=20) hh hk hg rfl rfl rfl (by decide) hc ?_;obtain⟨v19,ev19,hJ⟩:=hI.dn 7 _ 19 rfl (hc ⟨7,.data⟩ (by simp) rfl) rfl;have qv19:=eval_of ev19;have st0:done.getD 18 false=false:=Bool.eq_false_iff.2 fun h=>by rw[c8 (c9 (c10 (c13 h)))]at he;cases he
    obtain⟨b,rfl,hS⟩:=hJ st0;refine wp_callX 18 #[.tmp 19] #[33] rfl (enters_of Tryz.func18 (by kernel_rfl) rfl) ?_;simp only[List.map_toArray,List.map_cons,List.map_nil,qv19];refine (cvalues_c exT.vals ⟨b,0,none⟩ 4 4 w' (by decide) hS).mono ?_;rintro e w'' ⟨u,rfl,hu,hb⟩;exact⟨_,rfl,hb,fun _=>⟨u,rfl,hu⟩⟩
   | 9,_,ho,he,hc =>
    simp at ho;subst ho;refine hI.op (d:=21) hh hk hg rfl rfl rfl (by decide) hc ?_;obtain⟨v12,ev12,hL⟩:=hI.dn 0 _ 12 rfl (hc ⟨0,.data⟩ (by simp) rfl) rfl;have qv12:=eval_of ev12;obtain⟨v13,ev13,hM⟩:=hI.dn 1 _ 13 rfl (hc ⟨1,.data⟩ (by simp) rfl) rfl;have qv13:=eval_of ev13;obtain⟨v14,ev14,hP⟩:=hI.dn 2 _ 14 rfl (hc ⟨2,.data⟩ (by simp) rfl) rfl;have qv14:=eval_of ev14;obtain⟨v20,ev20,hQ⟩:=hI.dn 8 _ 20 rfl (hc ⟨8,.data⟩ (by simp) rfl) rfl;have qv20:=eval_of ev20;obtain rfl:v12=.agg #[.string (E 77),.string ⟨#[]⟩,.string (E 4),.string (E 9)]:=hL;obtain rfl:v13=.agg #[.bool false,.string (E 10),.bool false,.string (E 2)]:=hM;obtain rfl:v14=.string (E 5):=hP;have st0:done.getD 18 false=false:=Bool.eq_false_iff.2 fun h=>by rw[c9 (c10 (c13 h))]at he;cases he
    obtain⟨u,rfl,hu⟩:=hQ st0;refine wp_callX 16 #[.tmp 12,.const (.int .i64 3),.tmp 13,.tmp 14,.tmp 20] #[26,3,30,22,35] rfl (enters_of Tryz.func16 (by kernel_rfl) rfl) ?_;simp only[List.map_toArray,List.map_cons,List.map_nil,qv12,qv13,qv14,qv20,eval_const];refine (Hq.out u w' hu).mono ?_;rintro e w'' ⟨p,o,t,rfl,hp,ho,⟨x,rfl,hx⟩,hb⟩;obtain⟨ao,c,rfl⟩:=RAt.form hx;exact⟨_,rfl,hb,p,o,_,rfl,own_mono hp (Nat.zero_le _),own_mono ho (Nat.zero_le _),ao,_,c,rfl⟩
   | 10,_,ho,he,hc =>
    simp at ho;subst ho;refine hI.op (d:=11) hh hk hg rfl rfl rfl (by decide) hc ?_;obtain⟨v21,ev21,hR⟩:=hI.dn 9 _ 21 rfl (hc ⟨9,.data⟩ (by simp) rfl) rfl;have qv21:=eval_of ev21;refine wp_val (v:=v21) (by simp[execOp,ev21,go_sem]) ?_;exact hR
   | 11,_,ho,he,hc =>
    simp at ho;subst ho;refine hI.op (d:=22) hh hk hg rfl rfl rfl (by decide) hc ?_;obtain⟨v11,ev11,hl⟩:=hI.dn 10 _ 11 rfl (hc ⟨10,.data⟩ (by simp) rfl) rfl;have qv11:=eval_of ev11;obtain⟨p,o,t,rfl,hp,ho,hx⟩:=hl;refine wp_val (v:=p) (by simp[execOp,ev11,go_sem]) ?_;exact hp
   | 12,_,ho,he,hc =>
    simp at ho;subst ho;refine hI.op (d:=23) hh hk hg rfl rfl rfl (by decide) hc ?_;obtain⟨v11,ev11,hl⟩:=hI.dn 10 _ 11 rfl (hc ⟨10,.data⟩ (by simp) rfl) rfl;have qv11:=eval_of ev11;obtain⟨p,o,t,rfl,hp,ho,hx⟩:=hl;refine wp_val (v:=o) (by simp[execOp,ev11,go_sem]) ?_;exact ho
   | 13,_,ho,he,hc =>
    simp at ho;subst ho;refine hI.op (d:=24) hh hk hg rfl rfl rfl (by decide) hc ?_;obtain⟨v11,ev11,hl⟩:=hI.dn 10 _ 11 rfl (hc ⟨10,.data⟩ (by simp) rfl) rfl;have qv11:=eval_of ev11;obtain⟨p,o,t,rfl,hp,ho,hx⟩:=hl;refine wp_val (v:=t) (by simp[execOp,ev11,go_sem]) ?_;exact hx
   | 14,_,ho,he,hc =>
    simp at ho;subst ho;refine hI.op (d:=25) hh hk hg rfl rfl rfl (by decide) hc ?_;obtain⟨v11,ev11,hl⟩:=hI.dn 10 _ 11 rfl (hc ⟨10,.data⟩ (by simp) rfl) rfl;have qv11:=eval_of ev11;obtain⟨p,o,t,rfl,hp,ho,hx⟩:=hl;refine wp_val (v:=.int .i64 0) (by simp[execOp,ev11,go_sem]) ?_;exact rfl
   | 15,_,ho,he,hc =>
    simp at ho;subst ho;refine hI.op (d:=4) hh hk hg rfl rfl rfl (by decide) hc ?_;obtain⟨hN,H7⟩:=blk1 w' #[.slice none 0 0,.string ⟨#[]⟩,.int .i64 0] 35;simp[Oper.wp,execOp,go_sem];have st0:done.getD 18 false=false:=Bool.eq_false_iff.2 fun h=>by rw[c15 h]at he;cases he
    exact⟨_,rfl,H7,w'.heap.size,_,_,_,rfl,hg,hN,fun h=>by rw[Array.getD_eq_getD_getElem?]at st0;rw[st0]at h;cases h⟩
   | 16,_,ho,he,hc =>
    simp at ho;subst ho;refine hI.op (d:=2) hh hk hg rfl rfl rfl (by decide) hc ?_;obtain⟨v22,ev22,hU⟩:=hI.dn 11 _ 22 rfl (hc ⟨11,.data⟩ (by simp) rfl) rfl;have qv22:=eval_of ev22;refine wp_val (v:=v22) (by simp[execOp,ev22,go_sem]) ?_;exact hU
   | 17,_,ho,he,hc =>
    simp at ho;subst ho;refine hI.op (d:=3) hh hk hg rfl rfl rfl (by decide) hc ?_;obtain⟨v23,ev23,hV⟩:=hI.dn 12 _ 23 rfl (hc ⟨12,.data⟩ (by simp) rfl) rfl;have qv23:=eval_of ev23;refine wp_val (v:=v23) (by simp[execOp,ev23,go_sem]) ?_;exact hV
   | 18,_,ho,he,hc =>
    simp at ho;subst ho;refine wpOp_step rfl fun K' hK=>?_
    obtain⟨v24,ev24,hW⟩:=hI.dn 13 _ 24 rfl (hc ⟨13,.data⟩ (by simp) rfl) rfl;have qv24:=eval_of ev24;obtain⟨v4,ev4,H8⟩:=hI.dn 15 _ 4 rfl (hc ⟨15,.data⟩ (by simp) rfl) rfl;have qv4:=eval_of ev4;obtain⟨ao,nn,cc,rfl⟩:=hW;obtain⟨g,y0,y1,y2,rfl,hX,hG,_⟩:=H8;have Hr:=hG.lt;have f0:=hG.free 0;have f1:=hG.free 1;have f2:=hG.free 2;have z0:=hG.cell 0;have z1:=hG.cell 1;have z2:=hG.cell 2;rw[if_pos (by simp[Region.wanted])];simp[Oper.wp,execOp,ev24,ev4,go_sem,f0,f1,f2,z0,z1,z2,Hr];have hY:18<done.size:=by rw[hI.sz];decide
    have sB:∀(w:World) (i:Nat) (u:Value),Bw w3 w→Bw w3 (w.setCell ⟨g,i,none⟩ u):=fun w i u h=>h.setCell hX u
    have H9:Bw w3 (((w'.setCell ⟨g,0,none⟩ (.slice ao nn cc)).setCell ⟨g,1,none⟩ (.string ⟨#[]⟩)).setCell ⟨g,2,none⟩ (.int .i64 4)):=sB _ _ _ (sB _ _ _ (sB _ _ _ hI.bw));have h9:=hI.skip (i:=18) (v:=undef) rfl rfl hc H9 ?_
    ·exact hK a' _ h9
    intro j q hq hj jr d u hd hu hv;rw[getD_set _ _ _ hY,if_pos rfl];rw[he]at hv;refine vAw_store hG hX _ _ j u ?_ hv;rintro rfl;simp at hq;subst hq;cases hd
    rw[ev4]at hu;injection hu with hu
    exact hu.symm
   | 19,_,ho,he,hc =>
    simp at ho;subst ho;refine hI.op (d:=5) hh hk hg rfl rfl rfl (by decide) hc ?_;obtain⟨v25,ev25,h0⟩:=hI.dn 14 _ 25 rfl (hc ⟨14,.data⟩ (by simp) rfl) rfl;have qv25:=eval_of ev25;refine wp_val (v:=v25) (by simp[execOp,ev25,go_sem]) ?_;exact h0
  ·intro done a' w' hI hd;obtain⟨f,hf,hv⟩:=hI.all hd;have hT:done.getD 18 false=true:=hd 18 (by decide);rw[hT]at hv;obtain⟨g,x,y,z,e15,hX,hG,hz⟩:=hv 15 _ 4 rfl rfl;have ja:=hv 16 _ 2 rfl rfl;have jb:=hv 17 _ 3 rfl rfl;have jc:=hv 19 _ 5 rfl rfl;obtain rfl:z=.int .i64 4:=hz rfl;subst hf;simp only[putAll,List.size_toArray,List.length_cons,List.length_nil,Nat.reduceAdd,List.getElem?_toArray,List.getElem?_cons_zero,List.getElem?_cons_succ,Option.bind_some,Act.put,List.setIfInBounds_toArray,List.set_cons_zero,List.set_cons_succ];go_wp2_with fail
   go_meet
   exact⟨g,x,y,rfl,jc,ja,jb,hG,hI.bw⟩
 case rest =>
  obtain⟨g,x,y,rfl,rfl,h2,h3,hG,hw⟩:=hcut;obtain⟨wx,jd⟩:∃wx,wx=wc:=⟨_,rfl⟩;subst jd;have Hs:=hO.after hw;have Ht:=bt hb hw;clear hO hb hw Hq;have je:=Kh (fun w=>l27num_c 67 w (by decide));have H4:=Kh (fun w=>l27num_c 4 w (by decide));have jf:=Kh (fun w=>l27num_c 16 w (by decide));have Hr:=hG.lt;obtain⟨jg,jh,ji,jj,jk,jl⟩:=hG.x3;go_wp2_with fail
  refine (je.out _).mono ?_;rintro e wa ⟨rfl,Hu⟩;go_wp2_with fail
  refine (H4.out _).mono ?_;rintro e wb ⟨rfl,Hv⟩;go_wp2_with fail
  refine (H4.out _).mono ?_;rintro e wd ⟨rfl,hbd⟩;go_wp2_with fail
  refine (jf.out _).mono ?_;rintro e we ⟨rfl,Hw⟩;have hy:=bt (bt (bt Hu Hv) hbd) Hw;have Hx:=Hs.after hy;have Hy:=own_after h2 hy;have Hz:=own_after h3 hy;have HA:=bt Ht hy;obtain⟨hN,hA⟩:=blk1 we #[.string (E 67),.string (E 4),.string (E 4),.string (E 16)] 22;have hB:SsAt (we.alloc (.cells #[.string (E 67),.string (E 4),.string (E 4),.string (E 16)] 22)) (.slice (some ⟨we.heap.size,0,none⟩) 4 4) (exP.map E):=ss_own (base:=0) (exP.map E) rfl (own_blk hN rfl (by decide));have HB:=NOwn.ss (own_after Hy hA);have HC:=own_after Hz hA;have HD:=Hx.after hA;have HE:=bt HA hA;clear Hu Hv hbd Hw hy Hs Hx Hy Hz HA Ht hN hA hG;go_wp2_with fail
  refine (sameNats_cV exP exP _ _ true _ (by decide) (by decide) HB hB (by decide)).mono ?_;rintro e wf ⟨rfl,hC⟩;have HF:=HD.after hC;have HG:=own_after HC hC;have HH:=bt HE hC;clear HD HC HE hC HB hB;go_upto_region 5 with fail
  have HI:Hid (∀w,OOwn w 0 u3 exO→Calls Tryz.prog 20 #[.agg #[.string (E 77),.string ⟨#[]⟩,.string (E 4),.string (E 9)],.int .i64 3,.agg #[.bool false,.string (E 10),.bool false,.string (E 2)],u3] w (WtPost w (0,exW))):=fun w ho=>by
   have hz:∀n k:Nat,n<256^k→(E n).size≤k:=fun n k h=>(E_size_le n k).2 h
   have h:=sqwit_c (E 77) (E 0) (E 4) (E 9) 3 false (E 10) false (E 2) (exO.map nop) u3 w (hz 77 8 (by decide)) (Nat.le_trans (hz 0 8 (by decide)) (by decide)) (Nat.le_trans (hz 4 8 (by decide)) (by decide)) (Nat.le_trans (hz 9 8 (by decide)) (by decide)) (hz 10 12 (by decide)) (hz 2 12 (by decide)) (by decide) (by
    intro q hq;obtain⟨p,hp,rfl⟩:=List.mem_map.1 hq;have hp:p∈[(2,1),(1,0),(1,0),(1,2)]:=hp;simp only[List.mem_cons,List.not_mem_nil,or_false]at hp;rcases hp with rfl | rfl | rfl | rfl <;> exact⟨hz _ 12 (by decide),hz _ 12 (by decide)⟩) ho.os
   rw[ex_wit]at h;exact h
  go_cut [6,7] (fun s6 s7 wy=>s7=.int .i64 0∧ZsAt wy s6 exW∧Bw wf wy)
  case first =>
   refine wp_region_inv (vAx u3) 99 66 (by kernel_rfl) rfl (by kernel_rfl) ?_ ?_ (by kernel_rfl)
   ·intro hh done a' w' i o hI ho he hc;have hi:=(Array.getElem?_eq_some_iff.1 ho).1;have hk:=vAx_st u3;have hg:=hI.bw.size;match i,hi,ho,he,hc with
    | 0,_,ho,he,hc =>
     simp at ho;subst ho;refine hI.op (d:=44) hh hk hg rfl rfl rfl (by decide) hc ?_;refine wp_callX 17 #[] #[] rfl (enters_of Tryz.func17 (by kernel_rfl) rfl) ?_;simp only[List.map_toArray,List.map_nil];refine (l27key_c w').mono ?_;rintro e w'' ⟨rfl,hb⟩;exact⟨_,rfl,hb,rfl⟩
    | 1,_,ho,he,hc =>
     simp at ho;subst ho;refine hI.op (d:=45) hh hk hg rfl rfl rfl (by decide) hc ?_;have q1:=hI.keep 1 (.pointer (some ⟨gO,0,none⟩)) rfl (by kernel_rfl);have hm:=HF.after hI.bw;have H6:=hm.lt;have x0:=hm.cell 0;have x1:=hm.cell 1;have x2:=hm.cell 2;have x3:=hm.cell 3;refine wp_val (v:=.agg #[.bool false,.string (E 10),.bool false,.string (E 2)]) (by simp[execOp,q1,go_sem,x0,x1,x2,x3]) rfl
    | 2,_,ho,he,hc =>
     simp at ho;subst ho;refine hI.op (d:=46) hh hk hg rfl rfl rfl (by decide) hc ?_;have q3:=hI.keep 3 u3 rfl (by kernel_rfl);refine wp_val (v:=u3) (by simp[execOp,q3,go_sem]) rfl
    | 3,_,ho,he,hc =>
     simp at ho;subst ho;refine hI.op (d:=47) hh hk hg rfl rfl rfl (by decide) hc ?_;obtain⟨v44,ev44,h4⟩:=hI.dn 0 _ 44 rfl (hc ⟨0,.data⟩ (by simp) rfl) rfl;have qv44:=eval_of ev44;obtain⟨v45,ev45,h5⟩:=hI.dn 1 _ 45 rfl (hc ⟨1,.data⟩ (by simp) rfl) rfl;have qv45:=eval_of ev45;obtain⟨v46,ev46,h6⟩:=hI.dn 2 _ 46 rfl (hc ⟨2,.data⟩ (by simp) rfl) rfl;have qv46:=eval_of ev46;obtain rfl:v44=.agg #[.string (E 77),.string ⟨#[]⟩,.string (E 4),.string (E 9)]:=h4;obtain rfl:v45=.agg #[.bool false,.string (E 10),.bool false,.string (E 2)]:=h5;obtain rfl:v46=u3:=h6;refine wp_callX 20 #[.tmp 44,.const (.int .i64 3),.tmp 45,.tmp 46] #[26,3,30,65] rfl (enters_of Tryz.func20 (by kernel_rfl) rfl) ?_;simp only[List.map_toArray,List.map_cons,List.map_nil,qv44,qv45,qv46,eval_const];refine (HI.out w' (own_after HG hI.bw)).mono ?_;rintro e w'' ⟨z,rfl,hz,hb⟩;exact⟨_,rfl,hb,z,rfl,hz⟩
    | 4,_,ho,he,hc =>
     simp at ho;subst ho;refine hI.op (d:=43) hh hk hg rfl rfl rfl (by decide) hc ?_;obtain⟨v47,ev47,Ha⟩:=hI.dn 3 _ 47 rfl (hc ⟨3,.data⟩ (by simp) rfl) rfl;have qv47:=eval_of ev47;refine wp_val (v:=v47) (by simp[execOp,ev47,go_sem]) ?_;exact Ha
    | 5,_,ho,he,hc =>
     simp at ho;subst ho;refine hI.op (d:=48) hh hk hg rfl rfl rfl (by decide) hc ?_;obtain⟨v43,ev43,hr⟩:=hI.dn 4 _ 43 rfl (hc ⟨4,.data⟩ (by simp) rfl) rfl;have qv43:=eval_of ev43;obtain⟨z,rfl,hz⟩:=hr;refine wp_val (v:=z) (by simp[execOp,ev43,go_sem]) ?_;exact hz
    | 6,_,ho,he,hc =>
     simp at ho;subst ho;refine hI.op (d:=49) hh hk hg rfl rfl rfl (by decide) hc ?_;obtain⟨v43,ev43,hr⟩:=hI.dn 4 _ 43 rfl (hc ⟨4,.data⟩ (by simp) rfl) rfl;have qv43:=eval_of ev43;obtain⟨z,rfl,hz⟩:=hr;refine wp_val (v:=.int .i64 0) (by simp[execOp,ev43,go_sem]) ?_;exact rfl
    | 7,_,ho,he,hc =>
     simp at ho;subst ho;refine hI.op (d:=6) hh hk hg rfl rfl rfl (by decide) hc ?_;obtain⟨v48,ev48,Hb⟩:=hI.dn 5 _ 48 rfl (hc ⟨5,.data⟩ (by simp) rfl) rfl;have qv48:=eval_of ev48;refine wp_val (v:=v48) (by simp[execOp,ev48,go_sem]) ?_;exact Hb
    | 8,_,ho,he,hc =>
     simp at ho;subst ho;refine hI.op (d:=7) hh hk hg rfl rfl rfl (by decide) hc ?_;obtain⟨v49,ev49,Hc⟩:=hI.dn 6 _ 49 rfl (hc ⟨6,.data⟩ (by simp) rfl) rfl;have qv49:=eval_of ev49;refine wp_val (v:=v49) (by simp[execOp,ev49,go_sem]) ?_;exact Hc
   ·intro done a' w' hI hd;obtain⟨f,hf,hv⟩:=hI.all hd;have h7:=hv 7 _ 6 rfl rfl;have h8:=hv 8 _ 7 rfl rfl;subst hf;simp only[putAll,List.size_toArray,List.length_cons,List.length_nil,Nat.reduceAdd,List.getElem?_toArray,List.getElem?_cons_zero,List.getElem?_cons_succ,Option.bind_some,Act.put,List.setIfInBounds_toArray,List.set_cons_zero,List.set_cons_succ];go_wp2_with fail
    go_meet
    exact⟨h8,h7,hI.bw⟩
  case rest =>
   obtain⟨rfl,hZ,hw⟩:=hcut;obtain⟨wy,jm⟩:∃wy,wy=wc:=⟨_,rfl⟩;subst jm;have HJ:=bt HH hw;clear HH hw HF HG HI h2 h3;have K2:=Kh (fun w=>HW.out 2 w (by decide));have K1:=Kh (fun w=>HW.out 1 w (by decide));have K0:=Kh (fun w=>HW.out 0 w (by decide));have KM:Hid (∀w,Calls Tryz.prog 15 #[.int .i64 (-2)] w fun e w'=>e=.returned (.agg #[.bool true,.string (E 2)])∧Bw w w'):=fun w=>l27whole_c (-2) w (by decide) (by decide)
   clear HW;go_wp2_with fail
   refine (K2.out _).mono ?_;rintro e y0 ⟨rfl,Hd⟩;have HK:=bt HJ Hd;have HL:=ZsAt.after hZ Hd;clear Hd HJ hZ;go_wp2_with fail
   refine (K1.out _).mono ?_;rintro e y1 ⟨rfl,He⟩;have HM:=bt HK He;have HN:=ZsAt.after HL He;clear He HK HL;go_wp2_with fail
   refine (K1.out _).mono ?_;rintro e y2 ⟨rfl,Hf⟩;have HO:=bt HM Hf;have HP:=ZsAt.after HN Hf;clear Hf HM HN;go_wp2_with fail
   refine (K0.out _).mono ?_;rintro e y3 ⟨rfl,Hg⟩;have HQ:=bt HO Hg;have HR:=ZsAt.after HP Hg;clear Hg HO HP;go_wp2_with fail
   refine (K1.out _).mono ?_;rintro e y4 ⟨rfl,Hh⟩;have HS:=bt HQ Hh;have HT:=ZsAt.after HR Hh;clear Hh HQ HR;go_wp2_with fail
   refine (K0.out _).mono ?_;rintro e y5 ⟨rfl,Hi⟩;have HU:=bt HS Hi;have HV:=ZsAt.after HT Hi;clear Hi HS HT;go_wp2_with fail
   refine (K1.out _).mono ?_;rintro e y6 ⟨rfl,Hj⟩;have HX:=bt HU Hj;have HY:=ZsAt.after HV Hj;clear Hj HU HV;go_wp2_with fail
   refine (K2.out _).mono ?_;rintro e y7 ⟨rfl,Hk⟩;have HZ:=bt HX Hk;have H0:=ZsAt.after HY Hk;clear Hk HX HY;go_wp2_with fail
   refine (KM.out _).mono ?_;rintro e y8 ⟨rfl,Hl⟩;have H1:=bt HZ Hl;have H3:=ZsAt.after H0 Hl;clear Hl HZ H0;obtain⟨H5,ht⟩:=blk1 y8 #[.bool false,.string (E 2),.bool false,.string (E 1),.bool false,.string (E 1),.bool false,.string (E 0),.bool false,.string (E 1),.bool false,.string (E 0),.bool false,.string (E 1),.bool false,.string (E 2),.bool true,.string (E 2)] 28;have jn:=ZsAt.after H3 ht;have jo:=bt H1 ht;have jp:ZsAt (y8.alloc (.cells #[.bool false,.string (E 2),.bool false,.string (E 1),.bool false,.string (E 1),.bool false,.string (E 0),.bool false,.string (E 1),.bool false,.string (E 0),.bool false,.string (E 1),.bool false,.string (E 2),.bool true,.string (E 2)] 28)) (.slice (some ⟨y8.heap.size,0,none⟩) 9 9) exW:=is_blk (exW.map zI) rfl H5;clear H1 H3 H5 ht;go_wp2_with fail
   refine (sameInts_c exW _ _ _ (by decide) jn jp).mono ?_;rintro e yz ⟨rfl,jq⟩;go_wp2_with fail
   refine bodyPost_ret (v:=.bool true) ?_ rfl ⟨rfl,bt jo jq⟩;simp[results,Tryz.results6,go_sem]
end
section
open Go.RowKit Go.Shelf
theorem kfw_inv {a b c d:ByteArray} (h:kfw a b c d=true):a.size≤8∧b.size≤8∧c.size≤12∧d.size≤12:=by
 simp only[kfw,Bool.and_eq_true,decide_eq_true_eq]at h;exact⟨h.1.1.1,h.1.1.2,h.1.2,h.2⟩
end
end Go.Proofs.YtdgddpnjkinciaaGreatDoor
