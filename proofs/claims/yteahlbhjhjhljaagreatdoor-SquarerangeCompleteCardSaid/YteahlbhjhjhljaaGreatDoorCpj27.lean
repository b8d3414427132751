/- SquarerangeComplete: the law. -/
import Derived.Test.YteahlbhjhjhljaaGreatDoorMd27
import Derived.Test.YteahlbhjhjhljaaGreatDoorWi27
import Derived.Test.YteahlbhjhjhljaaGreatDoorHoR
import Derived.Test.YteahlbhjhjhljaaGreatDoorSd27
import Derived.Test.YteahlbhjhjhljaaGreatDoorCpa27
set_option linter.unusedVariables false
set_option linter.unusedSimpArgs false
set_option maxRecDepth 100000
set_option maxHeartbeats 16000000
namespace Go.Proofs.YteahlbhjhjhljaaGreatDoor
section
/- SquarerangeComplete: the law's walk. -/
open Go.RowKit Go.Shelf
def vCp7 (gX B1:Nat) (vn:Bool) (va:ByteArray) (lo dd:Int):RVB:=fun st i v w=>match i with
 | 0=>v=.pointer (some ⟨gX,5,none⟩)
 | 1=>v=.pointer (some ⟨gX,5,none⟩)
 | 2=>v=.agg #[.bool vn,.string va]
 | 3=>v=.pointer (some ⟨gX,4,none⟩)
 | 4=>v=.int .i64 lo
 | 5=>v=.agg #[.bool (sg (lo)),.string (E (lo).natAbs)]
 | 6=>v=.tuple #[.agg #[.bool (sg (dd)),.string (E (dd).natAbs)],.int .i64 0]
 | 7=>v=.tuple #[.agg #[.bool (sg (dd)),.string (E (dd).natAbs)],.int .i64 0]
 | 8=>v=.agg #[.bool (sg (dd)),.string (E (dd).natAbs)]
 | 9=>v=.int .i64 0
 | 10=>∃g,v=.pointer (some ⟨g,0,none⟩)∧B1≤g∧(st=[false]→Blk w g 28 [.bool false,.string ⟨#[]⟩])∧(st=[true]→Blk w g 28 [.bool (sg dd),.string (E dd.natAbs)])
 | 12=>v=.int .i64 0
 | _=>True
theorem vCp7_st (gX B1:Nat) (vn:Bool) (va:ByteArray) (lo dd:Int):∀(l:List Bool) (j:Nat) (u:Value) (w w':World),Below w.heap.size w w'→vCp7 gX B1 vn va lo dd l j u w→vCp7 gX B1 vn va lo dd l j u w':=by
 intro l j u w w' hb h;unfold vCp7 at h ⊢;split at h
 all_goals first
  | exact h
  | (obtain ⟨g,h1,h2,h3,h4⟩:=h;exact ⟨g,h1,h2,fun k=>(h3 k).after hb,fun k=>(h4 k).after hb⟩)
theorem vCp7_sto {gX B1 g:Nat} {vn:Bool} {va:ByteArray} {lo dd:Int} {w w':World} (hG:Blk w' g 28 [.bool (sg dd),.string (E dd.natAbs)]):∀(j:Nat) (u:Value),(j=10→u=.pointer (some ⟨g,0,none⟩))→vCp7 gX B1 vn va lo dd [false] j u w→vCp7 gX B1 vn va lo dd [true] j u w':=by
 intro j u hj h;unfold vCp7 at h ⊢;split at h
 all_goals first
  | exact h
  | (obtain ⟨g',h1,h2,h3,h4⟩:=h;have e:=hj rfl;rw [e] at h1;injection h1 with h1;injection h1 with h1;injection h1 with h1;subst h1;exact ⟨g,e,h2,fun k=>(by cases k),fun _=>hG⟩)
structure CpOk (a b c:ByteArray) (vn:Bool) (va ra vl rd:ByteArray) (lo:Int) (N:NSta) (Z:List Int) (hb:Bool) (dd:Int) (c1:Int) (cz:Nat→Int) (one:Nat):Prop where
 len:Z.length=9
 hld:∀(v1 v2 v3 vW:Value) (w':World),NAt w' v1 v2 v3 N→ZsAt w' vW Z→Calls Tryz.prog 13 #[.agg #[v1,v2,v3],vW] w' fun e w''=>e=.returned (.tuple #[.bool hb,.int .i64 0])∧Below w'.heap.size w' w''
 sub:∀w':World,Calls Tryz.prog 14 #[.agg #[.bool vn,.string va],.agg #[.bool (sg (lo)),.string (E (lo).natAbs)]] w' fun e w''=>e=.returned (.tuple #[.agg #[.bool (sg (dd)),.string (E (dd).natAbs)],.int .i64 0])∧Below w'.heap.size w' w''
 exp:∀w':World,Calls Tryz.prog 16 #[.agg #[.string a,.string b],.string c,.agg #[.bool (sg (dd)),.string (E (dd).natAbs)]] w' fun e w''=>e=.returned (.tuple #[.string (E one),.int .i64 0])∧Below w'.heap.size w' w''
 cmr:∀w':World,Calls Tryz.prog 18 #[.string ra,.string rd] w' fun e w''=>e=.returned (.int .i64 c1)∧Below w'.heap.size w' w''
 cmz:∀j,j<9→∀w':World,Calls Tryz.prog 18 #[.string (E (Z.getD j 0).natAbs),.string vl] w' fun e w''=>e=.returned (.int .i64 (cz j))∧Below w'.heap.size w' w''
 neg:dd<0→hb=true→one=1
 pos:¬ dd<0→c1<0→(∀j,j<4→cz (2*j)<0)→hb=true
theorem cp_walk (a b c d:ByteArray) (lo:Int) (vn:Bool) (va:ByteArray) (rn:Bool) (ra vl rd sd:ByteArray) (ti:Int) (st:Option Addr) (mt dt:Nat) (w:World) (ob:Bool) (G:Prop)
  (hs:∀w':World,Calls Tryz.prog 9 #[.agg #[.string a,.string b,.string c,.string d,.int .i64 lo,.bool vn,.string va,.bool rn,.string ra,.string vl,.string rd]] w' fun e w2=>GateP G w' w2 e)
  (ho:∀w',Below w.heap.size w w'→Calls Tryz.prog 10 #[.agg #[.slice st mt dt,.string sd,.int .i64 ti]] w' fun e w2=>e=.returned (.bool ob)∧Below w'.heap.size w' w2)
  (hg:G→ob=true→-9223372036854775808≤lo∧lo≤9223372036854775807∧∃(N:NSta) (Z:List Int) (ok:Bool),(∀w',Below w.heap.size w w'→Calls Tryz.prog 12 #[.agg #[.string a,.string b,.string c,.string d,.int .i64 lo,.bool vn,.string va,.bool rn,.string ra,.string vl,.string rd],.agg #[.slice st mt dt,.string sd,.int .i64 ti]] w' (MdPost w' N Z ok)) ∧
   (ok=true→∃(hb:Bool) (dd c1:Int) (cz:Nat→Int) (one:Nat),CpOk a b c vn va ra vl rd lo N Z hb dd c1 cz one)) :
  Calls Tryz.prog 3 #[.agg #[.string a,.string b,.string c,.string d,.int .i64 lo,.bool vn,.string va,.bool rn,.string ra,.string vl,.string rd],.agg #[.slice st mt dt,.string sd,.int .i64 ti]] w fun e w'=>e=.returned (.bool true)∧Below w.heap.size w w':=by
 have HS:=Lib.hid hs;have HO:=Lib.hid ho;have HG:=Lib.hid hg;have HW:=Lib.hid (fun w=>awake27_c w);clear hs ho hg;have hB:=blk2a w #[.string a,.string b,.string c,.string d,.int .i64 lo,.bool vn,.string va,.bool rn,.string ra,.string vl,.string rd] #[.slice st mt dt,.string sd,.int .i64 ti] 32 35;have hT:=blk2b w #[.string a,.string b,.string c,.string d,.int .i64 lo,.bool vn,.string va,.bool rn,.string ra,.string vl,.string rd] #[.slice st mt dt,.string sd,.int .i64 ti] 32 35;have hBW:=b2 w (.cells #[.string a,.string b,.string c,.string d,.int .i64 lo,.bool vn,.string va,.bool rn,.string ra,.string vl,.string rd] 32) (.cells #[.slice st mt dt,.string sd,.int .i64 ti] 35);obtain ⟨hBc0,hBf0,hBc1,hBf1,hBc2,hBf2,hBc3,hBf3,hBc4,hBf4,hBc5,hBf5,hBc6,hBf6,hBc7,hBf7,hBc8,hBf8,hBc9,hBf9,hBc10,hBf10⟩:=hB.x11;obtain ⟨hTc0,hTf0,hTc1,hTf1,hTc2,hTf2⟩:=hT.x3;go_enter Tryz.func3,Tryz.ntmps3
 go_wp2_with fail
 refine (HS.out _).mono ?_;rintro e w1 ⟨r,rfl,hr,hb1⟩;have HR:=Lib.hid hr;clear hr;clear hBc0 hBf0 hBc1 hBf1 hBc2 hBf2 hBc3 hBf3 hBc4 hBf4 hBc5 hBf5 hBc6 hBf6 hBc7 hBf7 hBc8 hBf8 hBc9 hBf9 hBc10 hBf10;clear hTc0 hTf0 hTc1 hTf1 hTc2 hTf2;replace hB:=hB.after hb1;replace hT:=hT.after hb1;replace hBW:=bt hBW hb1;obtain ⟨hBc0,hBf0,hBc1,hBf1,hBc2,hBf2,hBc3,hBf3,hBc4,hBf4,hBc5,hBf5,hBc6,hBf6,hBc7,hBf7,hBc8,hBf8,hBc9,hBf9,hBc10,hBf10⟩:=hB.x11;obtain ⟨hTc0,hTf0,hTc1,hTf1,hTc2,hTf2⟩:=hT.x3;cases r
 case false =>
  go_wp2_with fail
  refine (HW.out _).mono ?_;rintro e w2 ⟨rfl,hb2⟩;go_wp2;go_ret
  exact ⟨rfl,bt hBW hb2⟩
 case true =>
  go_wp2_with fail
  refine (HO.out _ hBW).mono ?_;rintro e w2 ⟨rfl,hb2⟩;clear hBc0 hBf0 hBc1 hBf1 hBc2 hBf2 hBc3 hBf3 hBc4 hBf4 hBc5 hBf5 hBc6 hBf6 hBc7 hBf7 hBc8 hBf8 hBc9 hBf9 hBc10 hBf10;clear hTc0 hTf0 hTc1 hTf1 hTc2 hTf2;replace hB:=hB.after hb2;replace hT:=hT.after hb2;replace hBW:=bt hBW hb2;cases ob
  case false =>
   go_wp2_with fail
   refine (HW.out _).mono ?_;rintro e w3 ⟨rfl,hb3⟩;go_wp2;go_ret
   exact ⟨rfl,bt hBW hb3⟩
  case true =>
   obtain ⟨hl1,hl2,N,Z,ok,hmd,hok⟩:=HG.out (HR.out (by trivial)) (by trivial);have HMD:=Lib.hid hmd;have HOK:=Lib.hid hok;have HLO:Hid (-9223372036854775808≤lo∧lo≤9223372036854775807):=⟨hl1,hl2⟩;clear hmd hok HG HR HO HS hl1 hl2;obtain ⟨hBc0,hBf0,hBc1,hBf1,hBc2,hBf2,hBc3,hBf3,hBc4,hBf4,hBc5,hBf5,hBc6,hBf6,hBc7,hBf7,hBc8,hBf8,hBc9,hBf9,hBc10,hBf10⟩:=hB.x11;obtain ⟨hTc0,hTf0,hTc1,hTf1,hTc2,hTf2⟩:=hT.x3;go_wp2_with fail
   refine (HMD.out _ hBW).mono ?_;rintro e w3 ⟨v1,v2,v3,vw,tu,tn,tc,ts,ti2,rfl,hN,hZ,hb3⟩;clear hBc0 hBf0 hBc1 hBf1 hBc2 hBf2 hBc3 hBf3 hBc4 hBf4 hBc5 hBf5 hBc6 hBf6 hBc7 hBf7 hBc8 hBf8 hBc9 hBf9 hBc10 hBf10;clear hTc0 hTf0 hTc1 hTf1 hTc2 hTf2;obtain ⟨⟨a1,m1,c1',rfl⟩,⟨a2,m2,c2',rfl⟩,⟨a3,m3,c3',rfl⟩⟩:=hN.slm;obtain ⟨a4,c4,rfl⟩:=RAt.form hZ;replace hB:=hB.after hb3;replace hBW:=bt hBW hb3;clear hb3 hT HMD;have hM:=blk2a w3 #[.slice a1 m1 c1',.slice a2 m2 c2',.slice a3 m3 c3'] #[.slice tu tn tc,.string ts,.int .i64 ti2] 43 35;have hbM:=b2 w3 (.cells #[.slice a1 m1 c1',.slice a2 m2 c2',.slice a3 m3 c3'] 43) (.cells #[.slice tu tn tc,.string ts,.int .i64 ti2] 35);have HZL:Hid ((Z.map zI).length=Z.length):=List.length_map _;obtain ⟨m4,hm4⟩:∃n,n=(Z.map zI).length:=⟨_,rfl⟩;rw [←hm4] at hZ HZL ⊢;clear hm4;go_upto_region 4 with fail
   generalize (w3.alloc (.cells #[.slice a1 m1 c1',.slice a2 m2 c2',.slice a3 m3 c3'] 43)).alloc (.cells #[.slice tu tn tc,.string ts,.int .i64 ti2] 35)=w4 at hM hbM ⊢;obtain ⟨gM,hgM⟩:∃g,g=w3.heap.size:=⟨_,rfl⟩;rw [←hgM] at hM ⊢;clear hgM;replace hM:Blk w4 gM 43 [.slice a1 m1 c1',.slice a2 m2 c2',.slice a3 m3 c3']:=hM;replace hB:=hB.after hbM;replace hN:=hN.after hbM;replace hZ:=hZ.after hbM;replace hBW:=bt hBW hbM;clear hbM;cases ok
   case false =>
    go_wp2_with fail
    refine (HW.out _).mono ?_;rintro e w5 ⟨rfl,hb5⟩;go_wp2;go_ret
    exact ⟨rfl,bt hBW hb5⟩
   case true =>
    obtain ⟨hb,dd,c1,cz,one,hcp⟩:=HOK.out (by trivial);have HCP:=Lib.hid hcp;have HL9:Hid (m4=9):=by rw [Hid,HZL.out];exact hcp.len
    clear hcp HOK HZL;obtain rfl:m4=9:=HL9.out;clear HL9;have hMl:=hM.lt;obtain ⟨hMc0,hMf0,hMc1,hMf1,hMc2,hMf2⟩:=hM.x3;go_wp2_with fail
    refine (HCP.out.hld _ _ _ _ _ hN hZ).mono ?_;rintro e w5 ⟨rfl,hb5⟩;clear hMc0 hMf0 hMc1 hMf1 hMc2 hMf2;clear hM hMl hN;replace hB:=hB.after hb5;replace hZ:=hZ.after hb5;replace hBW:=bt hBW hb5;clear hb5;have HOL:Hid (∀w:World,Calls Tryz.prog 15 #[.int .i64 lo] w fun e w'=>e=.returned (.agg #[.bool (sg (lo)),.string (E (lo).natAbs)])∧Below w.heap.size w w'):=fun w=>l27whole_c lo w HLO.out.1 HLO.out.2
    go_upto_region 7 with fail
    go_cut [11] (fun s11 wx=>∃g11,s11=.pointer (some ⟨g11,0,none⟩)∧Blk wx g11 28 [.bool (sg dd),.string (E dd.natAbs)]∧Below w5.heap.size w5 wx)
    case first =>
     refine wp_region_invB (vCp7 w.heap.size w5.heap.size vn va lo dd) [11] w5.heap.size (fun _ _=>True) 130 trivial (by kernel_rfl) rfl (by kernel_rfl) ?_ ?_ (by kernel_rfl)
     ·intro hsl done a' w' i o hJ ho hun hpre;have hi:=(Array.getElem?_eq_some_iff.1 ho).1;have hst:=vCp7_st w.heap.size w5.heap.size vn va lo dd;have hFt:∀(b:List Bool) (w w':World),Below w.heap.size w w'→(fun (_:List Bool) (_:World)=>True) b w→(fun (_:List Bool) (_:World)=>True) b w':=fun _ _ _ _ _=>trivial
      have hwz:=hJ.bw.size;have hBx:=hB.after hJ.bw;have hBl:=hBx.lt;have x4:=hBx.cell 4;have x5:=hBx.cell 5;have x6:=hBx.cell 6
      match i,hi,ho,hun,hpre with
       | 0,_,ho,hun,hpre =>
        simp at ho;subst ho;refine hJ.op (d:=58) hsl hst hFt hwz rfl rfl rfl (by decide) hpre ?_;simp only [List.getElem_toArray,List.getElem_cons_zero,List.getElem_cons_succ] at hpre ⊢;have q2:=hJ.keep 2 (.pointer (some ⟨w.heap.size,0,none⟩)) rfl (by kernel_rfl);refine wp_val (v:=.pointer (some ⟨w.heap.size,5,none⟩)) (by simp [execOp,q2,go_sem]) rfl
       | 1,_,ho,hun,hpre =>
        simp at ho;subst ho;refine hJ.op (d:=59) hsl hst hFt hwz rfl rfl rfl (by decide) hpre ?_;simp only [List.getElem_toArray,List.getElem_cons_zero,List.getElem_cons_succ] at hpre ⊢;obtain ⟨v58,ev58,hv58⟩:=hJ.dn 0 _ 58 rfl (hpre { on:=0,ground:=Ground.data } (by simp) rfl) rfl;have qv58:=eval_of ev58;obtain rfl:v58=.pointer (some ⟨w.heap.size,5,none⟩):=hv58;refine wp_val (v:=.pointer (some ⟨w.heap.size,5,none⟩)) (by simp [execOp,ev58,go_sem]) rfl
       | 2,_,ho,hun,hpre =>
        simp at ho;subst ho;refine hJ.op (d:=60) hsl hst hFt hwz rfl rfl rfl (by decide) hpre ?_;simp only [List.getElem_toArray,List.getElem_cons_zero,List.getElem_cons_succ] at hpre ⊢;obtain ⟨v59,ev59,hv59⟩:=hJ.dn 1 _ 59 rfl (hpre { on:=1,ground:=Ground.data } (by simp) rfl) rfl;have qv59:=eval_of ev59;obtain rfl:v59=.pointer (some ⟨w.heap.size,5,none⟩):=hv59;refine wp_val (v:=.agg #[.bool vn,.string va]) (by simp [execOp,ev59,go_sem,x5,x6]) rfl
       | 3,_,ho,hun,hpre =>
        simp at ho;subst ho;refine hJ.op (d:=61) hsl hst hFt hwz rfl rfl rfl (by decide) hpre ?_;simp only [List.getElem_toArray,List.getElem_cons_zero,List.getElem_cons_succ] at hpre ⊢;have q2:=hJ.keep 2 (.pointer (some ⟨w.heap.size,0,none⟩)) rfl (by kernel_rfl);refine wp_val (v:=.pointer (some ⟨w.heap.size,4,none⟩)) (by simp [execOp,q2,go_sem]) rfl
       | 4,_,ho,hun,hpre =>
        simp at ho;subst ho;refine hJ.op (d:=62) hsl hst hFt hwz rfl rfl rfl (by decide) hpre ?_;simp only [List.getElem_toArray,List.getElem_cons_zero,List.getElem_cons_succ] at hpre ⊢;obtain ⟨v61,ev61,hv61⟩:=hJ.dn 3 _ 61 rfl (hpre { on:=3,ground:=Ground.data } (by simp) rfl) rfl;have qv61:=eval_of ev61;obtain rfl:v61=.pointer (some ⟨w.heap.size,4,none⟩):=hv61;refine wp_val (v:=.int .i64 lo) (by simp [execOp,ev61,go_sem,x4]) rfl
       | 5,_,ho,hun,hpre =>
        simp at ho;subst ho;refine hJ.op (d:=63) hsl hst hFt hwz rfl rfl rfl (by decide) hpre ?_;simp only [List.getElem_toArray,List.getElem_cons_zero,List.getElem_cons_succ] at hpre ⊢;obtain ⟨v62,ev62,hv62⟩:=hJ.dn 4 _ 62 rfl (hpre { on:=4,ground:=Ground.data } (by simp) rfl) rfl;have qv62:=eval_of ev62;obtain rfl:v62=.int .i64 lo:=hv62;refine wp_callX 15 #[.tmp 62] #[2] rfl (enters_of Tryz.func15 (by kernel_rfl) rfl) ?_;simp only [List.map_toArray,List.map_cons,List.map_nil,qv62];refine (HOL.out w').mono ?_;rintro e w'' ⟨rfl,hb⟩;exact ⟨_,rfl,hb,rfl⟩
       | 6,_,ho,hun,hpre =>
        simp at ho;subst ho;refine hJ.op (d:=64) hsl hst hFt hwz rfl rfl rfl (by decide) hpre ?_;simp only [List.getElem_toArray,List.getElem_cons_zero,List.getElem_cons_succ] at hpre ⊢;obtain ⟨v60,ev60,hv60⟩:=hJ.dn 2 _ 60 rfl (hpre { on:=2,ground:=Ground.data } (by simp) rfl) rfl;have qv60:=eval_of ev60;obtain rfl:v60=.agg #[.bool vn,.string va]:=hv60;obtain ⟨v63,ev63,hv63⟩:=hJ.dn 5 _ 63 rfl (hpre { on:=5,ground:=Ground.data } (by simp) rfl) rfl;have qv63:=eval_of ev63;obtain rfl:v63=.agg #[.bool (sg (lo)),.string (E (lo).natAbs)]:=hv63;refine wp_callX 14 #[.tmp 60,.tmp 63] #[28,28] rfl (enters_of Tryz.func14 (by kernel_rfl) rfl) ?_;simp only [List.map_toArray,List.map_cons,List.map_nil,qv60,qv63];refine (HCP.out.sub w').mono ?_;rintro e w'' ⟨rfl,hb⟩;exact ⟨_,rfl,hb,rfl⟩
       | 7,_,ho,hun,hpre =>
        simp at ho;subst ho;refine hJ.op (d:=57) hsl hst hFt hwz rfl rfl rfl (by decide) hpre ?_;simp only [List.getElem_toArray,List.getElem_cons_zero,List.getElem_cons_succ] at hpre ⊢;obtain ⟨v64,ev64,hv64⟩:=hJ.dn 6 _ 64 rfl (hpre { on:=6,ground:=Ground.data } (by simp) rfl) rfl;have qv64:=eval_of ev64;obtain rfl:v64=.tuple #[.agg #[.bool (sg (dd)),.string (E (dd).natAbs)],.int .i64 0]:=hv64;refine wp_val (v:=.tuple #[.agg #[.bool (sg (dd)),.string (E (dd).natAbs)],.int .i64 0]) (by simp [execOp,ev64,go_sem]) rfl
       | 8,_,ho,hun,hpre =>
        simp at ho;subst ho;refine hJ.op (d:=65) hsl hst hFt hwz rfl rfl rfl (by decide) hpre ?_;simp only [List.getElem_toArray,List.getElem_cons_zero,List.getElem_cons_succ] at hpre ⊢;obtain ⟨v57,ev57,hv57⟩:=hJ.dn 7 _ 57 rfl (hpre { on:=7,ground:=Ground.data } (by simp) rfl) rfl;have qv57:=eval_of ev57;obtain rfl:v57=.tuple #[.agg #[.bool (sg (dd)),.string (E (dd).natAbs)],.int .i64 0]:=hv57;refine wp_val (v:=.agg #[.bool (sg (dd)),.string (E (dd).natAbs)]) (by simp [execOp,ev57,go_sem]) rfl
       | 9,_,ho,hun,hpre =>
        simp at ho;subst ho;refine hJ.op (d:=66) hsl hst hFt hwz rfl rfl rfl (by decide) hpre ?_;simp only [List.getElem_toArray,List.getElem_cons_zero,List.getElem_cons_succ] at hpre ⊢;obtain ⟨v57,ev57,hv57⟩:=hJ.dn 7 _ 57 rfl (hpre { on:=7,ground:=Ground.data } (by simp) rfl) rfl;have qv57:=eval_of ev57;obtain rfl:v57=.tuple #[.agg #[.bool (sg (dd)),.string (E (dd).natAbs)],.int .i64 0]:=hv57;refine wp_val (v:=.int .i64 0) (by simp [execOp,ev57,go_sem]) rfl
       | 10,_,ho,hun,hpre =>
        simp at ho;subst ho;refine hJ.op (d:=11) hsl hst hFt hwz rfl rfl rfl (by decide) hpre ?_;simp only [List.getElem_toArray,List.getElem_cons_zero,List.getElem_cons_succ] at hpre ⊢
        have hs0:stB [11] done=[false]:=by
         have k11:done.getD 11 false=false:=by
          cases a11:done.getD 11 false with
          | false=>rfl
          | true =>
           have a10:=hJ.pr 11 _ rfl a11 { on:=10,ground:=Ground.data } (by simp) rfl;rw [hun] at a10;cases a10
         simp only [stB,List.map_cons,List.map_nil,k11]
        have hN:=Blk.new w' #[.bool false,.string ⟨#[]⟩] 28;simp [Oper.wp,execOp,go_sem];exact ⟨_,rfl,b1 _ _,_,rfl,hwz,fun _=>hN,fun h0=>by rw [hs0] at h0;cases h0⟩
       | 11,_,ho,hun,hpre =>
        simp at ho;subst ho;simp only [List.getElem_toArray,List.getElem_cons_zero,List.getElem_cons_succ] at hpre;obtain ⟨v65,ev65,hv65⟩:=hJ.dn 8 _ 65 rfl (hpre { on:=8,ground:=Ground.data } (by simp) rfl) rfl;have qv65:=eval_of ev65;obtain ⟨v11,ev11,hv11⟩:=hJ.dn 10 _ 11 rfl (hpre { on:=10,ground:=Ground.data } (by simp) rfl) rfl;have qv11:=eval_of ev11
        have hs0:stB [11] done=[false]:=by
         have k11:done.getD 11 false=false:=hun;simp only [stB,List.map_cons,List.map_nil,k11]
        have hi11:11<done.size:=by rw [hJ.sz];decide
        have hs1:stB [11] (done.setIfInBounds 11 true)=[true]:=by
         have e:=hs0;simp only [stB,List.map_cons,List.map_nil,List.cons.injEq,and_true] at e;simp only [stB,List.map_cons,List.map_nil,getD_set _ _ _ hi11,e,if_true,if_false,Nat.reduceEqDiff]
        obtain rfl:v65=.agg #[.bool (sg (dd)),.string (E (dd).natAbs)]:=hv65;rw [hs0] at hv11;obtain ⟨g,rfl,hBg,hG,_⟩:=hv11;have hG:=hG rfl;have hGl:=hG.lt;have f0:=hG.free 0;have f1:=hG.free 1;have z0:=hG.cell 0;have z1:=hG.cell 1;refine wpOp_step rfl fun K' hK=>?_
        simp only [List.getElem_toArray,List.getElem_cons_zero,List.getElem_cons_succ];rw [if_pos (by simp [Region.wanted])];simp [Oper.wp,execOp,ev65,ev11,go_sem,f0,f1,z0,z1,hGl];have h9:=hJ.skip (i:=11) (v:=undef) rfl rfl hpre ((hJ.bw.setCell (p:=⟨g,0,none⟩) hBg (.bool (sg dd))).setCell (p:=⟨g,1,none⟩) hBg (.string (E dd.natAbs))) trivial ?_
        ·exact hK a' _ h9
        ·intro j q hq hj hdn d u hd hu hv;rw [hs0] at hv;rw [hs1];refine vCp7_sto ((hG.set 0 _).set 1 _) j u ?_ hv;rintro rfl;simp at hq;subst hq;cases hd
         rw [ev11] at hu;injection hu with hu
         exact hu.symm
       | 12,_,ho,hun,hpre =>
        simp at ho;subst ho;refine hJ.op (d:=12) hsl hst hFt hwz rfl rfl rfl (by decide) hpre ?_;simp only [List.getElem_toArray,List.getElem_cons_zero,List.getElem_cons_succ] at hpre ⊢;obtain ⟨v66,ev66,hv66⟩:=hJ.dn 9 _ 66 rfl (hpre { on:=9,ground:=Ground.data } (by simp) rfl) rfl;have qv66:=eval_of ev66;obtain rfl:v66=.int .i64 0:=hv66;refine wp_val (v:=.int .i64 0) (by simp [execOp,ev66,go_sem]) rfl
     ·intro done a' w' hJ hd;obtain ⟨f,hf,hv⟩:=hJ.all hd;have hs1:stB [11] done=[true]:=stB_all hd (by kernel_rfl);have h10:=hv 10 _ 11 rfl rfl;rw [hs1] at h10;obtain ⟨g11,e11,hB11,_,hG11⟩:=h10;replace hG11:=hG11 rfl;have hbw:=hJ.bw;clear hJ hv hd;subst hf;simp only [putAll,List.size_toArray,List.length_cons,List.length_nil,Nat.reduceAdd,List.getElem?_toArray,List.getElem?_cons_zero,List.getElem?_cons_succ,Option.bind_some,Act.put,List.setIfInBounds_toArray,List.set_cons_zero,List.set_cons_succ];rw [e11];go_wp2_with fail
      go_meet
      exact ⟨g11,rfl,hG11,hbw⟩
    case rest =>
     obtain ⟨g11,rfl,hD,hb6⟩:=hcut;obtain ⟨w6,hw6⟩:∃w6,w6=wc:=⟨_,rfl⟩;subst hw6;replace hB:=hB.after hb6;replace hZ:=hZ.after hb6;replace hBW:=bt hBW hb6;clear hb6 HOL;have hDl:=hD.lt;by_cases hneg:dd<0
     case pos =>
      have hsg:sg dd=true:=by unfold sg;exact decide_eq_true hneg
      have HEX:=Lib.hid HCP.out.exp;rw [hsg] at hD HEX;have HNG:=Lib.hid (HCP.out.neg hneg);clear hneg hsg;obtain ⟨hBc0,hBf0,hBc1,hBf1,hBc2,hBf2,hBc3,hBf3,hBc4,hBf4,hBc5,hBf5,hBc6,hBf6,hBc7,hBf7,hBc8,hBf8,hBc9,hBf9,hBc10,hBf10⟩:=hB.x11;obtain ⟨hDc0,hDf0,hDc1,hDf1⟩:=hD.x2;go_wp2_with fail
      refine (HEX.out _).mono ?_;rintro e w7 ⟨rfl,hb7⟩;clear hBc0 hBf0 hBc1 hBf1 hBc2 hBf2 hBc3 hBf3 hBc4 hBf4 hBc5 hBf5 hBc6 hBf6 hBc7 hBf7 hBc8 hBf8 hBc9 hBf9 hBc10 hBf10;clear hDc0 hDf0 hDc1 hDf1;replace hBW:=bt hBW hb7;clear hb7 hD hDl hB;go_wp2_with fail
      refine (HW.out _).mono ?_;rintro e w8 ⟨rfl,hb8⟩;replace hBW:=bt hBW hb8;clear hb8;cases hb
      case false =>
       go_wp2;go_ret
       exact ⟨rfl,hBW⟩
      case true =>
       obtain rfl:one=1:=HNG.out (by trivial);have HN1:Hid (∀w:World,Calls Tryz.prog 17 #[.int .u64 1] w fun e w'=>e=.returned (.string (E 1))∧Below w.heap.size w w'):=fun w=>l27num_c 1 w (by decide)
       generalize E 1=s1 at HN1 ⊢;go_wp2_with fail
       refine (HN1.out _).mono ?_;rintro e w9 ⟨rfl,hb9⟩;go_wp2;go_ret
       exact ⟨rfl,bt hBW hb9⟩
     case neg =>
      have hsg:sg dd=false:=by unfold sg;exact decide_eq_false hneg
      rw [hsg] at hD;have HPS:=Lib.hid (HCP.out.pos hneg);have HCR:=Lib.hid HCP.out.cmr;have HCZ:=Lib.hid HCP.out.cmz;have HZ9:=Lib.hid HCP.out.len;clear hneg hsg HCP;obtain ⟨t1,ht1⟩:∃t:Bool,t=decide (c1<0):=⟨_,rfl⟩;have HT1:=Lib.hid ht1;have ht1':=ht1.symm;clear ht1;obtain ⟨hBc0,hBf0,hBc1,hBf1,hBc2,hBf2,hBc3,hBf3,hBc4,hBf4,hBc5,hBf5,hBc6,hBf6,hBc7,hBf7,hBc8,hBf8,hBc9,hBf9,hBc10,hBf10⟩:=hB.x11;obtain ⟨hDc0,hDf0,hDc1,hDf1⟩:=hD.x2;go_wp2_with fail
      refine (HCR.out _).mono ?_;rintro e w7 ⟨rfl,hb7⟩;clear hBc0 hBf0 hBc1 hBf1 hBc2 hBf2 hBc3 hBf3 hBc4 hBf4 hBc5 hBf5 hBc6 hBf6 hBc7 hBf7 hBc8 hBf8 hBc9 hBf9 hBc10 hBf10;clear hDc0 hDf0 hDc1 hDf1;replace hB:=hB.after hb7;replace hZ:=hZ.after hb7;replace hBW:=bt hBW hb7;clear hb7 hD hDl HCR;go_wp2;go_loopw [15,16] (fun f i wr=>∃(m:Nat) (fb:Bool),m≤8∧m%2=0∧i=.int .i64 (m:Int)∧f=.bool fb∧Hid (fb=true→t1=true∧∀j,2*j<m→cz (2*j)<0)∧Below w7.heap.size w7 wr) (fun _ i _=>8-(intOf i).toNat)
      case atStart=>exact ⟨0,t1,by omega,rfl,rfl,rfl,(by intro h;exact ⟨h,fun j hj=>by omega⟩),Below.refl _ _⟩
      case round =>
       obtain ⟨m,fb,hm,hm2,rfl,rfl,HJ,hbr⟩:=hrel;obtain ⟨wp,hwp⟩:∃wp,wp=wr:=⟨_,rfl⟩;subst hwp;by_cases hlt:m<8
       ·have h0k:(0:Int)≤(m:Int):=by omega
        have h1k:(m:Int)<8:=by omega
        have h2k:(m:Int)<9:=by omega
        have HM2:Hid (m%2=0):=hm2;clear hm2;cases fb
        case false =>
         have HF:Hid (false=true→t1=true∧∀j,2*j<m+2→cz (2*j)<0):=fun h=>(by cases h)
         go_upto_region 15 with fail
         go_wp2_with fail
         refine wp_region_gw (by kernel_rfl) (by kernel_rfl) ?_;repeat (go_big_quiet_step (first | (fail)))
         refine wpQuiet_nil ?_;rintro w8 ⟨xw8,rfl⟩;have hb8:=gw_below xw8;generalize gw xw8=w8 at hb8;go_wp2;go_roundw
         case rel=>exact ⟨m+2,false,by have:=HM2.out;omega,by have:=HM2.out;omega,by go_num,rfl,HF,bt hbr hb8⟩
         case measure=>simp [intOf];omega
        case true =>
         have hmz:m<Z.length:=by rw [HZ9.out];omega
         obtain ⟨bz,oz,rfl,hbz,z1,z2⟩:=(ZsAt.after hZ hbr).at_ hmz
         have HCM:Hid (∀w:World,Calls Tryz.prog 18 #[.string (E (Z[m]'hmz).natAbs),.string vl] w fun e w'=>e=.returned (.int .i64 (cz m))∧Below w.heap.size w w'):=fun w=>by
          have h:=HCZ.out m (by omega) w;rwa [List.getD_eq_getElem?_getD,List.getElem?_eq_getElem hmz] at h
         generalize (Z[m]'hmz)=zm at z1 z2 HCM;have hBr:=hB.after hbr;have hBl:=hBr.lt;have x9:=hBr.cell 9;have g1:=gcl (a:=⟨bz,oz+m*2+1,none⟩) hbz z2;have g2:=gcl (a:=⟨w.heap.size,9,none⟩) hBl x9;obtain ⟨t3,ht3⟩:∃t:Bool,t=decide (cz m<0):=⟨_,rfl⟩;have HT3:=Lib.hid ht3;have ht3':=ht3.symm;clear ht3 z1 hBr;go_upto_region 15 with fail
         go_wp2_with fail
         refine wp_region_gw (by kernel_rfl) (by kernel_rfl) ?_;repeat (go_big_quiet_step (first | (go_at_call 18;exact gw_of (HCM.out _))))
         refine wpQuiet_nil ?_;rintro w8 ⟨xw8,rfl⟩;have hb8:=gw_below xw8;generalize gw xw8=w8 at hb8;clear g1 g2 x9 z2
         have HF:Hid (t3=true→t1=true∧∀j,2*j<m+2→cz (2*j)<0):=fun h=>by
          have h1:=HJ.out (by trivial);refine ⟨h1.1,fun j hj=>?_⟩;have he:=HM2.out;rcases Nat.lt_or_ge (2*j) m with h2 | h2
          ·exact h1.2 j h2
          ·obtain rfl:m=2*j:=by omega
           have h3:=HT3.out;rw [h] at h3;exact of_decide_eq_true h3.symm
         go_wp2;go_roundw
         case rel=>exact ⟨m+2,t3,by have:=HM2.out;omega,by have:=HM2.out;omega,by go_num,rfl,HF,bt hbr hb8⟩
         case measure=>simp [intOf];omega
       ·obtain rfl:m=8:=by omega
        go_wp2_with fail
        refine (HW.out _).mono ?_;rintro e w8 ⟨rfl,hb8⟩;replace hBW:=bt hBW (bt hbr hb8);clear hb8 hbr hlt hm hm2;cases hb
        case true =>
         go_wp2;go_ret
         exact ⟨rfl,hBW⟩
        case false =>
         have hfb:fb=false:=by
          cases fb
          ·rfl
          ·obtain ⟨h1,h2⟩:=HJ.out (by trivial);have h3:=HT1.out;rw [h1] at h3;exact (HPS.out (of_decide_eq_true h3.symm) (fun j hj=>h2 j (by omega))).symm ▸ rfl
         subst hfb;go_wp2;go_ret
         exact ⟨rfl,hBW⟩
end
section
open Go.RowKit Go.Shelf
theorem cmp_iff {a b:Nat} (h:cmpN a b<0):a<b:=by
 rcases Nat.lt_or_ge a b with h1 | h1
 ·exact h1
 ·exact absurd h (cmp_nneg a b h1)
theorem cp_ok {att:Att} {a b c d:ByteArray} {lo:Int} {vn:Bool} {va:ByteArray} {rn:Bool} {ra vl rd:ByteArray} {T:Tp} (ha:a.size≤8) (hva:va.size≤12) (hra:ra.size≤12) (hvl:vl.size≤12) (hrd:rd.size≤12) (hlo:lo.natAbs<1099511627776)
  (h1:cmE a b c d vn va rn ra=0) (h2:(prR att a b c d lo vn va rn ra rd T).err=0)
  (h3:(stR a b c d lo (E (cmC a b c d vn va rn ra)) ((prR att a b c d lo vn va rn ra rd T).parts.map E) vl rd).1=0) (h4:(witR a b c d vn va rn ra ((prR att a b c d lo vn va rn ra rd T).ops.map nop)).1=0) :
  ∃(hb:Bool) (dd c1:Int) (cz:Nat→Int) (one:Nat),CpOk a b c vn va ra vl rd lo (stR a b c d lo (E (cmC a b c d vn va rn ra)) ((prR att a b c d lo vn va rn ra rd T).parts.map E) vl rd).2 (witR a b c d vn va rn ra ((prR att a b c d lo vn va rn ra rd T).ops.map nop)).2 hb dd c1 cz one:=by
 rw [witR_ok h4];clear h4;obtain ⟨hiv,hir⟩:=cmE_ok h1;obtain ⟨hky,hd32,hall,hR⟩:=prR_ok h2;have hchk:=stC_k0 h3;obtain ⟨_,hvc,hvv,hvr,hvp⟩:=chk_nums hchk;obtain ⟨vb,hvb,rfl⟩:=of_vldB hvv;obtain ⟨rb,hrb,rfl⟩:=of_vldB hvr;obtain ⟨p,g,h,⟨hp,hg,hh⟩,rfl,rfl,rfl,rfl,hpe⟩:=kyV_zero hky ha;obtain ⟨V,hV,rfl,rfl⟩:=of_ivB hiv;obtain ⟨r,hr,rfl,rfl⟩:=of_ivB hir;obtain ⟨t,hg1,hgr,hhg,hhh⟩:=ped_two hpe;have hVb:V.natAbs<256^12:=lt_of_size hva;have hrb2:r.natAbs<256^12:=lt_of_size hra;have hvb12:vb<256^12:=lt_of_size hvl;have hrb12:rb<256^12:=lt_of_size hrd;rw [intb_I] at hd32;rw [numb_E] at hall;rw [intb_I,numb_E,numb_E,numb_E,numb_E] at hR;rw [hR] at h3 hvp ⊢;have hcx:=(cmC_num (p:=p) (g:=g) (h:=h) V r (Nat.lt_of_lt_of_le hp (by decide)) hg hh hV hr hpe).2;rw [hcx] at h3 hvc ⊢;clear hR h2 h1;obtain ⟨X,hX⟩:∃X,X=roots (V-lo):=⟨_,rfl⟩;have hXl:=roots_len (V-lo);rw [←hX] at h3 hvp hXl ⊢;match X,hXl,hX with
 | [x0,x1,x2,x3],_,hX =>
  obtain ⟨c0,hc0⟩:∃n,n=(prC att rb T 0).2:=⟨_,rfl⟩;obtain ⟨c1,hc1⟩:∃n,n=(prC att rb T 1).2:=⟨_,rfl⟩;obtain ⟨c2,hc2⟩:∃n,n=(prC att rb T 2).2:=⟨_,rfl⟩;obtain ⟨c3,hc3⟩:∃n,n=(prC att rb T 3).2:=⟨_,rfl⟩;have k0:c0<rb:=by rw [hc0];exact prC_lt (hall 0 (by decide))
  have k1:c1<rb:=by rw [hc1];exact prC_lt (hall 1 (by decide))
  have k2:c2<rb:=by rw [hc2];exact prC_lt (hall 2 (by decide))
  have k3:c3<rb:=by rw [hc3];exact prC_lt (hall 3 (by decide))
  have hP:(PrR.mk 0 (prP att p g h rb [x0,x1,x2,x3] T 4) (prO att rb [x0,x1,x2,x3] T 4) (T.on 4)).parts=cms p g h [((x0:Int),(c0:Int)),(x1,c1),(x2,c2),(x3,c3)]:=by rw [hc0,hc1,hc2,hc3];rfl
  have hO:(PrR.mk 0 (prP att p g h rb [x0,x1,x2,x3] T 4) (prO att rb [x0,x1,x2,x3] T 4) (T.on 4)).ops=[(x0,c0),(x1,c1),(x2,c2),(x3,c3)]:=by rw [hc0,hc1,hc2,hc3];rfl
  rw [hP] at h3 hvp ⊢;rw [hO,intb_I];have ei:∀n:Nat,intb false (E n)=(n:Int):=fun n=>by unfold intb;rw [numb_E];rfl
  have hZ:oZ (([(x0,c0),(x1,c1),(x2,c2),(x3,c3)]:List (Nat × Nat)).map nop)++[restL r (([(x0,c0),(x1,c1),(x2,c2),(x3,c3)]:List (Nat × Nat)).map nop)]=zs9 [((x0:Int),(c0:Int)),(x1,c1),(x2,c2),(x3,c3)] (r-prd [((x0:Int),(c0:Int)),(x1,c1),(x2,c2),(x3,c3)]):=by
   show [intb false (E x0),intb false (E c0),intb false (E x1),intb false (E c1),intb false (E x2),intb false (E c2),intb false (E x3),intb false (E c3),r-intb false (E x0)*intb false (E c0)-intb false (E x1)*intb false (E c1)-intb false (E x2)*intb false (E c2)-intb false (E x3)*intb false (E c3)]=[(x0:Int),c0,x1,c1,x2,c2,x3,c3,r-((x0:Int)*c0+(x1*c1+(x2*c2+(x3*c3+0))))];simp only [ei];congr 9
   omega
  rw [hZ];obtain ⟨hv0,hr0,hP4,hall2,hst⟩:=stC_ok h3;rw [hst];have hxh:hasB p 0 (cmtN p g h V r)=true:=cmt_has t V r;have hPh:=cms_hasC t [((x0:Int),(c0:Int)),(x1,c1),(x2,c2),(x3,c3)];have hx8:∀j,([x0,x1,x2,x3]:List Nat).getD j 0<256^8:=fun j=>by rw [hX];exact roots_lt hd32 j
  have hx0:x0<256^8:=hx8 0;have hx1:x1<256^8:=hx8 1;have hx2:x2<256^8:=hx8 2;have hx3:x3<256^8:=hx8 3
  have hpz:(r-prd [((x0:Int),(c0:Int)),(x1,c1),(x2,c2),(x3,c3)]).natAbs<256^64:=by
   have m:∀{x y:Nat},x<256^8→y<rb→x*y≤256^8*256^12:=fun hx hy=>Nat.mul_le_mul (Nat.le_of_lt hx) (Nat.le_of_lt (Nat.lt_trans hy hrb12))
   have m0:=m hx0 k0;have m1:=m hx1 k1;have m2:=m hx2 k2;have m3:=m hx3 k3;show (r-((x0:Int)*c0+((x1:Int)*c1+((x2:Int)*c2+((x3:Int)*c3+0))))).natAbs<_;simp only [←Int.natCast_mul];have h20:(256:Nat)^8*256^12*5<256^64:=by decide
   have h12:(256:Nat)^12≤256^8*256^12:=by decide
   generalize (256:Nat)^8*256^12=M at m0 m1 m2 m3 h20 h12;omega
  have h64:∀n:Nat,n<256^12→((n:Int)).natAbs<256^64:=fun n hn=>by rw [Int.natAbs_natCast];exact Nat.lt_trans hn (by decide)
  have u12:∀{n:Nat},n<256^8→n<256^12:=fun h=>Nat.lt_trans h (by decide)
  have hzb:∀z∈zs9 [((x0:Int),(c0:Int)),(x1,c1),(x2,c2),(x3,c3)] (r-prd [((x0:Int),(c0:Int)),(x1,c1),(x2,c2),(x3,c3)]),z.natAbs<256^64:=fun z hz=>by
   have hz:z∈[(x0:Int),c0,x1,c1,x2,c2,x3,c3,r-prd [((x0:Int),(c0:Int)),(x1,c1),(x2,c2),(x3,c3)]]:=hz;simp only [List.mem_cons,List.not_mem_nil,or_false] at hz;rcases hz with rfl | rfl | rfl | rfl | rfl | rfl | rfl | rfl | rfl
   ·exact h64 _ (u12 hx0)
   ·exact h64 _ (Nat.lt_trans k0 hrb12)
   ·exact h64 _ (u12 hx1)
   ·exact h64 _ (Nat.lt_trans k1 hrb12)
   ·exact h64 _ (u12 hx2)
   ·exact h64 _ (Nat.lt_trans k2 hrb12)
   ·exact h64 _ (u12 hx3)
   ·exact h64 _ (Nat.lt_trans k3 hrb12)
   ·exact hpz
  obtain ⟨Z,hZZ⟩:∃Z,Z=zs9 [((x0:Int),(c0:Int)),(x1,c1),(x2,c2),(x3,c3)] (r-prd [((x0:Int),(c0:Int)),(x1,c1),(x2,c2),(x3,c3)]):=⟨_,rfl⟩;have hZ9:Z.length=9:=by rw [hZZ];rfl
  have hcz:∀j,j<9→(Z.getD j 0).natAbs<256^64:=fun j hj=>by
   rw [List.getD_eq_getElem?_getD,List.getElem?_eq_getElem (by omega)];exact hzb _ (by rw [←hZZ];exact List.getElem_mem (by omega))
  have hdd:(V-lo).natAbs<256^128:=by
   have h3:(256:Nat)^12+1099511627776<256^128:=by decide
   omega
  refine ⟨(stN p g h lo (cmtN p g h V r) (cms p g h [((x0:Int),(c0:Int)),(x1,c1),(x2,c2),(x3,c3)]) vb rb).hldB Z,V-lo,cmpN r.natAbs rb,fun j=>cmpN (Z.getD j 0).natAbs vb,powI g (V-lo) p,?_⟩;rw [←hZZ];refine ⟨hZ9,fun v1 v2 v3 vW w' hN hZs=>?_,fun w'=>?_,fun w'=>?_,fun w'=>?_,fun j hj w'=>?_,fun hneg hh=>?_,fun hpos hc1' hcz'=>?_⟩
  ·have h9:=rholds_c _ Z v1 v2 v3 vW w' (stN_ok (lo:=lo) hp hpe hxh hP4 hPh hvb12 hrb12) hN hZs (by rw [hZZ];exact hzb) (by omega) (stN_chk (lo:=lo) hpe hxh hP4 hPh hv0 hr0)
   have e0:(stN p g h lo (cmtN p g h V r) (cms p g h [((x0:Int),(c0:Int)),(x1,c1),(x2,c2),(x3,c3)]) vb rb).hldE Z=0:=by
    unfold NSta.hldE;rw [if_neg];rw [hZ9];exact fun hh=>hh rfl
   rw [e0] at h9;exact h9
  ·exact risub_c (x:=V) (y:=lo) (w:=w') hV (lo128 hlo) hdd
  ·exact rexp13_c p 0 g (V-lo) w' hp (by decide) hgr hhg hdd
  ·exact rcmp_c r.natAbs rb w' hr hrb
  ·exact rcmp_c _ vb w' (Nat.lt_trans (hcz j hj) (by decide)) hvb
  ·have e:roots (V-lo)=[0,0,0,0]:=by unfold roots;rw [if_pos hneg]
   rw [e] at hX;simp only [List.cons.injEq,and_true] at hX;obtain ⟨rfl,rfl,rfl,rfl⟩:=hX;rw [hZZ] at hh;exact comp27_neg t hv0 hr0 c0 c1 c2 c3 _ rfl _ rfl hh
  ·have hrr:=cmp_iff hc1';have q0:x0<vb:=by have:=cmp_iff (hcz' 0 (by decide));rw [hZZ] at this;exact this
   have q1:x1<vb:=by have:=cmp_iff (hcz' 1 (by decide));rw [hZZ] at this;exact this
   have q2:x2<vb:=by have:=cmp_iff (hcz' 2 (by decide));rw [hZZ] at this;exact this
   have q3:x3<vb:=by have:=cmp_iff (hcz' 3 (by decide));rw [hZZ] at this;exact this
   obtain ⟨y0,y1,y2,y3,e1,e2⟩:=fourF_spec (V-lo).natAbs;have e:roots (V-lo)=[y0,y1,y2,y3]:=by unfold roots;rw [if_neg hpos,e1];rfl
   rw [e] at hX;simp only [List.cons.injEq,and_true] at hX;obtain ⟨rfl,rfl,rfl,rfl⟩:=hX;rw [hZZ];exact comp27_ge t hv0 hr0 x0 c0 x1 c1 x2 c2 x3 c3 hrr q0 q1 q2 q3 k0 k1 k2 k3 (by rw [←e2];omega) _ rfl
theorem cp27_c (a b c d:ByteArray) (lo:Int) (vn:Bool) (va:ByteArray) (rn:Bool) (ra vl rd:ByteArray) (V:List ByteArray) (sd:ByteArray) (ti:Int) (st:Option Addr) (mt dt:Nat) (w:World)
  (hva:va.size≤9223372036854775807) (hra:ra.size≤9223372036854775807) (hVl:V.length≤9223372036854775807) (hV1:∀x∈V,x.size≤9223372036854775807) (hsd:sd.size≤9223372036854775807) (hVs:SsAt w (.slice st mt dt) V) (ht:TabW w) :
  Calls Tryz.prog 3 #[.agg #[.string a,.string b,.string c,.string d,.int .i64 lo,.bool vn,.string va,.bool rn,.string ra,.string vl,.string rd],.agg #[.slice st mt dt,.string sd,.int .i64 ti]] w fun e w'=>e=.returned (.bool true)∧Below w.heap.size w w':=by
 refine cp_walk a b c d lo vn va rn ra vl rd sd ti st mt dt w (tfw V sd) (gate27 a b c d lo va ra vl rd) (fun w'=>l27small_c a b c d lo vn va rn ra vl rd w' hva hra) (fun w' hb=>l27few_c V sd ti _ w' hVl hV1 (SsAt.after hVs hb)) (fun hg ho=>?_);obtain ⟨hk,h1,h2,h3,h4,h5,h6⟩:=hg;obtain ⟨k1,k2,k3,k4⟩:=kfw_inv hk;obtain ⟨p1,p2,p3⟩:=tfwc_inv ho;have hok:(Tp.mk V sd ti).Ok:=⟨by show V.length≤_;omega,fun x hx=>by have:=p2 x hx;omega,by show sd.size≤_;omega⟩;obtain ⟨b1',b2',b3',b4'⟩:=prR_bnd (att:=attN) (a:=a) (b:=b) (c:=c) (d:=d) (lo:=lo) (vn:=vn) (va:=va) (rn:=rn) (ra:=ra) (rd:=rd) (T:=⟨V,sd,ti⟩) k1 h4
 refine ⟨by omega,by omega,(stR a b c d lo (E (cmC a b c d vn va rn ra)) ((prR attN a b c d lo vn va rn ra rd ⟨V,sd,ti⟩).parts.map E) vl rd).2,(witR a b c d vn va rn ra ((prR attN a b c d lo vn va rn ra rd ⟨V,sd,ti⟩).ops.map nop)).2,
  okB (cmE a b c d vn va rn ra) (prR attN a b c d lo vn va rn ra rd ⟨V,sd,ti⟩).err (stR a b c d lo (E (cmC a b c d vn va rn ra)) ((prR attN a b c d lo vn va rn ra rd ⟨V,sd,ti⟩).parts.map E) vl rd).1 (witR a b c d vn va rn ra ((prR attN a b c d lo vn va rn ra rd ⟨V,sd,ti⟩).ops.map nop)).1,
  fun w' hb=>?_,fun hk9=>?_⟩
 ·refine Calls.mono ?_ (fun _ _ h=>MdPostF.of (TP:=(prR attN a b c d lo vn va rn ra rd ⟨V,sd,ti⟩).tp) h);refine made_walk a b c d lo vn va rn ra vl rd sd ti st mt dt w' (cmE a b c d vn va rn ra) (cmC a b c d vn va rn ra) (prR attN a b c d lo vn va rn ra rd ⟨V,sd,ti⟩) (stR a b c d lo (E (cmC a b c d vn va rn ra)) ((prR attN a b c d lo vn va rn ra rd ⟨V,sd,ti⟩).parts.map E) vl rd) (witR a b c d vn va rn ra ((prR attN a b c d lo vn va rn ra rd ⟨V,sd,ti⟩).ops.map nop)) (stR_vars _ _ _ _ _ _ _ _ _) (fun w2 hb2=>?_) (fun w2 hb2=>?_) (fun u w2 hb2 hu=>?_) (fun u w2 hb2 hu=>?_)
  ·exact r14commitO_c a b c d vn va rn ra w2 k1 (by omega) (by omega) (by omega) (by omega) (by omega)
  ·exact sqprep_f attN a b c d lo vn va rn ra rd ⟨V,sd,ti⟩ _ w2 (hatt sd w2 (by omega) (ht.after (bt hb hb2))) hok k1 (by omega) (by omega) (by omega) h1 h2 h4 h5 h6 (SsAt.after hVs (bt hb hb2))
  ·exact sqstat_c a b c d lo _ _ vl rd u w2 k1 (by omega) (by omega) (by omega) (by have:=(E_size_le _ 8).2 (cmC_lt a b c d vn va rn ra k1);omega) (by rw [List.length_map];omega) (fun x hx=>by
    obtain ⟨y,hy,rfl⟩:=List.mem_map.1 hx;have:=(E_size_le _ 8).2 (b2' y hy);omega) h3 h4 h5 h6 hu
  ·exact sqwit_c a b c d lo vn va rn ra _ u w2 k1 (by omega) (by omega) (by omega) h1 h2 (by rw [List.length_map];omega) (fun o ho=>by
    obtain ⟨y,hy,rfl⟩:=List.mem_map.1 ho;exact ⟨(E_size_le _ 12).2 (b4' y hy).1,(E_size_le _ 12).2 (b4' y hy).2⟩) hu
 ·unfold okB at hk9;simp only [Bool.and_eq_true,beq_iff_eq] at hk9;exact cp_ok k1 h1 h2 h3 h4 (by omega) hk9.1.1.1 hk9.1.1.2 hk9.1.2 hk9.2
end
end Go.Proofs.YteahlbhjhjhljaaGreatDoor
