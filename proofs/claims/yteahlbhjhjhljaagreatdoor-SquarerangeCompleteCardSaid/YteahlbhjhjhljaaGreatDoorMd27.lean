/- dominolaw27.made. -/
import Derived.Test.YteahlbhjhjhljaaGreatDoorSq27
import Derived.Test.YteahlbhjhjhljaaGreatDoorCpa27
import Derived.Test.YteahlbhjhjhljaaGreatDoorPp27
import Derived.Test.YteahlbhjhjhljaaGreatDoorLc27
import Derived.Test.YteahlbhjhjhljaaGreatDoorCo2
set_option linter.unusedVariables false
set_option linter.unusedSimpArgs false
set_option maxRecDepth 100000
set_option maxHeartbeats 16000000
namespace Go.Proofs.YteahlbhjhjhljaaGreatDoor
open Go.RowKit Go.Shelf
theorem NAt.slm {w:World} {v1 v2 v3:Value} {N:NSta} (h:NAt w v1 v2 v3 N):(∃a n c,v1=.slice a n c)∧(∃a n c,v2=.slice a n c)∧∃a n c,v3=.slice a n c:=by
 obtain ⟨a1,c1,a2,c2,a3,c3,rfl,rfl,rfl⟩:=h.forms;exact ⟨⟨_,_,_,rfl⟩,⟨_,_,_,rfl⟩,⟨_,_,_,rfl⟩⟩
theorem RAt.setN {α:Type} {Q:World→α→List Value→Prop} {size g i:Nat} {w:World} {v x:Value} {l:List α} (h:RAt Q size w v l) (hne:∀o a cs,Q w a cs→(∀i,i<size→w.cell? ⟨g,o+i,none⟩=cs[i]?)→False) (hQ:∀a cs,Q w a cs→Q (w.setCell ⟨g,i,none⟩ x) a cs):RAt Q size (w.setCell ⟨g,i,none⟩ x) v l:=by
 obtain ⟨ao,c,rfl,h⟩:=h;refine ⟨ao,c,rfl,?_⟩;rcases h with h | ⟨b,o,h1,h2,h3⟩
 ·exact .inl h
 ·by_cases hl:l.length=0
  ·exact .inl hl
  ·have hb:b≠g:=fun e=>by
    obtain ⟨cs,h4,h5⟩:=h3 0 (by omega);subst e;refine hne o _ cs h4 fun i hi=>?_
    have:=h5 i hi;rwa [Nat.zero_mul,Nat.add_zero] at this
   refine .inr ⟨b,o,h1,by rw [World.size_setCell];exact h2,fun j hj=>?_⟩;obtain ⟨cs,h4,h5⟩:=h3 j hj;exact ⟨cs,hQ _ _ h4,fun i hi=>by rw [World.cell?_setCell_other _ _ _ _ (fun e=>hb (congrArg Addr.block e).symm)];exact h5 i hi⟩
theorem blk_cell {w:World} {g o:Nat} {T:TypeId} {cs:List Value} (h:Blk w g T cs):w.cell? ⟨g,o,none⟩=cs[o]?:=by
 unfold Blk at h;rw [cell_of_row w g o _ T (0,0) h];simp
def OnlyS (w:World) (g:Nat):Prop:=∀o u,w.cell? ⟨g,o,none⟩=some u→∃a n c,u=.slice a n c
def TapeB (w:World) (g:Nat):Prop:=∀o u,w.cell? ⟨g,o,none⟩=some u→(o=0∧∃a n c,u=.slice a n c)∨(o=1∧∃s,u=.string s)∨(o=2∧∃z,u=.int .i64 z)
theorem onlyS {w:World} {g n1 c1 n2 c2 n3 c3:Nat} {a1 a2 a3:Option Addr} {T:TypeId} (h:Blk w g T [.slice a1 n1 c1,.slice a2 n2 c2,.slice a3 n3 c3]):OnlyS w g:=fun o u hu=>by
 rw [blk_cell h] at hu;match o with
 | 0=>injection hu with hu;exact ⟨_,_,_,hu.symm⟩
 | 1=>injection hu with hu;exact ⟨_,_,_,hu.symm⟩
 | 2=>injection hu with hu;exact ⟨_,_,_,hu.symm⟩
 | o+3=>simp at hu
theorem tapeB {w:World} {g n1 c1:Nat} {a1:Option Addr} {s:ByteArray} {z:Int} {T:TypeId} (h:Blk w g T [.slice a1 n1 c1,.string s,.int .i64 z]):TapeB w g:=fun o u hu=>by
 rw [blk_cell h] at hu;match o with
 | 0=>injection hu with hu;exact .inl ⟨rfl,_,_,_,hu.symm⟩
 | 1=>injection hu with hu;exact .inr (.inl ⟨rfl,_,hu.symm⟩)
 | 2=>injection hu with hu;exact .inr (.inr ⟨rfl,_,hu.symm⟩)
 | o+3=>simp at hu
theorem ts_setS {w:World} {g i:Nat} {v x:Value} {l:List Trm} (h:TsAt w v l) (k:OnlyS w g):TsAt (w.setCell ⟨g,i,none⟩ x) v l:=
 RAt.setN h (fun o a cs hq hc=>by rw [show cs=_ from hq] at hc;obtain ⟨_,_,_,e⟩:=k _ _ (hc 0 (by decide));cases e) (fun _ _ h=>h)
theorem ts_setO {w:World} {g i:Nat} {v x:Value} {l:List Trm} (h:TsAt w v l) (k:TapeB w g):TsAt (w.setCell ⟨g,i,none⟩ x) v l:=
 RAt.setN h (fun o a cs hq hc=>by
  rw [show cs=_ from hq] at hc;rcases k _ _ (hc 2 (by decide)) with ⟨_,_,_,_,e⟩ | ⟨_,_,e⟩ | ⟨_,_,e⟩ <;> cases e) (fun _ _ h=>h)
theorem NAt.setS {w:World} {g i:Nat} {v1 v2 v3 x:Value} {N:NSta} (h:NAt w v1 v2 v3 N) (k:OnlyS w g):NAt (w.setCell ⟨g,i,none⟩ x) v1 v2 v3 N:=by
 refine ⟨?_,?_,?_⟩
 ·exact RAt.setN h.g (fun o a cs hq hc=>by rw [show cs=_ from hq] at hc;obtain ⟨_,_,_,e⟩:=k _ _ (hc 0 (by decide));cases e) (fun _ _ h=>h)
 ·exact RAt.setN h.v (fun o a cs hq hc=>by rw [show cs=_ from hq] at hc;obtain ⟨_,_,_,e⟩:=k _ _ (hc 0 (by decide));cases e) (fun _ _ h=>h)
 ·exact RAt.setN h.e (fun o a cs hq hc=>by obtain ⟨tv,hq,_⟩:=hq;rw [hq] at hc;obtain ⟨_,_,_,e⟩:=k _ _ (hc 0 (by decide));cases e) (fun a cs hq=>by obtain ⟨tv,hq,ht⟩:=hq;exact ⟨tv,hq,ts_setS ht k⟩)
theorem NAt.setO {w:World} {g i:Nat} {v1 v2 v3 x:Value} {N:NSta} (h:NAt w v1 v2 v3 N) (k:TapeB w g) (hv:N.vars.length≠1):NAt (w.setCell ⟨g,i,none⟩ x) v1 v2 v3 N:=by
 refine ⟨?_,?_,?_⟩
 ·exact RAt.setN h.g (fun o a cs hq hc=>by
   rw [show cs=_ from hq] at hc;rcases k _ _ (hc 0 (by decide)) with ⟨_,_,_,_,e⟩ | ⟨e1,_,e⟩ | ⟨_,_,e⟩
   ·cases e
   ·rcases k _ _ (hc 1 (by decide)) with ⟨_,_,_,_,e'⟩ | ⟨e2,_,e'⟩ | ⟨_,_,e'⟩
    ·cases e'
    ·omega
    ·cases e'
   ·cases e) (fun _ _ h=>h)
 ·refine SsAt.set_far h.v fun b o n c e hn he=>?_
  subst he;have hv':=h.v;subst e;obtain ⟨a',c',e'⟩:=RAt.form hv';injection e' with _ e2 _
  have hl:(NSta.s N).vars.length=N.vars.length:=by simp [NSta.s]
  have h2:1<(NSta.s N).vars.length:=by omega
  obtain ⟨b0,o0,q0,_,x0⟩:=SsAt.at_ hv' (show 0<(NSta.s N).vars.length by omega);obtain ⟨b1',o1,q1,_,x1⟩:=SsAt.at_ hv' h2;injection q0 with q0;injection q0 with q01 q02
  injection q1 with q1;injection q1 with q11 q12
  subst q01 q02 q11 q12;rcases k _ _ x0 with ⟨_,_,_,_,e⟩ | ⟨e1,_,e⟩ | ⟨_,_,e⟩
  ·cases e
  ·rcases k _ _ x1 with ⟨_,_,_,_,e'⟩ | ⟨e2,_,e'⟩ | ⟨_,_,e'⟩
   ·cases e'
   ·omega
   ·cases e'
  ·cases e
 ·exact RAt.setN h.e (fun o a cs hq hc=>by
   obtain ⟨tv,hq,_⟩:=hq;rw [hq] at hc;rcases k _ _ (hc 0 (by decide)) with ⟨_,_,_,_,e⟩ | ⟨_,_,e⟩ | ⟨e1,_,e⟩
   ·cases e
   ·cases e
   ·rcases k _ _ (hc 1 (by decide)) with ⟨_,_,_,_,e'⟩ | ⟨e2,_,e'⟩ | ⟨_,_,e'⟩
    ·cases e'
    ·omega
    ·cases e') (fun a cs hq=>by obtain ⟨tv,hq,ht⟩:=hq;exact ⟨tv,hq,ts_setO ht k⟩)
theorem ZsAt.setS {w:World} {g i:Nat} {v x:Value} {Z:List Int} (h:ZsAt w v Z) (k:OnlyS w g):ZsAt (w.setCell ⟨g,i,none⟩ x) v Z:=
 RAt.setN h (fun o a cs hq hc=>by rw [show cs=_ from hq] at hc;obtain ⟨_,_,_,e⟩:=k _ _ (hc 0 (by decide));cases e) (fun _ _ h=>h)
theorem ZsAt.setO {w:World} {g i:Nat} {v x:Value} {Z:List Int} (h:ZsAt w v Z) (k:TapeB w g):ZsAt (w.setCell ⟨g,i,none⟩ x) v Z:=
 RAt.setN h (fun o a cs hq hc=>by
  rw [show cs=_ from hq] at hc;rcases k _ _ (hc 0 (by decide)) with ⟨_,_,_,_,e⟩ | ⟨_,_,e⟩ | ⟨_,_,e⟩ <;> cases e) (fun _ _ h=>h)
def okB (a b c d:Nat):Bool:=a==0&&b==0&&c==0&&d==0
def MdPost (w:World) (N:NSta) (Z:List Int) (ok:Bool) (e:Ending) (w':World):Prop:=∃v1 v2 v3 vw tu tn tc ts ti,e=.returned (.tuple #[.agg #[v1,v2,v3],vw,.agg #[.slice tu tn tc,.string ts,.int .i64 ti],.bool ok])∧NAt w' v1 v2 v3 N∧ZsAt w' vw Z∧Below w.heap.size w w'
def MdPostF (w:World) (N:NSta) (Z:List Int) (ok:Bool) (TP:Tp) (e:Ending) (w':World):Prop:=∃v1 v2 v3 vw tu tc,e=.returned (.tuple #[.agg #[v1,v2,v3],vw,.agg #[.slice tu TP.vals.length tc,.string TP.seed,.int .i64 TP.pos],.bool ok])∧NAt w' v1 v2 v3 N∧ZsAt w' vw Z∧SsAt w' (.slice tu TP.vals.length tc) TP.vals∧(∀g,g<w.heap.size→FarS (.slice tu TP.vals.length tc) g)∧Below w.heap.size w w'
theorem MdPostF.of {w w':World} {N:NSta} {Z:List Int} {ok:Bool} {TP:Tp} {e:Ending} (h:MdPostF w N Z ok TP e w'):MdPost w N Z ok e w':=by
 obtain ⟨v1,v2,v3,vw,tu,tc,h1,h2,h3,_,_,h6⟩:=h;exact ⟨v1,v2,v3,vw,tu,_,tc,_,_,h1,h2,h3,h6⟩
theorem made_walk (a b c d:ByteArray) (lo:Int) (vn:Bool) (va:ByteArray) (rn:Bool) (ra vl rd sd:ByteArray) (ti:Int) (st:Option Addr) (mt dt:Nat) (w:World) (ce cx:Nat) (R:PrR) (S:Nat × NSta) (W:Nat × List Int) (hv9:S.2.vars.length≠1)
  (h1:∀w',Below w.heap.size w w'→Calls Tryz.prog 49 #[.agg #[.string a,.string b,.string c,.string d],.agg #[.bool vn,.string va,.bool rn,.string ra]] w' fun e w2=>e=.returned (.tuple #[.string (E cx),.int .i64 (ce:Int)])∧Below w'.heap.size w' w2)
  (h2:∀w',Below w.heap.size w w'→Calls Tryz.prog 43 #[.agg #[.string a,.string b,.string c,.string d],.int .i64 lo,.agg #[.bool vn,.string va,.bool rn,.string ra],.string rd,.agg #[.slice st mt dt,.string sd,.int .i64 ti]] w' (PrPostF w' R))
  (h3:∀u w',Below w.heap.size w w'→SsAt w' u (R.parts.map E)→Calls Tryz.prog 50 #[.agg #[.string a,.string b,.string c,.string d],.int .i64 lo,.string (E cx),u,.string vl,.string rd] w' (StPost w' S))
  (h4:∀u w',Below w.heap.size w w'→OsAt w' u (R.ops.map nop)→Calls Tryz.prog 47 #[.agg #[.string a,.string b,.string c,.string d],.int .i64 lo,.agg #[.bool vn,.string va,.bool rn,.string ra],u] w' (WtPost w' W)) :
  Calls Tryz.prog 12 #[.agg #[.string a,.string b,.string c,.string d,.int .i64 lo,.bool vn,.string va,.bool rn,.string ra,.string vl,.string rd],.agg #[.slice st mt dt,.string sd,.int .i64 ti]] w (MdPostF w S.2 W.2 (okB ce R.err S.1 W.1) R.tp):=by
 have H1:=Lib.hid h1;have H2:=Lib.hid h2;have H3:=Lib.hid h3;have H4:=Lib.hid h4;clear h1 h2 h3 h4;obtain ⟨hB,hT,hS,hO,hBW⟩:=blk4 w #[.string a,.string b,.string c,.string d,.int .i64 lo,.bool vn,.string va,.bool rn,.string ra,.string vl,.string rd] #[.slice st mt dt,.string sd,.int .i64 ti] #[.slice none 0 0,.slice none 0 0,.slice none 0 0] #[.slice none 0 0,.string ⟨#[]⟩,.int .i64 0] 32 35 43 35;obtain ⟨gT,hgT⟩:∃g,w.heap.size+1=g:=⟨_,rfl⟩;obtain ⟨gS,hgS⟩:∃g,w.heap.size+1+1=g:=⟨_,rfl⟩;obtain ⟨gO,hgO⟩:∃g,w.heap.size+1+1+1=g:=⟨_,rfl⟩;have HG1:=Lib.hid hgT;have HG2:=Lib.hid hgS;have HG3:=Lib.hid hgO;have HGW:Hid (w.heap.size<gT∧gT<gS∧gS<gO):=by rw [Hid];omega
 clear hgT hgS hgO;go_enter Tryz.func12,Tryz.ntmps12
 go_upto_region 1 with fail
 rw [HG3.out,HG2.out,HG1.out];replace hT:Blk _ gT 35 [.slice st mt dt,.string sd,.int .i64 ti]:=HG1.out ▸ hT;replace hS:Blk _ gS 43 [.slice none 0 0,.slice none 0 0,.slice none 0 0]:=HG2.out ▸ hS;replace hO:Blk _ gO 35 [.slice none 0 0,.string ⟨#[]⟩,.int .i64 0]:=HG3.out ▸ hO;generalize (((w.alloc (.cells #[.string a,.string b,.string c,.string d,.int .i64 lo,.bool vn,.string va,.bool rn,.string ra,.string vl,.string rd] 32)).alloc (.cells #[.slice st mt dt,.string sd,.int .i64 ti] 35)).alloc (.cells #[.slice none 0 0,.slice none 0 0,.slice none 0 0] 43)).alloc (.cells #[.slice none 0 0,.string ⟨#[]⟩,.int .i64 0] 35)=w1 at hB hT hS hO hBW ⊢;replace hB:Blk w1 w.heap.size 32 [.string a,.string b,.string c,.string d,.int .i64 lo,.bool vn,.string va,.bool rn,.string ra,.string vl,.string rd]:=hB;clear HG1 HG2 HG3;obtain ⟨hBc0,hBf0,hBc1,hBf1,hBc2,hBf2,hBc3,hBf3,hBc4,hBf4,hBc5,hBf5,hBc6,hBf6,hBc7,hBf7,hBc8,hBf8,hBc9,hBf9,hBc10,hBf10⟩:=hB.x11;go_wp2_with fail
 refine (H1.out _ hBW).mono ?_;rintro e w2 ⟨rfl,hb2⟩;clear hBc0 hBf0 hBc1 hBf1 hBc2 hBf2 hBc3 hBf3 hBc4 hBf4 hBc5 hBf5 hBc6 hBf6 hBc7 hBf7 hBc8 hBf8 hBc9 hBf9 hBc10 hBf10;replace hB:=hB.after hb2;replace hT:=hT.after hb2;replace hS:=hS.after hb2;replace hO:=hO.after hb2;replace hBW:=bt hBW hb2;clear hb2;obtain ⟨hBc0,hBf0,hBc1,hBf1,hBc2,hBf2,hBc3,hBf3,hBc4,hBf4,hBc5,hBf5,hBc6,hBf6,hBc7,hBf7,hBc8,hBf8,hBc9,hBf9,hBc10,hBf10⟩:=hB.x11;obtain ⟨hTc0,hTf0,hTc1,hTf1,hTc2,hTf2⟩:=hT.x3;go_wp2_with fail
 refine (H2.out _ hBW).mono ?_;rintro e w3 ⟨u,v,t,rfl,hN,hOp,hTA,htf,hb3⟩;clear hBc0 hBf0 hBc1 hBf1 hBc2 hBf2 hBc3 hBf3 hBc4 hBf4 hBc5 hBf5 hBc6 hBf6 hBc7 hBf7 hBc8 hBf8 hBc9 hBf9 hBc10 hBf10;clear hTc0 hTf0 hTc1 hTf1 hTc2 hTf2;obtain ⟨tu,rfl,htv⟩:=hTA;obtain ⟨at2,ct2,rfl⟩:=RAt.form htv;obtain ⟨nt2,hnt⟩:∃n,n=R.tp.vals.length:=⟨_,rfl⟩;have HNT:=Lib.hid hnt;rw [←hnt] at htv htf ⊢;clear hnt;have HFA:Hid (∀g,g<w2.heap.size→FarS (.slice at2 nt2 ct2) g):=fun g hg=>htf.far hg
 have HW2:Hid (w.heap.size≤w2.heap.size):=hBW.size;have HFO:Hid (FarS (.slice at2 nt2 ct2) gO):=htf.far hO.lt;have HFS:Hid (FarS (.slice at2 nt2 ct2) gS):=htf.far hS.lt;have HFT:Hid (FarS (.slice at2 nt2 ct2) gT):=htf.far hT.lt;clear htf;have hTL:gT<w2.heap.size:=hT.lt;replace hB:=hB.after hb3;replace hT:=hT.after hb3;replace hS:=hS.after hb3;replace hO:=hO.after hb3;replace hBW:=bt hBW hb3;clear hb3;obtain ⟨sd2,hsd2⟩:∃s,s=R.tp.seed:=⟨_,rfl⟩;obtain ⟨ti2,hti2⟩:∃s,s=R.tp.pos:=⟨_,rfl⟩;have HSD:=Lib.hid hsd2;have HTI:=Lib.hid hti2;rw [←hsd2,←hti2];clear hsd2 hti2;have hTl:=hT.lt;obtain ⟨hTc0,hTf0,hTc1,hTf1,hTc2,hTf2⟩:=hT.x3;go_upto_region 3 with fail
 clear hTc0 hTf0 hTc1 hTf1 hTc2 hTf2;clear hTl;have hWT:w.heap.size≤gT:=Nat.le_of_lt HGW.out.1;have s0:NOwn (w3.setCell ⟨gT,0,none⟩ (.slice at2 nt2 ct2)) w2.heap.size u R.parts:=own_set hN (fun e=>by have:=(own_lt hN e).2;omega);have s1:NOwn ((w3.setCell ⟨gT,0,none⟩ (.slice at2 nt2 ct2)).setCell ⟨gT,1,none⟩ (.string sd2)) w2.heap.size u R.parts:=own_set s0 (fun e=>by have:=(own_lt s0 e).2;omega);have s2:NOwn (((w3.setCell ⟨gT,0,none⟩ (.slice at2 nt2 ct2)).setCell ⟨gT,1,none⟩ (.string sd2)).setCell ⟨gT,2,none⟩ (.int .i64 ti2)) w2.heap.size u R.parts:=own_set s1 (fun e=>by have:=(own_lt s1 e).2;omega);have o0:OOwn (w3.setCell ⟨gT,0,none⟩ (.slice at2 nt2 ct2)) w2.heap.size v R.ops:=own_set hOp (fun e=>by have:=(own_lt hOp e).2;omega);have o1:OOwn ((w3.setCell ⟨gT,0,none⟩ (.slice at2 nt2 ct2)).setCell ⟨gT,1,none⟩ (.string sd2)) w2.heap.size v R.ops:=own_set o0 (fun e=>by have:=(own_lt o0 e).2;omega);have o2:OOwn (((w3.setCell ⟨gT,0,none⟩ (.slice at2 nt2 ct2)).setCell ⟨gT,1,none⟩ (.string sd2)).setCell ⟨gT,2,none⟩ (.int .i64 ti2)) w2.heap.size v R.ops:=own_set o1 (fun e=>by have:=(own_lt o1 e).2;omega);have nB:w.heap.size≠gT:=by have:=HGW.out;omega
 have nS:gS≠gT:=by have:=HGW.out;omega
 have nO:gO≠gT:=by have:=HGW.out;omega
 replace hB:=((hB.other ⟨gT,0,none⟩ (.slice at2 nt2 ct2) nB).other ⟨gT,1,none⟩ (.string sd2) nB).other ⟨gT,2,none⟩ (.int .i64 ti2) nB;replace hS:=((hS.other ⟨gT,0,none⟩ (.slice at2 nt2 ct2) nS).other ⟨gT,1,none⟩ (.string sd2) nS).other ⟨gT,2,none⟩ (.int .i64 ti2) nS;replace hO:=((hO.other ⟨gT,0,none⟩ (.slice at2 nt2 ct2) nO).other ⟨gT,1,none⟩ (.string sd2) nO).other ⟨gT,2,none⟩ (.int .i64 ti2) nO;replace hT:=((hT.set 0 (.slice at2 nt2 ct2)).set 1 (.string sd2)).set 2 (.int .i64 ti2);replace hBW:=((hBW.setCell (p:=⟨gT,0,none⟩) hWT (.slice at2 nt2 ct2)).setCell (p:=⟨gT,1,none⟩) hWT (.string sd2)).setCell (p:=⟨gT,2,none⟩) hWT (.int .i64 ti2);replace htv:=((htv.set_far (i:=0) (x:=.slice at2 nt2 ct2) HFT.out).set_far (i:=1) (x:=.string sd2) HFT.out).set_far (i:=2) (x:=.int .i64 ti2) HFT.out;clear s0 s1 o0 o1 hN hOp;generalize ((w3.setCell ⟨gT,0,none⟩ (.slice at2 nt2 ct2)).setCell ⟨gT,1,none⟩ (.string sd2)).setCell ⟨gT,2,none⟩ (.int .i64 ti2)=w4 at s2 o2 hB hS hO hT hBW htv ⊢;replace hT:Blk w4 gT 35 [.slice at2 nt2 ct2,.string sd2,.int .i64 ti2]:=hT;obtain ⟨hBc0,hBf0,hBc1,hBf1,hBc2,hBf2,hBc3,hBf3,hBc4,hBf4,hBc5,hBf5,hBc6,hBf6,hBc7,hBf7,hBc8,hBf8,hBc9,hBf9,hBc10,hBf10⟩:=hB.x11;go_wp2_with fail
 refine (H3.out _ _ hBW s2.ss).mono ?_;rintro e w5 ⟨v1,v2,v3,rfl,hNt,hb5⟩;clear hBc0 hBf0 hBc1 hBf1 hBc2 hBf2 hBc3 hBf3 hBc4 hBf4 hBc5 hBf5 hBc6 hBf6 hBc7 hBf7 hBc8 hBf8 hBc9 hBf9 hBc10 hBf10;obtain ⟨⟨a1,m1,c1,rfl⟩,⟨a2,m2,c2,rfl⟩,⟨a3,m3,c3,rfl⟩⟩:=hNt.slm;have hM:=Blk.new w5 #[.slice a1 m1 c1,.slice a2 m2 c2,.slice a3 m3 c3] 43;have hbM:=b1 w5 (.cells #[.slice a1 m1 c1,.slice a2 m2 c2,.slice a3 m3 c3] 43);go_upto_region 4 with fail
 generalize w5.alloc (.cells #[.slice a1 m1 c1,.slice a2 m2 c2,.slice a3 m3 c3] 43)=w6 at hM hbM ⊢;obtain ⟨gM,hgM⟩:∃g,g=w5.heap.size:=⟨_,rfl⟩;have hgM2:gO<gM:=by rw [hgM];exact Nat.lt_of_lt_of_le hO.lt hb5.size
 have HGM:=Lib.hid hgM2;rw [←hgM] at hM ⊢;clear hgM hgM2;replace hM:Blk w6 gM 43 [.slice a1 m1 c1,.slice a2 m2 c2,.slice a3 m3 c3]:=hM;replace hb5:=bt hb5 hbM;replace htv:=SsAt.after htv hb5;replace hNt:=hNt.after hbM;clear hbM s2;replace hB:=hB.after hb5;replace hT:=hT.after hb5;replace hS:=hS.after hb5;replace hO:=hO.after hb5;replace o2:OOwn w6 w2.heap.size v R.ops:=own_after o2 hb5;replace hBW:=bt hBW hb5;clear hb5;obtain ⟨hBc0,hBf0,hBc1,hBf1,hBc2,hBf2,hBc3,hBf3,hBc4,hBf4,hBc5,hBf5,hBc6,hBf6,hBc7,hBf7,hBc8,hBf8,hBc9,hBf9,hBc10,hBf10⟩:=hB.x11;go_wp2_with fail
 refine (H4.out _ _ hBW o2.os).mono ?_;rintro e w7 ⟨vw,rfl,hZ,hb7⟩;clear hBc0 hBf0 hBc1 hBf1 hBc2 hBf2 hBc3 hBf3 hBc4 hBf4 hBc5 hBf5 hBc6 hBf6 hBc7 hBf7 hBc8 hBf8 hBc9 hBf9 hBc10 hBf10;obtain ⟨a4,c4,rfl⟩:=RAt.form hZ;obtain ⟨m4,hm4⟩:∃n,n=(W.2.map zI).length:=⟨_,rfl⟩;rw [←hm4] at hZ ⊢;clear hm4 o2 hB;replace hT:=hT.after hb7;replace hS:=hS.after hb7;replace hO:=hO.after hb7;replace hM:=hM.after hb7;replace hNt:=hNt.after hb7;replace htv:=SsAt.after htv hb7;replace hBW:=bt hBW hb7;clear hb7;have hEnd:∀(ok:Bool),okB ce R.err S.1 W.1=ok→∀w':World,w'=(((((w7.setCell ⟨gS,0,none⟩ (.slice a1 m1 c1)).setCell ⟨gS,1,none⟩ (.slice a2 m2 c2)).setCell ⟨gS,2,none⟩ (.slice a3 m3 c3)).setCell ⟨gO,0,none⟩ (.slice at2 nt2 ct2)).setCell ⟨gO,1,none⟩ (.string sd2)).setCell ⟨gO,2,none⟩ (.int .i64 ti2)→True:=fun _ _ _ _=>trivial
 clear hEnd;obtain ⟨e2,he2⟩:∃e,e=R.err:=⟨_,rfl⟩;obtain ⟨e3,he3⟩:∃e,e=S.1:=⟨_,rfl⟩;obtain ⟨e4,he4⟩:∃e,e=W.1:=⟨_,rfl⟩;have HE2:=Lib.hid he2;have HE3:=Lib.hid he3;have HE4:=Lib.hid he4;rw [←he2,←he3,←he4];clear he2 he3 he4;have hTl:=hT.lt;have hSl:=hS.lt;have hOl:=hO.lt;have hMl:=hM.lt;have nO:gO≠gT:=by have:=HGW.out;omega
 have nS:gS≠gO:=by have:=HGW.out;omega
 have nM:gM≠gS:=by have h1:=HGW.out;have h2:=HGM.out;omega
 have nT:gT≠gS:=by have:=HGW.out;omega
 have HEND:Hid (∀ok:Bool,okB ce R.err S.1 W.1=ok→MdPostF w S.2 W.2 (okB ce R.err S.1 W.1) R.tp (.returned (.tuple #[.agg #[.slice a1 m1 c1,.slice a2 m2 c2,.slice a3 m3 c3],.slice a4 m4 c4,.agg #[.slice at2 nt2 ct2,.string sd2,.int .i64 ti2],.bool ok])) ((((((w7.setCell ⟨gS,0,none⟩ (.slice a1 m1 c1)).setCell ⟨gS,1,none⟩ (.slice a2 m2 c2)).setCell ⟨gS,2,none⟩ (.slice a3 m3 c3)).setCell ⟨gO,0,none⟩ (.slice at2 nt2 ct2)).setCell ⟨gO,1,none⟩ (.string sd2)).setCell ⟨gO,2,none⟩ (.int .i64 ti2)).drew):=fun ok hok=>by
  have k0:=hS;have k1:=k0.set 0 (.slice a1 m1 c1);have k2:=k1.set 1 (.slice a2 m2 c2);have q0:=((hO.other ⟨gS,0,none⟩ (.slice a1 m1 c1) nS.symm).other ⟨gS,1,none⟩ (.slice a2 m2 c2) nS.symm).other ⟨gS,2,none⟩ (.slice a3 m3 c3) nS.symm;have q1:=q0.set 0 (.slice at2 nt2 ct2);have q2:=q1.set 1 (.string sd2);have n3:=((hNt.setS (i:=0) (x:=.slice a1 m1 c1) (onlyS k0)).setS (i:=1) (x:=.slice a2 m2 c2) (onlyS k1)).setS (i:=2) (x:=.slice a3 m3 c3) (onlyS k2);have n6:=((n3.setO (i:=0) (x:=.slice at2 nt2 ct2) (tapeB q0) hv9).setO (i:=1) (x:=.string sd2) (tapeB q1) hv9).setO (i:=2) (x:=.int .i64 ti2) (tapeB q2) hv9;have z3:=((ZsAt.setS (i:=0) (x:=.slice a1 m1 c1) hZ (onlyS k0)).setS (i:=1) (x:=.slice a2 m2 c2) (onlyS k1)).setS (i:=2) (x:=.slice a3 m3 c3) (onlyS k2);have z6:=((ZsAt.setO (i:=0) (x:=.slice at2 nt2 ct2) z3 (tapeB q0)).setO (i:=1) (x:=.string sd2) (tapeB q1)).setO (i:=2) (x:=.int .i64 ti2) (tapeB q2);have hg1:w.heap.size≤gS:=by have:=HGW.out;omega
  have hg2:w.heap.size≤gO:=by have:=HGW.out;omega
  rw [hok];have t3:=((htv.set_far (i:=0) (x:=.slice a1 m1 c1) HFS.out).set_far (i:=1) (x:=.slice a2 m2 c2) HFS.out).set_far (i:=2) (x:=.slice a3 m3 c3) HFS.out;have t6:=((t3.set_far (i:=0) (x:=.slice at2 nt2 ct2) HFO.out).set_far (i:=1) (x:=.string sd2) HFO.out).set_far (i:=2) (x:=.int .i64 ti2) HFO.out;have e91:=HNT.out;have e92:=HSD.out;have e93:=HTI.out;subst e91 e92 e93;exact ⟨_,_,_,_,_,_,rfl,n6.after (Below.drew (Below.refl _ _)),z6.after (Below.drew (Below.refl _ _)),SsAt.after t6 (Below.drew (Below.refl _ _)),fun g hg=>HFA.out g (Nat.lt_of_lt_of_le hg HW2.out),((((((hBW.setCell hg1 _).setCell hg1 _).setCell hg1 _).setCell hg2 _).setCell hg2 _).setCell hg2 _).drew⟩
 clear hNt hZ htv;by_cases z1:ce=0
 case neg =>
  have y1:((ce:Int)==0)=false:=by rw [beq_eq_false_iff_ne];omega
  have HOK:Hid (okB ce R.err S.1 W.1=false):=by rw [Hid,←HE2.out,←HE3.out,←HE4.out];unfold okB;rw [beq_eq_false_iff_ne.2 z1];rfl
  obtain ⟨hTc0,hTf0,hTc1,hTf1,hTc2,hTf2⟩:=hT.x3;obtain ⟨hSc0,hSf0,hSc1,hSf1,hSc2,hSf2⟩:=hS.x3;obtain ⟨hOc0,hOf0,hOc1,hOf1,hOc2,hOf2⟩:=hO.x3;obtain ⟨hMc0,hMf0,hMc1,hMf1,hMc2,hMf2⟩:=hM.x3;go_upto_region 5 with fail
  go_region
  all_goals
   go_wp2;refine bodyPost_ret (v:=.tuple #[.agg #[.slice a1 m1 c1,.slice a2 m2 c2,.slice a3 m3 c3],.slice a4 m4 c4,.agg #[.slice at2 nt2 ct2,.string sd2,.int .i64 ti2],.bool false]) ?_ rfl ?_
   ·simp [results,Tryz.results12,go_sem,hSc0,hSc1,hSc2,hOc0,hOc1,hOc2,hSl,hOl,nS,nO,nS.symm]
   ·exact HEND.out _ HOK.out
 case pos =>
  subst z1;by_cases z2:e2=0
  case neg =>
   have y2:((e2:Int)==0)=false:=by rw [beq_eq_false_iff_ne];omega
   have HOK:Hid (okB 0 R.err S.1 W.1=false):=by rw [Hid,←HE2.out,←HE3.out,←HE4.out];unfold okB;rw [beq_eq_false_iff_ne.2 z2];rfl
   obtain ⟨hTc0,hTf0,hTc1,hTf1,hTc2,hTf2⟩:=hT.x3;obtain ⟨hSc0,hSf0,hSc1,hSf1,hSc2,hSf2⟩:=hS.x3;obtain ⟨hOc0,hOf0,hOc1,hOf1,hOc2,hOf2⟩:=hO.x3;obtain ⟨hMc0,hMf0,hMc1,hMf1,hMc2,hMf2⟩:=hM.x3;go_upto_region 5 with fail
   go_region
   all_goals
    go_wp2;refine bodyPost_ret (v:=.tuple #[.agg #[.slice a1 m1 c1,.slice a2 m2 c2,.slice a3 m3 c3],.slice a4 m4 c4,.agg #[.slice at2 nt2 ct2,.string sd2,.int .i64 ti2],.bool false]) ?_ rfl ?_
    ·simp [results,Tryz.results12,go_sem,hSc0,hSc1,hSc2,hOc0,hOc1,hOc2,hSl,hOl,nS,nO,nS.symm]
    ·exact HEND.out _ HOK.out
  case pos =>
   subst z2;by_cases z3:e3=0
   case neg =>
    have y3:((e3:Int)==0)=false:=by rw [beq_eq_false_iff_ne];omega
    have HOK:Hid (okB 0 R.err S.1 W.1=false):=by rw [Hid,←HE2.out,←HE3.out,←HE4.out];unfold okB;rw [beq_eq_false_iff_ne.2 z3];rfl
    obtain ⟨hTc0,hTf0,hTc1,hTf1,hTc2,hTf2⟩:=hT.x3;obtain ⟨hSc0,hSf0,hSc1,hSf1,hSc2,hSf2⟩:=hS.x3;obtain ⟨hOc0,hOf0,hOc1,hOf1,hOc2,hOf2⟩:=hO.x3;obtain ⟨hMc0,hMf0,hMc1,hMf1,hMc2,hMf2⟩:=hM.x3;go_upto_region 5 with fail
    go_region
    all_goals
     go_wp2;refine bodyPost_ret (v:=.tuple #[.agg #[.slice a1 m1 c1,.slice a2 m2 c2,.slice a3 m3 c3],.slice a4 m4 c4,.agg #[.slice at2 nt2 ct2,.string sd2,.int .i64 ti2],.bool false]) ?_ rfl ?_
     ·simp [results,Tryz.results12,go_sem,hSc0,hSc1,hSc2,hOc0,hOc1,hOc2,hSl,hOl,nS,nO,nS.symm]
     ·exact HEND.out _ HOK.out
   case pos =>
    subst z3;by_cases z4:e4=0
    case neg =>
     have y4:((e4:Int)==0)=false:=by rw [beq_eq_false_iff_ne];omega
     have HOK:Hid (okB 0 R.err S.1 W.1=false):=by rw [Hid,←HE2.out,←HE3.out,←HE4.out];unfold okB;rw [beq_eq_false_iff_ne.2 z4];rfl
     obtain ⟨hTc0,hTf0,hTc1,hTf1,hTc2,hTf2⟩:=hT.x3;obtain ⟨hSc0,hSf0,hSc1,hSf1,hSc2,hSf2⟩:=hS.x3;obtain ⟨hOc0,hOf0,hOc1,hOf1,hOc2,hOf2⟩:=hO.x3;obtain ⟨hMc0,hMf0,hMc1,hMf1,hMc2,hMf2⟩:=hM.x3;go_upto_region 5 with fail
     go_region
     all_goals
      go_wp2;refine bodyPost_ret (v:=.tuple #[.agg #[.slice a1 m1 c1,.slice a2 m2 c2,.slice a3 m3 c3],.slice a4 m4 c4,.agg #[.slice at2 nt2 ct2,.string sd2,.int .i64 ti2],.bool false]) ?_ rfl ?_
      ·simp [results,Tryz.results12,go_sem,hSc0,hSc1,hSc2,hOc0,hOc1,hOc2,hSl,hOl,nS,nO,nS.symm]
      ·exact HEND.out _ HOK.out
    case pos =>
     subst z4;have HOK:Hid (okB 0 R.err S.1 W.1=true):=by rw [Hid,←HE2.out,←HE3.out,←HE4.out];rfl
     obtain ⟨hTc0,hTf0,hTc1,hTf1,hTc2,hTf2⟩:=hT.x3;obtain ⟨hSc0,hSf0,hSc1,hSf1,hSc2,hSf2⟩:=hS.x3;obtain ⟨hOc0,hOf0,hOc1,hOf1,hOc2,hOf2⟩:=hO.x3;obtain ⟨hMc0,hMf0,hMc1,hMf1,hMc2,hMf2⟩:=hM.x3;go_upto_region 5 with fail
     go_region
     all_goals
      go_wp2;refine bodyPost_ret (v:=.tuple #[.agg #[.slice a1 m1 c1,.slice a2 m2 c2,.slice a3 m3 c3],.slice a4 m4 c4,.agg #[.slice at2 nt2 ct2,.string sd2,.int .i64 ti2],.bool true]) ?_ rfl ?_
      ·simp [results,Tryz.results12,go_sem,hSc0,hSc1,hSc2,hOc0,hOc1,hOc2,hSl,hOl,nS,nO,nS.symm]
      ·exact HEND.out _ HOK.out
end Go.Proofs.YteahlbhjhjhljaaGreatDoor
