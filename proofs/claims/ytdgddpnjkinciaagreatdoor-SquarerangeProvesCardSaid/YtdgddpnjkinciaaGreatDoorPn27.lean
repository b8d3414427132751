/- SquarerangeProves: the law's walk. -/
import Derived.Test.YtdgddpnjkinciaaGreatDoorSq27
import Derived.Test.YtdgddpnjkinciaaGreatDoorCpa27
import Derived.Test.YtdgddpnjkinciaaGreatDoorWi27
set_option linter.all false
set_option maxRecDepth 100000
set_option maxHeartbeats 16000000
namespace Go.Proofs.YtdgddpnjkinciaaGreatDoor
section
/- dominolaw27.made. -/
open Go.RowKit Go.Shelf
theorem NAt.slm {w:World} {v1 v2 v3:Value} {N:NSta} (h:NAt w v1 v2 v3 N):(∃a n c,v1=.slice a n c)∧(∃a n c,v2=.slice a n c)∧∃a n c,v3=.slice a n c:=by
 obtain⟨a1,c1,a2,c2,a3,c3,rfl,rfl,rfl⟩:=h.forms;exact⟨⟨_,_,_,rfl⟩,⟨_,_,_,rfl⟩,⟨_,_,_,rfl⟩⟩
theorem RAt.setN {α:Type} {Q:World→α→List Value→Prop} {size g i:Nat} {w:World} {v x:Value} {l:List α} (h:RAt Q size w v l) (hc:∀o a cs,Q w a cs→(∀i,i<size→w.cell? ⟨g,o+i,none⟩=cs[i]?)→False) (hQ:∀a cs,Q w a cs→Q (w.setCell ⟨g,i,none⟩ x) a cs):RAt Q size (w.setCell ⟨g,i,none⟩ x) v l:=by
 obtain⟨ao,c,rfl,h⟩:=h;refine⟨ao,c,rfl,?_⟩;rcases h with h | ⟨b,o,h1,h2,h3⟩
 ·exact .inl h
 ·by_cases hl:l.length=0
  ·exact .inl hl
  ·have hb:b≠g:=fun e=>by
    obtain⟨cs,h4,h5⟩:=h3 0 (by omega);subst e;refine hc o _ cs h4 fun i hi=>?_
    have:=h5 i hi;rwa [Nat.zero_mul,Nat.add_zero]at this
   refine .inr ⟨b,o,h1,by rw[World.size_setCell];exact h2,fun j hj=>?_⟩;obtain⟨cs,h4,h5⟩:=h3 j hj;exact⟨cs,hQ _ _ h4,fun i hi=>by rw[World.cell?_setCell_other _ _ _ _ (fun e=>hb (congrArg Addr.block e).symm)];exact h5 i hi⟩
theorem blk_cell {w:World} {g o:Nat} {T:TypeId} {cs:List Value} (h:Blk w g T cs):w.cell? ⟨g,o,none⟩=cs[o]?:=by
 unfold Blk at h;rw[cell_of_row w g o _ T (0,0) h];simp
def OnlyS (w:World) (g:Nat):Prop:=∀o u,w.cell? ⟨g,o,none⟩=some u→∃a n c,u=.slice a n c
def TapeB (w:World) (g:Nat):Prop:=∀o u,w.cell? ⟨g,o,none⟩=some u→(o=0∧∃a n c,u=.slice a n c)∨(o=1∧∃s,u=.string s)∨(o=2∧∃z,u=.int .i64 z)
theorem onlyS {w:World} {g n1 c1 n2 c2 n3 c3:Nat} {a1 a2 a3:Option Addr} {T:TypeId} (h:Blk w g T [.slice a1 n1 c1,.slice a2 n2 c2,.slice a3 n3 c3]):OnlyS w g:=fun o u hu=>by
 rw[blk_cell h]at hu;match o with
 | 0=>injection hu with hu;exact⟨_,_,_,hu.symm⟩
 | 1=>injection hu with hu;exact⟨_,_,_,hu.symm⟩
 | 2=>injection hu with hu;exact⟨_,_,_,hu.symm⟩
 | o+3=>simp at hu
theorem tapeB {w:World} {g n1 c1:Nat} {a1:Option Addr} {s:ByteArray} {z:Int} {T:TypeId} (h:Blk w g T [.slice a1 n1 c1,.string s,.int .i64 z]):TapeB w g:=fun o u hu=>by
 rw[blk_cell h]at hu;match o with
 | 0=>injection hu with hu;exact .inl ⟨rfl,_,_,_,hu.symm⟩
 | 1=>injection hu with hu;exact .inr (.inl ⟨rfl,_,hu.symm⟩)
 | 2=>injection hu with hu;exact .inr (.inr ⟨rfl,_,hu.symm⟩)
 | o+3=>simp at hu
theorem ts_setS {w:World} {g i:Nat} {v x:Value} {l:List Trm} (h:TsAt w v l) (k:OnlyS w g):TsAt (w.setCell ⟨g,i,none⟩ x) v l:=
 RAt.setN h (fun o a cs hq hc=>by rw[show cs=_ from hq]at hc;obtain⟨_,_,_,e⟩:=k _ _ (hc 0 (by decide));cases e) (fun _ _ h=>h)
theorem ts_setO {w:World} {g i:Nat} {v x:Value} {l:List Trm} (h:TsAt w v l) (k:TapeB w g):TsAt (w.setCell ⟨g,i,none⟩ x) v l:=
 RAt.setN h (fun o a cs hq hc=>by
  rw[show cs=_ from hq]at hc;rcases k _ _ (hc 2 (by decide)) with⟨_,_,_,_,e⟩ | ⟨_,_,e⟩ | ⟨_,_,e⟩ <;> cases e) (fun _ _ h=>h)
theorem NAt.setS {w:World} {g i:Nat} {v1 v2 v3 x:Value} {N:NSta} (h:NAt w v1 v2 v3 N) (k:OnlyS w g):NAt (w.setCell ⟨g,i,none⟩ x) v1 v2 v3 N:=by
 refine⟨?_,?_,?_⟩
 ·exact RAt.setN h.g (fun o a cs hq hc=>by rw[show cs=_ from hq]at hc;obtain⟨_,_,_,e⟩:=k _ _ (hc 0 (by decide));cases e) (fun _ _ h=>h)
 ·exact RAt.setN h.v (fun o a cs hq hc=>by rw[show cs=_ from hq]at hc;obtain⟨_,_,_,e⟩:=k _ _ (hc 0 (by decide));cases e) (fun _ _ h=>h)
 ·exact RAt.setN h.e (fun o a cs hq hc=>by obtain⟨tv,hq,_⟩:=hq;rw[hq]at hc;obtain⟨_,_,_,e⟩:=k _ _ (hc 0 (by decide));cases e) (fun a cs hq=>by obtain⟨tv,hq,ht⟩:=hq;exact⟨tv,hq,ts_setS ht k⟩)
theorem NAt.setO {w:World} {g i:Nat} {v1 v2 v3 x:Value} {N:NSta} (h:NAt w v1 v2 v3 N) (k:TapeB w g) (hv:N.vars.length≠1):NAt (w.setCell ⟨g,i,none⟩ x) v1 v2 v3 N:=by
 refine⟨?_,?_,?_⟩
 ·exact RAt.setN h.g (fun o a cs hq hc=>by
   rw[show cs=_ from hq]at hc;rcases k _ _ (hc 0 (by decide)) with⟨_,_,_,_,e⟩ | ⟨e1,_,e⟩ | ⟨_,_,e⟩
   ·cases e
   ·rcases k _ _ (hc 1 (by decide)) with⟨_,_,_,_,e'⟩ | ⟨e2,_,e'⟩ | ⟨_,_,e'⟩
    ·cases e'
    ·omega
    ·cases e'
   ·cases e) (fun _ _ h=>h)
 ·refine SsAt.set_far h.v fun b o n c e hn he=>?_
  subst he;have hb:=h.v;subst e;obtain⟨a',c',e'⟩:=RAt.form hb;injection e' with _ e2 _
  have hl:(NSta.s N).vars.length=N.vars.length:=by simp[NSta.s]
  have h2:1<(NSta.s N).vars.length:=by omega
  obtain⟨b0,o0,q0,_,x0⟩:=SsAt.at_ hb (show 0<(NSta.s N).vars.length by omega);obtain⟨b1',o1,q1,_,x1⟩:=SsAt.at_ hb h2;injection q0 with q0;injection q0 with q01 q02
  injection q1 with q1;injection q1 with q11 q12
  subst q01 q02 q11 q12;rcases k _ _ x0 with⟨_,_,_,_,e⟩ | ⟨e1,_,e⟩ | ⟨_,_,e⟩
  ·cases e
  ·rcases k _ _ x1 with⟨_,_,_,_,e'⟩ | ⟨e2,_,e'⟩ | ⟨_,_,e'⟩
   ·cases e'
   ·omega
   ·cases e'
  ·cases e
 ·exact RAt.setN h.e (fun o a cs hq hc=>by
   obtain⟨tv,hq,_⟩:=hq;rw[hq]at hc;rcases k _ _ (hc 0 (by decide)) with⟨_,_,_,_,e⟩ | ⟨_,_,e⟩ | ⟨e1,_,e⟩
   ·cases e
   ·cases e
   ·rcases k _ _ (hc 1 (by decide)) with⟨_,_,_,_,e'⟩ | ⟨e2,_,e'⟩ | ⟨_,_,e'⟩
    ·cases e'
    ·omega
    ·cases e') (fun a cs hq=>by obtain⟨tv,hq,ht⟩:=hq;exact⟨tv,hq,ts_setO ht k⟩)
theorem ZsAt.setS {w:World} {g i:Nat} {v x:Value} {Z:List Int} (h:ZsAt w v Z) (k:OnlyS w g):ZsAt (w.setCell ⟨g,i,none⟩ x) v Z:=
 RAt.setN h (fun o a cs hq hc=>by rw[show cs=_ from hq]at hc;obtain⟨_,_,_,e⟩:=k _ _ (hc 0 (by decide));cases e) (fun _ _ h=>h)
theorem ZsAt.setO {w:World} {g i:Nat} {v x:Value} {Z:List Int} (h:ZsAt w v Z) (k:TapeB w g):ZsAt (w.setCell ⟨g,i,none⟩ x) v Z:=
 RAt.setN h (fun o a cs hq hc=>by
  rw[show cs=_ from hq]at hc;rcases k _ _ (hc 0 (by decide)) with⟨_,_,_,_,e⟩ | ⟨_,_,e⟩ | ⟨_,_,e⟩ <;> cases e) (fun _ _ h=>h)
def okB (a b c d:Nat):Bool:=a==0&&b==0&&c==0&&d==0
def MdPost (w:World) (N:NSta) (Z:List Int) (ok:Bool) (e:Ending) (w':World):Prop:=∃v1 v2 v3 vw tu tn tc ts ti,e=.returned (.tuple #[.agg #[v1,v2,v3],vw,.agg #[.slice tu tn tc,.string ts,.int .i64 ti],.bool ok])∧NAt w' v1 v2 v3 N∧ZsAt w' vw Z∧Bw w w'
def MdPostF (w:World) (N:NSta) (Z:List Int) (ok:Bool) (TP:Tp) (e:Ending) (w':World):Prop:=∃v1 v2 v3 vw tu tc,e=.returned (.tuple #[.agg #[v1,v2,v3],vw,.agg #[.slice tu TP.vals.length tc,.string TP.seed,.int .i64 TP.pos],.bool ok])∧NAt w' v1 v2 v3 N∧ZsAt w' vw Z∧SsAt w' (.slice tu TP.vals.length tc) TP.vals∧(∀g,g<w.heap.size→FarS (.slice tu TP.vals.length tc) g)∧Bw w w'
theorem made_walk (a b c d:ByteArray) (lo:Int) (vn:Bool) (va:ByteArray) (rn:Bool) (ra vl rd sd:ByteArray) (ti:Int) (st:Option Addr) (mt dt:Nat) (w:World) (ce cx:Nat) (R:PrR) (S:Nat × NSta) (W:Nat × List Int) (Hs:S.2.vars.length≠1)
  (h1:∀w',Bw w w'→Calls Tryz.prog 22 #[.agg #[.string a,.string b,.string c,.string d],.agg #[.bool vn,.string va,.bool rn,.string ra]] w' fun e w2=>e=.returned (.tuple #[.string (E cx),.int .i64 (ce:Int)])∧Bw w' w2)
  (h2:∀w',Bw w w'→Calls Tryz.prog 16 #[.agg #[.string a,.string b,.string c,.string d],.int .i64 lo,.agg #[.bool vn,.string va,.bool rn,.string ra],.string rd,.agg #[.slice st mt dt,.string sd,.int .i64 ti]] w' (PrPostF w' R))
  (h3:∀u w',Bw w w'→SsAt w' u (R.parts.map E)→Calls Tryz.prog 23 #[.agg #[.string a,.string b,.string c,.string d],.int .i64 lo,.string (E cx),u,.string vl,.string rd] w' (StPost w' S))
  (h4:∀u w',Bw w w'→OsAt w' u (R.ops.map nop)→Calls Tryz.prog 20 #[.agg #[.string a,.string b,.string c,.string d],.int .i64 lo,.agg #[.bool vn,.string va,.bool rn,.string ra],u] w' (WtPost w' W)) :
  Calls Tryz.prog 7 #[.agg #[.string a,.string b,.string c,.string d,.int .i64 lo,.bool vn,.string va,.bool rn,.string ra,.string vl,.string rd],.agg #[.slice st mt dt,.string sd,.int .i64 ti]] w (MdPostF w S.2 W.2 (okB ce R.err S.1 W.1) R.tp):=by
 have H1:=Kh h1;have H2:=Kh h2;have H3:=Kh h3;have H4:=Kh h4;clear h1 h2 h3 h4;obtain⟨hB,hT,hS,hO,hk⟩:=blk4 w #[.string a,.string b,.string c,.string d,.int .i64 lo,.bool vn,.string va,.bool rn,.string ra,.string vl,.string rd] #[.slice st mt dt,.string sd,.int .i64 ti] #[.slice none 0 0,.slice none 0 0,.slice none 0 0] #[.slice none 0 0,.string ⟨#[]⟩,.int .i64 0] 32 35 43 35;obtain⟨gT,HJ⟩:∃g,w.heap.size+1=g:=⟨_,rfl⟩;obtain⟨gS,HK⟩:∃g,w.heap.size+1+1=g:=⟨_,rfl⟩;obtain⟨gO,HL⟩:∃g,w.heap.size+1+1+1=g:=⟨_,rfl⟩;have Ht:=Kh HJ;have Hu:=Kh HK;have Hv:=Kh HL;have hV:Hid (w.heap.size<gT∧gT<gS∧gS<gO):=by rw[Hid];omega
 clear HJ HK HL;go_enter Tryz.func7,Tryz.ntmps7
 go_upto_region 1 with fail
 rw[Hv.out,Hu.out,Ht.out];replace hT:Blk _ gT 35 [.slice st mt dt,.string sd,.int .i64 ti]:=Ht.out ▸ hT;replace hS:Blk _ gS 43 [.slice none 0 0,.slice none 0 0,.slice none 0 0]:=Hu.out ▸ hS;replace hO:Blk _ gO 35 [.slice none 0 0,.string ⟨#[]⟩,.int .i64 0]:=Hv.out ▸ hO;generalize (((w.alloc (.cells #[.string a,.string b,.string c,.string d,.int .i64 lo,.bool vn,.string va,.bool rn,.string ra,.string vl,.string rd] 32)).alloc (.cells #[.slice st mt dt,.string sd,.int .i64 ti] 35)).alloc (.cells #[.slice none 0 0,.slice none 0 0,.slice none 0 0] 43)).alloc (.cells #[.slice none 0 0,.string ⟨#[]⟩,.int .i64 0] 35)=w1 at hB hT hS hO hk ⊢;replace hB:Blk w1 w.heap.size 32 [.string a,.string b,.string c,.string d,.int .i64 lo,.bool vn,.string va,.bool rn,.string ra,.string vl,.string rd]:=hB;clear Ht Hu Hv;obtain⟨hr,ht,hu,hv,hw,hx,hy,hz,hA,hC,hD,hE,hF,hG,hH,hI,hJ,hK,hL,hP,hb,hc⟩:=hB.x11;go_wp2_with fail
 refine (H1.out _ hk).mono ?_;rintro e w2 ⟨rfl,Hi⟩;clear hr ht hu hv hw hx hy hz hA hC hD hE hF hG hH hI hJ hK hL hP hb hc;replace hB:=hB.after Hi;replace hT:=hT.after Hi;replace hS:=hS.after Hi;replace hO:=hO.after Hi;replace hk:=bt hk Hi;clear Hi;obtain⟨hr,ht,hu,hv,hw,hx,hy,hz,hA,hC,hD,hE,hF,hG,hH,hI,hJ,hK,hL,hP,hb,hc⟩:=hB.x11;obtain⟨hl,hm,hn,ho,hp,hq⟩:=hT.x3;go_wp2_with fail
 refine (H2.out _ hk).mono ?_;rintro e w3 ⟨u,v,t,rfl,hN,Hw,HO,Hj,Hk⟩;clear hr ht hu hv hw hx hy hz hA hC hD hE hF hG hH hI hJ hK hL hP hb hc;clear hl hm hn ho hp hq;obtain⟨tu,rfl,hQ⟩:=HO;obtain⟨at2,ct2,rfl⟩:=RAt.form hQ;obtain⟨nt2,Hx⟩:∃n,n=R.tp.vals.length:=⟨_,rfl⟩;have HP:=Kh Hx;rw[←Hx]at hQ Hj ⊢;clear Hx;have HQ:Hid (∀g,g<w2.heap.size→FarS (.slice at2 nt2 ct2) g):=fun g hg=>Hj.far hg
 have HR:Hid (w.heap.size≤w2.heap.size):=hk.size;have Hy:Hid (FarS (.slice at2 nt2 ct2) gO):=Hj.far hO.lt;have Hz:Hid (FarS (.slice at2 nt2 ct2) gS):=Hj.far hS.lt;have HA:Hid (FarS (.slice at2 nt2 ct2) gT):=Hj.far hT.lt;clear Hj;have HW:gT<w2.heap.size:=hT.lt;replace hB:=hB.after Hk;replace hT:=hT.after Hk;replace hS:=hS.after Hk;replace hO:=hO.after Hk;replace hk:=bt hk Hk;clear Hk;obtain⟨sd2,Hf⟩:∃s,s=R.tp.seed:=⟨_,rfl⟩;obtain⟨ti2,Hg⟩:∃s,s=R.tp.pos:=⟨_,rfl⟩;have HS:=Kh Hf;have HT:=Kh Hg;rw[←Hf,←Hg];clear Hf Hg;have HM:=hT.lt;obtain⟨hl,hm,hn,ho,hp,hq⟩:=hT.x3;go_upto_region 3 with fail
 clear hl hm hn ho hp hq;clear HM;have HB:w.heap.size≤gT:=Nat.le_of_lt hV.out.1;have s0:NOwn (w3.setCell ⟨gT,0,none⟩ (.slice at2 nt2 ct2)) w2.heap.size u R.parts:=own_set hN (fun e=>by have:=(own_lt hN e).2;omega);have s1:NOwn ((w3.setCell ⟨gT,0,none⟩ (.slice at2 nt2 ct2)).setCell ⟨gT,1,none⟩ (.string sd2)) w2.heap.size u R.parts:=own_set s0 (fun e=>by have:=(own_lt s0 e).2;omega);have s2:NOwn (((w3.setCell ⟨gT,0,none⟩ (.slice at2 nt2 ct2)).setCell ⟨gT,1,none⟩ (.string sd2)).setCell ⟨gT,2,none⟩ (.int .i64 ti2)) w2.heap.size u R.parts:=own_set s1 (fun e=>by have:=(own_lt s1 e).2;omega);have o0:OOwn (w3.setCell ⟨gT,0,none⟩ (.slice at2 nt2 ct2)) w2.heap.size v R.ops:=own_set Hw (fun e=>by have:=(own_lt Hw e).2;omega);have o1:OOwn ((w3.setCell ⟨gT,0,none⟩ (.slice at2 nt2 ct2)).setCell ⟨gT,1,none⟩ (.string sd2)) w2.heap.size v R.ops:=own_set o0 (fun e=>by have:=(own_lt o0 e).2;omega);have o2:OOwn (((w3.setCell ⟨gT,0,none⟩ (.slice at2 nt2 ct2)).setCell ⟨gT,1,none⟩ (.string sd2)).setCell ⟨gT,2,none⟩ (.int .i64 ti2)) w2.heap.size v R.ops:=own_set o1 (fun e=>by have:=(own_lt o1 e).2;omega);have nB:w.heap.size≠gT:=by have:=hV.out;omega
 have nS:gS≠gT:=by have:=hV.out;omega
 have nO:gO≠gT:=by have:=hV.out;omega
 replace hB:=((hB.other ⟨gT,0,none⟩ (.slice at2 nt2 ct2) nB).other ⟨gT,1,none⟩ (.string sd2) nB).other ⟨gT,2,none⟩ (.int .i64 ti2) nB;replace hS:=((hS.other ⟨gT,0,none⟩ (.slice at2 nt2 ct2) nS).other ⟨gT,1,none⟩ (.string sd2) nS).other ⟨gT,2,none⟩ (.int .i64 ti2) nS;replace hO:=((hO.other ⟨gT,0,none⟩ (.slice at2 nt2 ct2) nO).other ⟨gT,1,none⟩ (.string sd2) nO).other ⟨gT,2,none⟩ (.int .i64 ti2) nO;replace hT:=((hT.set 0 (.slice at2 nt2 ct2)).set 1 (.string sd2)).set 2 (.int .i64 ti2);replace hk:=((hk.setCell (p:=⟨gT,0,none⟩) HB (.slice at2 nt2 ct2)).setCell (p:=⟨gT,1,none⟩) HB (.string sd2)).setCell (p:=⟨gT,2,none⟩) HB (.int .i64 ti2);replace hQ:=((hQ.set_far (i:=0) (x:=.slice at2 nt2 ct2) HA.out).set_far (i:=1) (x:=.string sd2) HA.out).set_far (i:=2) (x:=.int .i64 ti2) HA.out;clear s0 s1 o0 o1 hN Hw;generalize ((w3.setCell ⟨gT,0,none⟩ (.slice at2 nt2 ct2)).setCell ⟨gT,1,none⟩ (.string sd2)).setCell ⟨gT,2,none⟩ (.int .i64 ti2)=w4 at s2 o2 hB hS hO hT hk hQ ⊢;replace hT:Blk w4 gT 35 [.slice at2 nt2 ct2,.string sd2,.int .i64 ti2]:=hT;obtain⟨hr,ht,hu,hv,hw,hx,hy,hz,hA,hC,hD,hE,hF,hG,hH,hI,hJ,hK,hL,hP,hb,hc⟩:=hB.x11;go_wp2_with fail
 refine (H3.out _ _ hk s2.ss).mono ?_;rintro e w5 ⟨v1,v2,v3,rfl,Hh,hR⟩;clear hr ht hu hv hw hx hy hz hA hC hD hE hF hG hH hI hJ hK hL hP hb hc;obtain⟨⟨a1,m1,c1,rfl⟩,⟨a2,m2,c2,rfl⟩,⟨a3,m3,c3,rfl⟩⟩:=Hh.slm;obtain⟨hM,Hr⟩:=blk1 w5 #[.slice a1 m1 c1,.slice a2 m2 c2,.slice a3 m3 c3] 43;go_upto_region 4 with fail
 generalize w5.alloc (.cells #[.slice a1 m1 c1,.slice a2 m2 c2,.slice a3 m3 c3] 43)=w6 at hM Hr ⊢;obtain⟨gM,HC⟩:∃g,g=w5.heap.size:=⟨_,rfl⟩;have Hl:gO<gM:=by rw[HC];exact Nl hO.lt hR.size
 have HU:=Kh Hl;rw[←HC]at hM ⊢;clear HC Hl;replace hM:Blk w6 gM 43 [.slice a1 m1 c1,.slice a2 m2 c2,.slice a3 m3 c3]:=hM;replace hR:=bt hR Hr;replace hQ:=SsAt.after hQ hR;replace Hh:=Hh.after Hr;clear Hr s2;replace hB:=hB.after hR;replace hT:=hT.after hR;replace hS:=hS.after hR;replace hO:=hO.after hR;replace o2:OOwn w6 w2.heap.size v R.ops:=own_after o2 hR;replace hk:=bt hk hR;clear hR;obtain⟨hr,ht,hu,hv,hw,hx,hy,hz,hA,hC,hD,hE,hF,hG,hH,hI,hJ,hK,hL,hP,hb,hc⟩:=hB.x11;go_wp2_with fail
 refine (H4.out _ _ hk o2.os).mono ?_;rintro e w7 ⟨vw,rfl,hZ,He⟩;clear hr ht hu hv hw hx hy hz hA hC hD hE hF hG hH hI hJ hK hL hP hb hc;obtain⟨a4,c4,rfl⟩:=RAt.form hZ;obtain⟨m4,HN⟩:∃n,n=(W.2.map zI).length:=⟨_,rfl⟩;rw[←HN]at hZ ⊢;clear HN o2 hB;replace hT:=hT.after He;replace hS:=hS.after He;replace hO:=hO.after He;replace hM:=hM.after He;replace Hh:=Hh.after He;replace hQ:=SsAt.after hQ He;replace hk:=bt hk He;clear He;have HD:∀(ok:Bool),okB ce R.err S.1 W.1=ok→∀w':World,w'=(((((w7.setCell ⟨gS,0,none⟩ (.slice a1 m1 c1)).setCell ⟨gS,1,none⟩ (.slice a2 m2 c2)).setCell ⟨gS,2,none⟩ (.slice a3 m3 c3)).setCell ⟨gO,0,none⟩ (.slice at2 nt2 ct2)).setCell ⟨gO,1,none⟩ (.string sd2)).setCell ⟨gO,2,none⟩ (.int .i64 ti2)→True:=fun _ _ _ _=>trivial
 clear HD;obtain⟨e2,HE⟩:∃e,e=R.err:=⟨_,rfl⟩;obtain⟨e3,HF⟩:∃e,e=S.1:=⟨_,rfl⟩;obtain⟨e4,HG⟩:∃e,e=W.1:=⟨_,rfl⟩;have Hm:=Kh HE;have Hn:=Kh HF;have Ho:=Kh HG;rw[←HE,←HF,←HG];clear HE HF HG;have HM:=hT.lt;have Hp:=hS.lt;have Hq:=hO.lt;have HX:=hM.lt;have nO:gO≠gT:=by have:=hV.out;omega
 have nS:gS≠gO:=by have:=hV.out;omega
 have nM:gM≠gS:=by have h1:=hV.out;have h2:=HU.out;omega
 have nT:gT≠gS:=by have:=hV.out;omega
 have hU:Hid (∀ok:Bool,okB ce R.err S.1 W.1=ok→MdPostF w S.2 W.2 (okB ce R.err S.1 W.1) R.tp (.returned (.tuple #[.agg #[.slice a1 m1 c1,.slice a2 m2 c2,.slice a3 m3 c3],.slice a4 m4 c4,.agg #[.slice at2 nt2 ct2,.string sd2,.int .i64 ti2],.bool ok])) ((((((w7.setCell ⟨gS,0,none⟩ (.slice a1 m1 c1)).setCell ⟨gS,1,none⟩ (.slice a2 m2 c2)).setCell ⟨gS,2,none⟩ (.slice a3 m3 c3)).setCell ⟨gO,0,none⟩ (.slice at2 nt2 ct2)).setCell ⟨gO,1,none⟩ (.string sd2)).setCell ⟨gO,2,none⟩ (.int .i64 ti2)).drew):=fun ok HV=>by
  have k0:=hS;have k1:=k0.set 0 (.slice a1 m1 c1);have k2:=k1.set 1 (.slice a2 m2 c2);have q0:=((hO.other ⟨gS,0,none⟩ (.slice a1 m1 c1) nS.symm).other ⟨gS,1,none⟩ (.slice a2 m2 c2) nS.symm).other ⟨gS,2,none⟩ (.slice a3 m3 c3) nS.symm;have q1:=q0.set 0 (.slice at2 nt2 ct2);have q2:=q1.set 1 (.string sd2);have n3:=((Hh.setS (i:=0) (x:=.slice a1 m1 c1) (onlyS k0)).setS (i:=1) (x:=.slice a2 m2 c2) (onlyS k1)).setS (i:=2) (x:=.slice a3 m3 c3) (onlyS k2);have n6:=((n3.setO (i:=0) (x:=.slice at2 nt2 ct2) (tapeB q0) Hs).setO (i:=1) (x:=.string sd2) (tapeB q1) Hs).setO (i:=2) (x:=.int .i64 ti2) (tapeB q2) Hs;have z3:=((ZsAt.setS (i:=0) (x:=.slice a1 m1 c1) hZ (onlyS k0)).setS (i:=1) (x:=.slice a2 m2 c2) (onlyS k1)).setS (i:=2) (x:=.slice a3 m3 c3) (onlyS k2);have z6:=((ZsAt.setO (i:=0) (x:=.slice at2 nt2 ct2) z3 (tapeB q0)).setO (i:=1) (x:=.string sd2) (tapeB q1)).setO (i:=2) (x:=.int .i64 ti2) (tapeB q2);have HH:w.heap.size≤gS:=by have:=hV.out;omega
  have HI:w.heap.size≤gO:=by have:=hV.out;omega
  rw[HV];have t3:=((hQ.set_far (i:=0) (x:=.slice a1 m1 c1) Hz.out).set_far (i:=1) (x:=.slice a2 m2 c2) Hz.out).set_far (i:=2) (x:=.slice a3 m3 c3) Hz.out;have t6:=((t3.set_far (i:=0) (x:=.slice at2 nt2 ct2) Hy.out).set_far (i:=1) (x:=.string sd2) Hy.out).set_far (i:=2) (x:=.int .i64 ti2) Hy.out;have e91:=HP.out;have e92:=HS.out;have e93:=HT.out;subst e91 e92 e93;exact⟨_,_,_,_,_,_,rfl,n6.after (Below.drew Br),z6.after (Below.drew Br),SsAt.after t6 (Below.drew Br),fun g hg=>HQ.out g (Nl hg HR.out),((((((hk.setCell HH _).setCell HH _).setCell HH _).setCell HI _).setCell HI _).setCell HI _).drew⟩
 clear Hh hZ hQ;by_cases z1:ce=0
 case neg =>
  have y1:((ce:Int)==0)=false:=by rw[beq_eq_false_iff_ne];omega
  have hW:Hid (okB ce R.err S.1 W.1=false):=by rw[Hid,←Hm.out,←Hn.out,←Ho.out];unfold okB;rw[beq_eq_false_iff_ne.2 z1];rfl
  obtain⟨hl,hm,hn,ho,hp,hq⟩:=hT.x3;obtain⟨hd,hX,he,hY,hf,h0⟩:=hS.x3;obtain⟨hh,h5,hi,h6,hj,h7⟩:=hO.x3;obtain⟨h8,h9,Ha,Hb,Hc,Hd⟩:=hM.x3;go_upto_region 5 with fail
  go_region
  all_goals
   go_wp2;refine bodyPost_ret (v:=.tuple #[.agg #[.slice a1 m1 c1,.slice a2 m2 c2,.slice a3 m3 c3],.slice a4 m4 c4,.agg #[.slice at2 nt2 ct2,.string sd2,.int .i64 ti2],.bool false]) ?_ rfl ?_
   ·simp[results,Tryz.results7,go_sem,hd,he,hf,hh,hi,hj,Hp,Hq,nS,nO,nS.symm]
   ·exact hU.out _ hW.out
 case pos =>
  subst z1;by_cases z2:e2=0
  case neg =>
   have y2:((e2:Int)==0)=false:=by rw[beq_eq_false_iff_ne];omega
   have hW:Hid (okB 0 R.err S.1 W.1=false):=by rw[Hid,←Hm.out,←Hn.out,←Ho.out];unfold okB;rw[beq_eq_false_iff_ne.2 z2];rfl
   obtain⟨hl,hm,hn,ho,hp,hq⟩:=hT.x3;obtain⟨hd,hX,he,hY,hf,h0⟩:=hS.x3;obtain⟨hh,h5,hi,h6,hj,h7⟩:=hO.x3;obtain⟨h8,h9,Ha,Hb,Hc,Hd⟩:=hM.x3;go_upto_region 5 with fail
   go_region
   all_goals
    go_wp2;refine bodyPost_ret (v:=.tuple #[.agg #[.slice a1 m1 c1,.slice a2 m2 c2,.slice a3 m3 c3],.slice a4 m4 c4,.agg #[.slice at2 nt2 ct2,.string sd2,.int .i64 ti2],.bool false]) ?_ rfl ?_
    ·simp[results,Tryz.results7,go_sem,hd,he,hf,hh,hi,hj,Hp,Hq,nS,nO,nS.symm]
    ·exact hU.out _ hW.out
  case pos =>
   subst z2;by_cases z3:e3=0
   case neg =>
    have y3:((e3:Int)==0)=false:=by rw[beq_eq_false_iff_ne];omega
    have hW:Hid (okB 0 R.err S.1 W.1=false):=by rw[Hid,←Hm.out,←Hn.out,←Ho.out];unfold okB;rw[beq_eq_false_iff_ne.2 z3];rfl
    obtain⟨hl,hm,hn,ho,hp,hq⟩:=hT.x3;obtain⟨hd,hX,he,hY,hf,h0⟩:=hS.x3;obtain⟨hh,h5,hi,h6,hj,h7⟩:=hO.x3;obtain⟨h8,h9,Ha,Hb,Hc,Hd⟩:=hM.x3;go_upto_region 5 with fail
    go_region
    all_goals
     go_wp2;refine bodyPost_ret (v:=.tuple #[.agg #[.slice a1 m1 c1,.slice a2 m2 c2,.slice a3 m3 c3],.slice a4 m4 c4,.agg #[.slice at2 nt2 ct2,.string sd2,.int .i64 ti2],.bool false]) ?_ rfl ?_
     ·simp[results,Tryz.results7,go_sem,hd,he,hf,hh,hi,hj,Hp,Hq,nS,nO,nS.symm]
     ·exact hU.out _ hW.out
   case pos =>
    subst z3;by_cases z4:e4=0
    case neg =>
     have y4:((e4:Int)==0)=false:=by rw[beq_eq_false_iff_ne];omega
     have hW:Hid (okB 0 R.err S.1 W.1=false):=by rw[Hid,←Hm.out,←Hn.out,←Ho.out];unfold okB;rw[beq_eq_false_iff_ne.2 z4];rfl
     obtain⟨hl,hm,hn,ho,hp,hq⟩:=hT.x3;obtain⟨hd,hX,he,hY,hf,h0⟩:=hS.x3;obtain⟨hh,h5,hi,h6,hj,h7⟩:=hO.x3;obtain⟨h8,h9,Ha,Hb,Hc,Hd⟩:=hM.x3;go_upto_region 5 with fail
     go_region
     all_goals
      go_wp2;refine bodyPost_ret (v:=.tuple #[.agg #[.slice a1 m1 c1,.slice a2 m2 c2,.slice a3 m3 c3],.slice a4 m4 c4,.agg #[.slice at2 nt2 ct2,.string sd2,.int .i64 ti2],.bool false]) ?_ rfl ?_
      ·simp[results,Tryz.results7,go_sem,hd,he,hf,hh,hi,hj,Hp,Hq,nS,nO,nS.symm]
      ·exact hU.out _ hW.out
    case pos =>
     subst z4;have hW:Hid (okB 0 R.err S.1 W.1=true):=by rw[Hid,←Hm.out,←Hn.out,←Ho.out];rfl
     obtain⟨hl,hm,hn,ho,hp,hq⟩:=hT.x3;obtain⟨hd,hX,he,hY,hf,h0⟩:=hS.x3;obtain⟨hh,h5,hi,h6,hj,h7⟩:=hO.x3;obtain⟨h8,h9,Ha,Hb,Hc,Hd⟩:=hM.x3;go_upto_region 5 with fail
     go_region
     all_goals
      go_wp2;refine bodyPost_ret (v:=.tuple #[.agg #[.slice a1 m1 c1,.slice a2 m2 c2,.slice a3 m3 c3],.slice a4 m4 c4,.agg #[.slice at2 nt2 ct2,.string sd2,.int .i64 ti2],.bool true]) ?_ rfl ?_
      ·simp[results,Tryz.results7,go_sem,hd,he,hf,hh,hi,hj,Hp,Hq,nS,nO,nS.symm]
      ·exact hU.out _ hW.out
end
section
open Go.RowKit Go.Shelf
def PF (B:Nat) (sx:ByteArray) (R:Drw) (F:List Nat) (Y:List Int) (fv rv:Value) (cx:ByteArray) (w:World):Prop:=(cx=if R.err=0 then sx else ⟨#[]⟩)∧NOwn w B fv F∧ZOwn w B rv Y
theorem PF.after {B:Nat} {sx:ByteArray} {R:Drw} {F:List Nat} {Y:List Int} {fv rv:Value} {cx:ByteArray} {w w':World} (h:PF B sx R F Y fv rv cx w) (hb:Bw w w'):PF B sx R F Y fv rv cx w':=⟨h.1,own_after h.2.1 hb,own_after h.2.2 hb⟩
theorem PF.set {B:Nat} {sx:ByteArray} {R:Drw} {F:List Nat} {Y:List Int} {fv rv:Value} {cx:ByteArray} {w:World} {g:Nat} {T:TypeId} {cs:List Value} (h:PF B sx R F Y fv rv cx w) (hB:Blk w g T cs) (h1:22≠T) (h2:28≠T) (x y z:Value):PF B sx R F Y fv rv cx (((w.setCell ⟨g,0,none⟩ x).setCell ⟨g,1,none⟩ y).setCell ⟨g,2,none⟩ z):=by
 have e1:=own_ne h.2.1 hB h1;have e2:=own_ne h.2.2 hB h2;exact⟨h.1,own_set (own_set (own_set h.2.1 e1) e1) e1,own_set (own_set (own_set h.2.2 e2) e2) e2⟩
theorem blk_neT {w:World} {g g':Nat} {T T':TypeId} {cs cs':List Value} (h:Blk w g T cs) (h':Blk w g' T' cs') (hT:T≠T'):g≠g':=by
 rintro rfl;unfold Blk at h h';rw[h]at h';injection h' with h'
 injection h' with _ h'
 exact hT h'
theorem blk_set3 {w:World} {g g':Nat} {T:TypeId} {cs:List Value} (h:Blk w g T cs) (hb:g≠g') (x y z:Value):Blk (((w.setCell ⟨g',0,none⟩ x).setCell ⟨g',1,none⟩ y).setCell ⟨g',2,none⟩ z) g T cs:=
 ((h.other ⟨g',0,none⟩ x hb).other ⟨g',1,none⟩ y hb).other ⟨g',2,none⟩ z hb
def RES (B:Nat) (sx:ByteArray) (R:Drw) (F:List Nat) (Y:List Int) (v:Value) (w:World):Prop:=∃fv rv ua un uc cx sd pos,v=.tuple #[.agg #[fv,.string cx,rv],.agg #[.slice ua un uc,.string sd,.int .i64 pos],.int .i64 (R.err:Int)]∧PF B sx R F Y fv rv cx w
def vPn (B:Nat) (s4 s200 sx:ByteArray) (vS vW vT:Value) (k:Nat) (R:Drw) (F:List Nat) (Y:List Int):RVB:=fun st i v w=>match i with
 | 0=>v=.agg #[.string s4,.string s200]
 | 1=>v=vS
 | 2=>v=vW
 | 3=>v=.int .u8 (k:Int)
 | 4=>v=.int .u8 ((k%4:Nat):Int)
 | 5=>v=.int .u64 ((k%4:Nat):Int)
 | 6=>v=.string sx
 | 7=>v=vT
 | 8=>RES B sx R F Y v w
 | 9=>RES B sx R F Y v w
 | 10=>∃fv rv cx,v=.agg #[fv,.string cx,rv]∧PF B sx R F Y fv rv cx w
 | 11=>∃ua un uc sd pos,v=.agg #[.slice ua un uc,.string sd,.int .i64 pos]
 | 12=>v=.int .i64 (R.err:Int)
 | 13=>∃g,v=.pointer (some ⟨g,0,none⟩)∧B≤g∧(∀y,st=[false,y]→Blk w g 54 [.slice none 0 0,.string ⟨#[]⟩,.slice none 0 0])∧(∀y,st=[true,y]→∃fv rv cx,Blk w g 54 [fv,.string cx,rv]∧PF B sx R F Y fv rv cx w)
 | 14=>∃g,v=.pointer (some ⟨g,0,none⟩)∧B≤g∧(∀x,st=[x,false]→Blk w g 35 [.slice none 0 0,.string ⟨#[]⟩,.int .i64 0])
 | 17=>v=.int .i64 (R.err:Int)
 | _=>True
theorem RES.after {B:Nat} {sx:ByteArray} {R:Drw} {F:List Nat} {Y:List Int} {v:Value} {w w':World} (h:RES B sx R F Y v w) (hb:Bw w w'):RES B sx R F Y v w':=by
 obtain⟨fv,rv,ua,un,uc,cx,sd,pos,h1,h2⟩:=h;exact⟨fv,rv,ua,un,uc,cx,sd,pos,h1,h2.after hb⟩
theorem vPn_st (B:Nat) (s4 s200 sx:ByteArray) (vS vW vT:Value) (k:Nat) (R:Drw) (F:List Nat) (Y:List Int):∀(l:List Bool) (j:Nat) (u:Value) (w w':World),Bw w w'→vPn B s4 s200 sx vS vW vT k R F Y l j u w→vPn B s4 s200 sx vS vW vT k R F Y l j u w':=by
 intro l j u w w' hb h;unfold vPn at h ⊢;split at h
 all_goals first
  | exact h
  | exact RES.after h hb
  | (obtain⟨fv,rv,cx,h1,h2⟩:=h;exact⟨fv,rv,cx,h1,h2.after hb⟩)
  | (obtain⟨g,h1,h2,h3,h4⟩:=h;exact⟨g,h1,h2,fun y e=>(h3 y e).after hb,fun y e=>(by obtain⟨fv,rv,cx,h5,h6⟩:=h4 y e;exact⟨fv,rv,cx,h5.after hb,h6.after hb⟩)⟩)
  | (obtain⟨g,h1,h2,h3⟩:=h;exact⟨g,h1,h2,fun y e=>(h3 y e).after hb⟩)
theorem vPn_s1 {B g:Nat} {s4 s200 sx:ByteArray} {vS vW vT:Value} {k:Nat} {R:Drw} {F:List Nat} {Y:List Int} {w:World} {fv rv:Value} {cx:ByteArray} {y:Bool} (hG:Blk w g 54 [.slice none 0 0,.string ⟨#[]⟩,.slice none 0 0]) (hc:B≤g) (hp:PF B sx R F Y fv rv cx w) :
  ∀(j:Nat) (u:Value),(j=13→u=.pointer (some ⟨g,0,none⟩))→vPn B s4 s200 sx vS vW vT k R F Y [false,y] j u w→vPn B s4 s200 sx vS vW vT k R F Y [true,y] j u (((w.setCell ⟨g,0,none⟩ fv).setCell ⟨g,1,none⟩ (.string cx)).setCell ⟨g,2,none⟩ rv):=by
 intro j u hj h;have hb:=fun {fv' rv':Value} {cx':ByteArray} (q:PF B sx R F Y fv' rv' cx' w)=>q.set hG (by decide) (by decide) fv (.string cx) rv
 unfold vPn at h ⊢;split at h
 all_goals first
  | (with_reducible exact h)
  | (obtain⟨fv',rv',ua,un,uc,cx',sd,pos,h1,h2⟩:=h;exact⟨fv',rv',ua,un,uc,cx',sd,pos,h1,hb h2⟩)
  | (obtain⟨fv',rv',cx',h1,h2⟩:=h;exact⟨fv',rv',cx',h1,hb h2⟩)
  | exact⟨g,hj rfl,hc,fun y e=>(by cases e),fun y e=>⟨fv,rv,cx,((hG.set 0 fv).set 1 (.string cx)).set 2 rv,hb hp⟩⟩
  | (obtain⟨g',h1,h2,h3⟩:=h;exact⟨g',h1,h2,fun x e=>(by injection e with _ e;subst e;have hq:=h3 false (by injection e with e _;rw[e]);exact blk_set3 hq (blk_neT hq hG (by decide)) _ _ _)⟩)
  | (obtain⟨g',h1,h2,h3⟩:=h;exact⟨g',h1,h2,fun x e=>(by injection e with _ e;have hq:=h3 false (by rw[e]);exact blk_set3 hq (blk_neT hq hG (by decide)) _ _ _)⟩)
theorem vPn_s2 {B g:Nat} {s4 s200 sx:ByteArray} {vS vW vT:Value} {k:Nat} {R:Drw} {F:List Nat} {Y:List Int} {w:World} {x0:Bool} (hG:Blk w g 35 [.slice none 0 0,.string ⟨#[]⟩,.int .i64 0]) (a1 a2 a3:Value) :
  ∀(j:Nat) (u:Value),vPn B s4 s200 sx vS vW vT k R F Y [x0,false] j u w→vPn B s4 s200 sx vS vW vT k R F Y [x0,true] j u (((w.setCell ⟨g,0,none⟩ a1).setCell ⟨g,1,none⟩ a2).setCell ⟨g,2,none⟩ a3):=by
 intro j u h;have hc:=fun {fv' rv':Value} {cx':ByteArray} (q:PF B sx R F Y fv' rv' cx' w)=>q.set hG (by decide) (by decide) a1 a2 a3
 unfold vPn at h ⊢;split at h
 all_goals first
  | (with_reducible exact h)
  | (obtain⟨fv',rv',ua,un,uc,cx',sd,pos,h1,h2⟩:=h;exact⟨fv',rv',ua,un,uc,cx',sd,pos,h1,hc h2⟩)
  | (obtain⟨fv',rv',cx',h1,h2⟩:=h;exact⟨fv',rv',cx',h1,hc h2⟩)
  | (obtain⟨g',h1,h2,h3,h4⟩:=h;exact⟨g',h1,h2,fun y e=>(by injection e with e _;have hq:=h3 false (by rw[e]);exact blk_set3 hq (blk_neT hq hG (by decide)) _ _ _),fun y e=>(by injection e with e _;obtain⟨fv',rv',cx',h5,h6⟩:=h4 false (by rw[e]);exact⟨fv',rv',cx',blk_set3 h5 (blk_neT h5 hG (by decide)) _ _ _,hc h6⟩)⟩)
  | (obtain⟨g',h1,h2,h3⟩:=h;exact⟨g',h1,h2,fun x e=>(by injection e with _ e;injection e with e _;cases e)⟩)
structure PnOk (s4 s200 sx:ByteArray) (N:NSta) (Z:List Int) (TP:Tp) (hb:Bool) (w:World):Prop where
 hld:∀(v1 v2 v3 vW:Value) (w':World),NAt w' v1 v2 v3 N→ZsAt w' vW Z→Calls Tryz.prog 8 #[.agg #[v1,v2,v3],vW] w' fun e w''=>e=.returned (.tuple #[.bool hb,.int .i64 0])∧Bw w' w''
 prv:hb=true→∃(R:Drw) (F:List Nat) (Y:List Int),(R.err=0∨R.err=2∨R.err=14∨R.err=15) ∧
  (∀(v1 v2 v3 vW vt:Value) (w':World),Bw w w'→NAt w' v1 v2 v3 N→ZsAt w' vW Z→SsAt w' vt TP.vals→Calls Tryz.prog 10 #[.agg #[.string s4,.string s200],.agg #[v1,v2,v3],vW,.string sx,.agg #[vt,.string TP.seed,.int .i64 TP.pos]] w' (PPost w' sx R F Y)) ∧
  (R.err=0→∀(v1 v2 v3 fv rv:Value) (w':World),NAt w' v1 v2 v3 N→SsAt w' fv (F.map E)→ZsAt w' rv Y→Calls Tryz.prog 11 #[.agg #[.string s4,.string s200],.agg #[v1,v2,v3],.agg #[fv,.string sx,rv]] w' fun e w''=>e=.returned (.int .i64 0)∧Bw w' w'')
theorem pn_walk (a b c d:ByteArray) (lo:Int) (vn:Bool) (va:ByteArray) (rn:Bool) (ra vl rd sd:ByteArray) (ti:Int) (st:Option Addr) (mt dt k:Nat) (w:World) (ob:Bool) (G:Prop) (s4 s200 sx:ByteArray) (hk:k<256)
  (n4:∀w:World,Calls Tryz.prog 9 #[.int .u64 4] w fun e w'=>e=.returned (.string s4)∧Bw w w')
  (n200:∀w:World,Calls Tryz.prog 9 #[.int .u64 200] w fun e w'=>e=.returned (.string s200)∧Bw w w')
  (nx:∀w:World,Calls Tryz.prog 9 #[.int .u64 ((k%4:Nat):Int)] w fun e w'=>e=.returned (.string sx)∧Bw w w')
  (hs:∀w':World,Calls Tryz.prog 4 #[.agg #[.string a,.string b,.string c,.string d,.int .i64 lo,.bool vn,.string va,.bool rn,.string ra,.string vl,.string rd]] w' fun e w2=>GateP G w' w2 e)
  (ho:∀w',Bw w w'→Calls Tryz.prog 5 #[.agg #[.slice st mt dt,.string sd,.int .i64 ti]] w' fun e w2=>e=.returned (.bool ob)∧Bw w' w2)
  (hg:G→ob=true→∃(N:NSta) (Z:List Int) (ok:Bool) (TP:Tp),N.vars.length≠1∧(∀w',Bw w w'→Calls Tryz.prog 7 #[.agg #[.string a,.string b,.string c,.string d,.int .i64 lo,.bool vn,.string va,.bool rn,.string ra,.string vl,.string rd],.agg #[.slice st mt dt,.string sd,.int .i64 ti]] w' (MdPostF w' N Z ok TP)) ∧
   (ok=true→∃hb:Bool,PnOk s4 s200 sx N Z TP hb w)) :
  Calls Tryz.prog 3 #[.agg #[.string a,.string b,.string c,.string d,.int .i64 lo,.bool vn,.string va,.bool rn,.string ra,.string vl,.string rd],.int .u8 (k:Int),.agg #[.slice st mt dt,.string sd,.int .i64 ti]] w fun e w'=>e=.returned (.bool true)∧Bw w w':=by
 have HS:=Kh hs;have HO:=Kh ho;have HG:=Kh hg;have jj:=Kh n4;have jk:=Kh n200;have jl:=Kh nx;have HW:=Kh (fun w=>awake27_c w);clear hs ho hg n4 n200 nx;obtain⟨hB,hT,he⟩:=blk2 w #[.string a,.string b,.string c,.string d,.int .i64 lo,.bool vn,.string va,.bool rn,.string ra,.string vl,.string rd] #[.slice st mt dt,.string sd,.int .i64 ti] 32 35;obtain⟨hH,hI,hO,hQ,hR,hS,hV,hW,hX,hY,h4,h5,h6,h7,h8,Ha,Hb,Hc,Hd,He,hn,hp⟩:=hB.x11;obtain⟨hy,hz,hA,hC,hD,hE⟩:=hT.x3;go_enter Tryz.func3,Tryz.ntmps3
 go_wp2_with fail
 refine (HS.out _).mono ?_;rintro e w1 ⟨r,rfl,hr,HK⟩;have HR:=Kh hr;clear hr;clear hH hI hO hQ hR hS hV hW hX hY h4 h5 h6 h7 h8 Ha Hb Hc Hd He hn hp;clear hy hz hA hC hD hE;replace hB:=hB.after HK;replace hT:=hT.after HK;replace he:=bt he HK;obtain⟨hH,hI,hO,hQ,hR,hS,hV,hW,hX,hY,h4,h5,h6,h7,h8,Ha,Hb,Hc,Hd,He,hn,hp⟩:=hB.x11;obtain⟨hy,hz,hA,hC,hD,hE⟩:=hT.x3;cases r
 case false =>
  go_wp2_with fail
  refine (HW.out _).mono ?_;rintro e w2 ⟨rfl,Hp⟩;go_wp2;go_ret
  exact⟨rfl,bt he Hp⟩
 case true =>
  go_wp2_with fail
  refine (HO.out _ he).mono ?_;rintro e w2 ⟨rfl,Hp⟩;clear hH hI hO hQ hR hS hV hW hX hY h4 h5 h6 h7 h8 Ha Hb Hc Hd He hn hp;clear hy hz hA hC hD hE;replace hB:=hB.after Hp;replace hT:=hT.after Hp;replace he:=bt he Hp;cases ob
  case false =>
   go_wp2_with fail
   refine (HW.out _).mono ?_;rintro e w3 ⟨rfl,Hq⟩;go_wp2;go_ret
   exact⟨rfl,bt he Hq⟩
  case true =>
   obtain⟨N,Z,ok,TP,jm,jn,jo⟩:=HG.out (HR.out (by trivial)) (by trivial);have jp:=Kh jn;have jq:=Kh jo;have HL:=Kh jm;clear jn jo jm HG HR HO HS;obtain⟨hH,hI,hO,hQ,hR,hS,hV,hW,hX,hY,h4,h5,h6,h7,h8,Ha,Hb,Hc,Hd,He,hn,hp⟩:=hB.x11;obtain⟨hy,hz,hA,hC,hD,hE⟩:=hT.x3;go_wp2_with fail
   refine (jp.out _ he).mono ?_;rintro e w3 ⟨v1,v2,v3,vw,tu,tc,rfl,hN,hZ,hU,jr,Hq⟩;clear hH hI hO hQ hR hS hV hW hX hY h4 h5 h6 h7 h8 Ha Hb Hc Hd He hn hp;clear hy hz hA hC hD hE;obtain⟨⟨a1,m1,c1',rfl⟩,⟨a2,m2,c2',rfl⟩,⟨a3,m3,c3',rfl⟩⟩:=hN.slm;obtain⟨a4,c4,rfl⟩:=RAt.form hZ;obtain⟨gT,HM⟩:∃g,g=w.heap.size+1:=⟨_,rfl⟩;rw[←HM]at hT ⊢;have Hr:=jr gT hT.lt;replace hT:=hT.after Hq;replace he:=bt he Hq;clear Hq hB jp jr;obtain⟨m4,js⟩:∃n,n=(Z.map zI).length:=⟨_,rfl⟩;rw[←js]at hZ ⊢;clear js;obtain⟨tn,jt⟩:∃n,n=TP.vals.length:=⟨_,rfl⟩;rw[←jt]at hU Hr ⊢;clear jt;obtain⟨ts,HN⟩:∃n,n=TP.seed:=⟨_,rfl⟩;obtain⟨ti2,Hj⟩:∃n,n=TP.pos:=⟨_,rfl⟩;rw[←HN,←Hj];have jE:=Kh HN;have jF:=Kh Hj;clear HN Hj;have ju:=hT.lt;have HP:Hid (w.heap.size≤gT):=by rw[Hid,HM];exact Nat.le_succ _
   clear HM;obtain⟨hy,hz,hA,hC,hD,hE⟩:=hT.x3;go_upto_region 4 with fail
   clear hy hz hA hC hD hE;clear ju;have k1:=hT.set 0 (.slice tu tn tc);have k2:=k1.set 1 (.string ts);have k3:=k2.set 2 (.int .i64 ti2);replace hN:=((hN.setO (i:=0) (x:=.slice tu tn tc) (tapeB hT) HL.out).setO (i:=1) (x:=.string ts) (tapeB k1) HL.out).setO (i:=2) (x:=.int .i64 ti2) (tapeB k2) HL.out;replace hZ:=((ZsAt.setO (i:=0) (x:=.slice tu tn tc) hZ (tapeB hT)).setO (i:=1) (x:=.string ts) (tapeB k1)).setO (i:=2) (x:=.int .i64 ti2) (tapeB k2);replace hU:=((hU.set_far (i:=0) (x:=.slice tu tn tc) Hr).set_far (i:=1) (x:=.string ts) Hr).set_far (i:=2) (x:=.int .i64 ti2) Hr;replace he:=((he.setCell (p:=⟨gT,0,none⟩) HP.out (.slice tu tn tc)).setCell (p:=⟨gT,1,none⟩) HP.out (.string ts)).setCell (p:=⟨gT,2,none⟩) HP.out (.int .i64 ti2);have HQ:(((w3.setCell ⟨gT,0,none⟩ (.slice tu tn tc)).setCell ⟨gT,1,none⟩ (.string ts)).setCell ⟨gT,2,none⟩ (.int .i64 ti2)).heap.size=w3.heap.size:=by simp only[World.size_setCell]
   clear hT k1 k2 Hr;generalize ((w3.setCell ⟨gT,0,none⟩ (.slice tu tn tc)).setCell ⟨gT,1,none⟩ (.string ts)).setCell ⟨gT,2,none⟩ (.int .i64 ti2)=w4 at HQ k3 hN hZ hU he ⊢;replace k3:Blk w4 gT 35 [.slice tu tn tc,.string ts,.int .i64 ti2]:=k3;rw[←HQ];obtain⟨hM,Ho⟩:=blk1 w4 #[.slice a1 m1 c1',.slice a2 m2 c2',.slice a3 m3 c3'] 43;clear HQ;obtain⟨gM,jv⟩:∃g,g=w4.heap.size:=⟨_,rfl⟩;rw[←jv]at hM ⊢;clear jv;replace k3:=k3.after Ho;replace hN:=hN.after Ho;replace hZ:=hZ.after Ho;replace hU:=SsAt.after hU Ho;replace he:=bt he Ho;clear Ho;generalize w4.alloc (.cells #[.slice a1 m1 c1',.slice a2 m2 c2',.slice a3 m3 c3'] 43)=w5 at hM k3 hN hZ hU he ⊢;replace hM:Blk w5 gM 43 [.slice a1 m1 c1',.slice a2 m2 c2',.slice a3 m3 c3']:=hM;cases ok
   case false =>
    go_wp2_with fail
    refine (HW.out _).mono ?_;rintro e w6 ⟨rfl,Hg⟩;go_wp2;go_ret
    exact⟨rfl,bt he Hg⟩
   case true =>
    obtain⟨hb,jw⟩:=jq.out (by trivial);have HT:=Kh jw;clear jw jq;have HU:=hM.lt;obtain⟨Hs,Ht,Hu,Hv,Hw,Hx⟩:=hM.x3;go_wp2_with fail
    refine (HT.out.hld _ _ _ _ _ hN hZ).mono ?_;rintro e w6 ⟨rfl,Hg⟩;clear Hs Ht Hu Hv Hw Hx;clear HU;replace hM:=hM.after Hg;replace k3:=k3.after Hg;replace hN:=hN.after Hg;replace hZ:=hZ.after Hg;replace hU:=SsAt.after hU Hg;replace he:=bt he Hg;clear Hg;cases hb
    case false =>
     go_wp2_with fail
     refine (HW.out _).mono ?_;rintro e w7 ⟨rfl,Hh⟩;go_wp2;go_ret
     exact⟨rfl,bt he Hh⟩
    case true =>
     obtain⟨R,F,Y,jx,hpr,jy⟩:=HT.out.prv (by trivial);have jz:=Kh jx;have HV:=Kh hpr;have jA:=Kh jy;clear jx hpr jy HT;rw[←jE.out,←jF.out]at HV;go_wp2_with fail
     refine (jj.out _).mono ?_;rintro e w7 ⟨rfl,Hh⟩;replace hM:=hM.after Hh;replace k3:=k3.after Hh;replace hN:=hN.after Hh;replace hZ:=hZ.after Hh;replace hU:=SsAt.after hU Hh;replace he:=bt he Hh;clear Hh;go_wp2_with fail
     refine (jk.out _).mono ?_;rintro e w8 ⟨rfl,Hk⟩;replace hM:=hM.after Hk;replace k3:=k3.after Hk;replace hN:=hN.after Hk;replace hZ:=hZ.after Hk;replace hU:=SsAt.after hU Hk;replace he:=bt he Hk;clear Hk;obtain⟨hL,Hl⟩:=blk1 w8 #[.string s4,.string s200] 52;go_upto_region 10 with fail
     obtain⟨gL,jB⟩:∃g,g=w8.heap.size:=⟨_,rfl⟩;rw[←jB]at hL ⊢;clear jB;replace hM:=hM.after Hl;replace k3:=k3.after Hl;replace hN:=hN.after Hl;replace hZ:=hZ.after Hl;replace hU:=SsAt.after hU Hl;replace he:=bt he Hl;clear Hl;generalize w8.alloc (.cells #[.string s4,.string s200] 52)=w9 at hL hM k3 hN hZ hU he ⊢;replace hL:Blk w9 gL 52 [.string s4,.string s200]:=hL;have jG:Hid (k<256):=hk;obtain⟨VS,HX⟩:∃v,v=Value.agg #[.slice a1 m1 c1',.slice a2 m2 c2',.slice a3 m3 c3']:=⟨_,rfl⟩;obtain⟨VT,HY⟩:∃v,v=Value.agg #[.slice tu tn tc,.string ts,.int .i64 ti2]:=⟨_,rfl⟩
     have jC:Hid (∀w',Bw w9 w'→Calls Tryz.prog 10 #[.agg #[.string s4,.string s200],VS,.slice a4 m4 c4,.string sx,VT] w' (PPost w' sx R F Y)):=fun w' hb=>by
      rw[HX,HY];exact HV.out _ _ _ _ _ w' (bt he hb) (hN.after hb) (hZ.after hb) (SsAt.after hU hb)
     have jH:=Kh HX;have jI:=Kh HY;clear HX HY HV;go_cut [13,15] (fun s13 s15 wx=>∃(g13:Nat) (fv rv:Value) (cx:ByteArray),s13=.pointer (some ⟨g13,0,none⟩)∧s15=.int .i64 (R.err:Int)∧Blk wx g13 54 [fv,.string cx,rv]∧PF w9.heap.size sx R F Y fv rv cx wx∧Bw w9 wx)
     case first =>
      refine wp_region_invB (vPn w9.heap.size s4 s200 sx VS (.slice a4 m4 c4) VT k R F Y) [15,16] w9.heap.size (fun _ _=>True) 84 trivial (by kernel_rfl) rfl (by kernel_rfl) ?_ ?_ (by kernel_rfl)
      ·intro ht done a' w' i o hJ ho hh hc;have hi:=(Array.getElem?_eq_some_iff.1 ho).1;have hw:=vPn_st w9.heap.size s4 s200 sx VS (.slice a4 m4 c4) VT k R F Y;have hx:∀(b:List Bool) (w w':World),Bw w w'→(fun (_:List Bool) (_:World)=>True) b w→(fun (_:List Bool) (_:World)=>True) b w':=fun _ _ _ _ _=>trivial
       have hl:=hJ.bw.size;have HZ:=hL.after hJ.bw;have HD:=hM.after hJ.bw;have HE:=k3.after hJ.bw;have jJ:=HZ.lt;have HU:=HD.lt;have ju:=HE.lt;have l0:=HZ.cell 0;have l1:=HZ.cell 1;have y0:=HD.cell 0;have y1:=HD.cell 1;have y2:=HD.cell 2;have z0:=HE.cell 0;have z1:=HE.cell 1;have z2:=HE.cell 2
       match i,hi,ho,hh,hc with
        | 0,_,ho,hh,hc =>
         simp at ho;subst ho;refine hJ.op (d:=49) ht hw hx hl rfl rfl rfl (by decide) hc ?_;have q12:=hJ.keep 12 (.pointer (some ⟨gL,0,none⟩)) rfl (by kernel_rfl);refine wp_val (v:=.agg #[.string s4,.string s200]) (by simp[execOp,q12,l0,l1,go_sem]) rfl
        | 1,_,ho,hh,hc =>
         simp at ho;subst ho;refine hJ.op (d:=50) ht hw hx hl rfl rfl rfl (by decide) hc ?_;have q7:=hJ.keep 7 (.pointer (some ⟨gM,0,none⟩)) rfl (by kernel_rfl);refine wp_val (v:=VS) (by rw[jH.out];simp[execOp,q7,y0,y1,y2,go_sem]) rfl
        | 2,_,ho,hh,hc =>
         simp at ho;subst ho;refine hJ.op (d:=51) ht hw hx hl rfl rfl rfl (by decide) hc ?_;have q8:=hJ.keep 8 (.slice a4 m4 c4) rfl (by kernel_rfl);refine wp_val (v:=.slice a4 m4 c4) (by simp[execOp,q8,go_sem]) rfl
        | 3,_,ho,hh,hc =>
         simp at ho;subst ho;refine hJ.op (d:=52) ht hw hx hl rfl rfl rfl (by decide) hc ?_;have q1:=hJ.keep 1 (.int .u8 (k:Int)) rfl (by kernel_rfl);refine wp_val (v:=.int .u8 (k:Int)) (by simp[execOp,q1,go_sem]) rfl
        | 4,_,ho,hh,hc =>
         simp at ho;subst ho;refine hJ.op (d:=53) ht hw hx hl rfl rfl rfl (by decide) hc ?_;obtain⟨v52,ev52,H0⟩:=hJ.dn 3 _ 52 rfl (hc ⟨3,.data⟩ (by simp) rfl) rfl;have qv52:=eval_of ev52;obtain rfl:v52=.int .u8 (k:Int):=H0
         have ek:IntKind.wrap .u8 ((k:Int).tmod 4)=((k%4:Nat):Int):=by
          have h1:=jG.out;have h2:(k:Int).tmod 4=((k%4:Nat):Int):=rfl;have h3:k%4<4:=Nat.mod_lt _ (by decide);rw[h2];unfold IntKind.wrap;simp[IntKind.bits,IntKind.signed];omega
         have ek2:(k:Int).tmod 4=(k:Int)%4:=Int.tmod_eq_emod_of_nonneg (Int.natCast_nonneg k);refine wp_val (v:=.int .u8 ((k%4:Nat):Int)) (by simp[execOp,ev52,go_sem,ek,ek2]) rfl
        | 5,_,ho,hh,hc =>
         simp at ho;subst ho;refine hJ.op (d:=54) ht hw hx hl rfl rfl rfl (by decide) hc ?_;obtain⟨v53,ev53,H1⟩:=hJ.dn 4 _ 53 rfl (hc ⟨4,.data⟩ (by simp) rfl) rfl;have qv53:=eval_of ev53;obtain rfl:v53=.int .u8 ((k%4:Nat):Int):=H1
         have ek:IntKind.wrap .u64 ((k%4:Nat):Int)=((k%4:Nat):Int):=by
          have h3:k%4<4:=Nat.mod_lt _ (by decide);generalize k%4=m at h3;unfold IntKind.wrap;simp[IntKind.bits,IntKind.signed];omega
         refine wp_val (v:=.int .u64 ((k%4:Nat):Int)) (by generalize k%4=m at ev53 ek ⊢;simp[execOp,ev53,go_sem,ek]) rfl
        | 6,_,ho,hh,hc =>
         simp at ho;subst ho;refine hJ.op (d:=55) ht hw hx hl rfl rfl rfl (by decide) hc ?_;obtain⟨v54,ev54,H2⟩:=hJ.dn 5 _ 54 rfl (hc ⟨5,.data⟩ (by simp) rfl) rfl;have qv54:=eval_of ev54;obtain rfl:v54=.int .u64 ((k%4:Nat):Int):=H2;refine wp_callX 9 #[.tmp 54] #[50] rfl (enters_of Tryz.func9 (by kernel_rfl) rfl) ?_;simp only[List.map_toArray,List.map_cons,List.map_nil,qv54];refine (jl.out w').mono ?_;rintro e w'' ⟨rfl,hb⟩;exact⟨_,rfl,hb,rfl⟩
        | 7,_,ho,hh,hc =>
         simp at ho;subst ho;refine hJ.op (d:=56) ht hw hx hl rfl rfl rfl (by decide) hc ?_;have q5:=hJ.keep 5 (.pointer (some ⟨gT,0,none⟩)) rfl (by kernel_rfl);refine wp_val (v:=VT) (by rw[jI.out];simp[execOp,q5,z0,z1,z2,go_sem]) rfl
        | 8,_,ho,hh,hc =>
         simp at ho;subst ho;refine hJ.op (d:=57) ht hw hx hl rfl rfl rfl (by decide) hc ?_;obtain⟨v49,ev49,H3⟩:=hJ.dn 0 _ 49 rfl (hc ⟨0,.data⟩ (by simp) rfl) rfl;have qv49:=eval_of ev49;obtain⟨v50,ev50,H4⟩:=hJ.dn 1 _ 50 rfl (hc ⟨1,.data⟩ (by simp) rfl) rfl;have qv50:=eval_of ev50;obtain⟨v51,ev51,H5⟩:=hJ.dn 2 _ 51 rfl (hc ⟨2,.data⟩ (by simp) rfl) rfl;have qv51:=eval_of ev51;obtain⟨v55,ev55,H6⟩:=hJ.dn 6 _ 55 rfl (hc ⟨6,.data⟩ (by simp) rfl) rfl;have qv55:=eval_of ev55;obtain⟨v56,ev56,H7⟩:=hJ.dn 7 _ 56 rfl (hc ⟨7,.data⟩ (by simp) rfl) rfl;have qv56:=eval_of ev56;obtain rfl:v49=.agg #[.string s4,.string s200]:=H3;obtain rfl:v50=VS:=H4;obtain rfl:v51=.slice a4 m4 c4:=H5;obtain rfl:v55=.string sx:=H6;obtain rfl:v56=VT:=H7;refine wp_callX 10 #[.tmp 49,.tmp 50,.tmp 51,.tmp 55,.tmp 56] #[52,43,44,22,35] rfl (enters_of Tryz.func10 (by kernel_rfl) rfl) ?_;simp only[List.map_toArray,List.map_cons,List.map_nil,qv49,qv50,qv51,qv55,qv56];refine (jC.out w' hJ.bw).mono ?_;rintro e w'' ⟨fv,rv,u,cx,rfl,HF,HH,HI,jK,hb⟩;obtain⟨ua,uc,rfl⟩:=RAt.form jK;exact⟨_,rfl,hb,fv,rv,ua,_,uc,cx,_,_,rfl,HF,own_mono HH hl,own_mono HI hl⟩
        | 9,_,ho,hh,hc =>
         simp at ho;subst ho;refine hJ.op (d:=48) ht hw hx hl rfl rfl rfl (by decide) hc ?_;obtain⟨v57,ev57,H8⟩:=hJ.dn 8 _ 57 rfl (hc ⟨8,.data⟩ (by simp) rfl) rfl;have qv57:=eval_of ev57;obtain⟨fv,rv,ua,un,uc,cx,sd9,pos9,rfl,hF⟩:=H8;refine wp_val (v:=.tuple #[.agg #[fv,.string cx,rv],.agg #[.slice ua un uc,.string sd9,.int .i64 pos9],.int .i64 (R.err:Int)]) (by simp[execOp,ev57,go_sem]) ⟨fv,rv,ua,un,uc,cx,sd9,pos9,rfl,hF⟩
        | 10,_,ho,hh,hc =>
         simp at ho;subst ho;refine hJ.op (d:=58) ht hw hx hl rfl rfl rfl (by decide) hc ?_;obtain⟨v48,ev48,Hf⟩:=hJ.dn 9 _ 48 rfl (hc ⟨9,.data⟩ (by simp) rfl) rfl;have qv48:=eval_of ev48;obtain⟨fv,rv,ua,un,uc,cx,sd9,pos9,rfl,hF⟩:=Hf;refine wp_val (v:=.agg #[fv,.string cx,rv]) (by simp[execOp,ev48,go_sem]) ⟨fv,rv,cx,rfl,hF⟩
        | 11,_,ho,hh,hc =>
         simp at ho;subst ho;refine hJ.op (d:=59) ht hw hx hl rfl rfl rfl (by decide) hc ?_;obtain⟨v48,ev48,Hf⟩:=hJ.dn 9 _ 48 rfl (hc ⟨9,.data⟩ (by simp) rfl) rfl;have qv48:=eval_of ev48;obtain⟨fv,rv,ua,un,uc,cx,sd9,pos9,rfl,hF⟩:=Hf;refine wp_val (v:=.agg #[.slice ua un uc,.string sd9,.int .i64 pos9]) (by simp[execOp,ev48,go_sem]) ⟨ua,un,uc,sd9,pos9,rfl⟩
        | 12,_,ho,hh,hc =>
         simp at ho;subst ho;refine hJ.op (d:=60) ht hw hx hl rfl rfl rfl (by decide) hc ?_;obtain⟨v48,ev48,Hf⟩:=hJ.dn 9 _ 48 rfl (hc ⟨9,.data⟩ (by simp) rfl) rfl;have qv48:=eval_of ev48;obtain⟨fv,rv,ua,un,uc,cx,sd9,pos9,rfl,hF⟩:=Hf;refine wp_val (v:=.int .i64 (R.err:Int)) (by simp[execOp,ev48,go_sem]) rfl
        | 13,_,ho,hh,hc =>
         simp at ho;subst ho;refine hJ.op (d:=13) ht hw hx hl rfl rfl rfl (by decide) hc ?_
         have k15:done.getD 15 false=false:=by
          cases a11:done.getD 15 false with
          | false=>rfl
          | true =>
           have a10:=hJ.pr 15 _ rfl a11 ⟨13,.data⟩ (by simp) rfl;rw[hh]at a10;cases a10
         have hN:=Blk.new w' #[.slice none 0 0,.string ⟨#[]⟩,.slice none 0 0] 54;simp[Oper.wp,execOp,go_sem];exact⟨_,rfl,b1 _ _,_,rfl,hl,fun y e=>hN,fun y e=>by simp only[stB,List.map_cons,List.map_nil,k15]at e;cases e⟩
        | 14,_,ho,hh,hc =>
         simp at ho;subst ho;refine hJ.op (d:=14) ht hw hx hl rfl rfl rfl (by decide) hc ?_;have hN:=Blk.new w' #[.slice none 0 0,.string ⟨#[]⟩,.int .i64 0] 35;simp[Oper.wp,execOp,go_sem];exact⟨_,rfl,b1 _ _,_,rfl,hl,fun y e=>hN⟩
        | 15,_,ho,hh,hc =>
         simp at ho;subst ho;obtain⟨v58,ev58,H9⟩:=hJ.dn 10 _ 58 rfl (hc ⟨10,.data⟩ (by simp) rfl) rfl;have qv58:=eval_of ev58;obtain⟨v13,ev13,Hy⟩:=hJ.dn 13 _ 13 rfl (hc ⟨13,.data⟩ (by simp) rfl) rfl;have qv13:=eval_of ev13;obtain⟨bA,ja⟩:∃y,y=done.getD 16 false:=⟨_,rfl⟩;have Hm:stB [15,16] done=[false,bA]:=by simp only[stB,List.map_cons,List.map_nil];rw[hh,ja]
         have jb:15<done.size:=by rw[hJ.sz];decide
         have Hz:stB [15,16] (done.setIfInBounds 15 true)=[true,bA]:=by
          have e:=Hm;simp only[stB,List.map_cons,List.map_nil,List.cons.injEq,and_true]at e;simp only[stB,List.map_cons,List.map_nil,getD_set _ _ _ jb,e,if_true,if_false,Nat.reduceEqDiff]
         obtain⟨fv,rv,cx,rfl,hF⟩:=H9;rw[Hm]at Hy;obtain⟨g,rfl,Hi,hG,_⟩:=Hy;have hG:=hG bA rfl;have jc:=hG.lt;have f0:=hG.free 0;have f1:=hG.free 1;have f2:=hG.free 2;have z0:=hG.cell 0;have z1:=hG.cell 1;have z2:=hG.cell 2;refine wpOp_step rfl fun K' hK=>?_
         rw[if_pos (by simp[Region.wanted])]
         obtain⟨⟨p1,p2,rfl⟩,⟨r1,r2,rfl⟩⟩:(∃a1 c1,fv=.slice a1 F.length c1)∧(∃a1 c1,rv=.slice a1 (Y.map zI).length c1):=by
          obtain⟨x1,x2,x3⟩:=RAt.form hF.2.1.ss;obtain⟨x4,x5,x6⟩:=RAt.form hF.2.2.zs;refine⟨⟨x1,x2,?_⟩,⟨x4,x5,x6⟩⟩;rw[x3,List.length_map]
         simp[Oper.wp,execOp,ev58,ev13,go_sem,f0,f1,f2,z0,z1,z2,jc];have h9:=hJ.skip (i:=15) (v:=undef) rfl rfl hc (((hJ.bw.setCell (p:=⟨g,0,none⟩) Hi (.slice p1 F.length p2)).setCell (p:=⟨g,1,none⟩) Hi (.string cx)).setCell (p:=⟨g,2,none⟩) Hi (.slice r1 (Y.map zI).length r2)) trivial ?_
         ·first | exact hK a' _ h9 | (simp only[List.length_map]at h9;exact hK a' _ h9)
         ·intro j q hq hj jL d u hd hu hv;rw[Hm]at hv;rw[Hz];refine vPn_s1 hG Hi hF j u ?_ hv;rintro rfl;simp at hq;subst hq;cases hd
          rw[ev13]at hu;injection hu with hu
          exact hu.symm
        | 16,_,ho,hh,hc =>
         simp at ho;subst ho;obtain⟨v59,ev59,jd⟩:=hJ.dn 11 _ 59 rfl (hc ⟨11,.data⟩ (by simp) rfl) rfl;have qv59:=eval_of ev59;obtain⟨v14,ev14,HA⟩:=hJ.dn 14 _ 14 rfl (hc ⟨14,.data⟩ (by simp) rfl) rfl;have qv14:=eval_of ev14;obtain⟨bA,ja⟩:∃y,y=done.getD 15 false:=⟨_,rfl⟩;have Hm:stB [15,16] done=[bA,false]:=by simp only[stB,List.map_cons,List.map_nil];rw[hh,ja]
         have jb:16<done.size:=by rw[hJ.sz];decide
         have Hz:stB [15,16] (done.setIfInBounds 16 true)=[bA,true]:=by
          have e:=Hm;simp only[stB,List.map_cons,List.map_nil,List.cons.injEq,and_true]at e;simp only[stB,List.map_cons,List.map_nil,getD_set _ _ _ jb,e,if_true,if_false,Nat.reduceEqDiff]
         obtain⟨ua,un,uc,sd9,pos9,rfl⟩:=jd;rw[Hm]at HA;obtain⟨g,rfl,Hi,hG⟩:=HA;have hG:=hG bA rfl;have jc:=hG.lt;have f0:=hG.free 0;have f1:=hG.free 1;have f2:=hG.free 2;have z0:=hG.cell 0;have z1:=hG.cell 1;have z2:=hG.cell 2;refine wpOp_step rfl fun K' hK=>?_
         rw[if_pos (by simp[Region.wanted])];simp[Oper.wp,execOp,ev59,ev14,go_sem,f0,f1,f2,z0,z1,z2,jc];have h9:=hJ.skip (i:=16) (v:=undef) rfl rfl hc (((hJ.bw.setCell (p:=⟨g,0,none⟩) Hi (.slice ua un uc)).setCell (p:=⟨g,1,none⟩) Hi (.string sd9)).setCell (p:=⟨g,2,none⟩) Hi (.int .i64 pos9)) trivial ?_
         ·exact hK a' _ h9
         ·intro j q hq hj jL d u' hd hu hv;rw[Hm]at hv;rw[Hz];exact vPn_s2 hG _ _ _ j u' hv
        | 17,_,ho,hh,hc =>
         simp at ho;subst ho;refine hJ.op (d:=15) ht hw hx hl rfl rfl rfl (by decide) hc ?_;obtain⟨v60,ev60,je⟩:=hJ.dn 12 _ 60 rfl (hc ⟨12,.data⟩ (by simp) rfl) rfl;have qv60:=eval_of ev60;obtain rfl:v60=.int .i64 (R.err:Int):=je;refine wp_val (v:=.int .i64 (R.err:Int)) (by simp[execOp,ev60,go_sem]) rfl
      ·intro done a' w' hJ hd;obtain⟨f,hf,hv⟩:=hJ.all hd;have Hz:stB [15,16] done=[true,true]:=stB_all hd (by kernel_rfl);have jD:=hv 13 _ 13 rfl rfl;have jf:=hv 17 _ 15 rfl rfl;rw[Hz]at jD;obtain⟨g13,e13,jM,_,Hn⟩:=jD;obtain⟨fv,rv,cx,Hn,hF⟩:=Hn true rfl;replace jf:f 17=.int .i64 (R.err:Int):=jf;have jN:=hJ.bw;clear hJ hv hd;subst hf;simp only[putAll,List.size_toArray,List.length_cons,List.length_nil,Nat.reduceAdd,List.getElem?_toArray,List.getElem?_cons_zero,List.getElem?_cons_succ,Option.bind_some,Act.put,List.setIfInBounds_toArray,List.set_cons_zero,List.set_cons_succ];rw[e13,jf];go_wp2_with fail
       go_meet
       exact⟨g13,fv,rv,cx,rfl,rfl,Hn,hF,jN⟩
     case rest =>
      obtain⟨g13,fv,rv,cx,rfl,rfl,hP,hF,HB⟩:=hcut;obtain⟨wx,jO⟩:∃wx,wx=wc:=⟨_,rfl⟩;subst jO;replace hL:=hL.after HB;replace hM:=hM.after HB;replace hN:=hN.after HB;replace he:=bt he HB;clear HB hZ hU k3 jC jl jj jk;obtain⟨ke,HJ⟩:∃n,n=R.err:=⟨_,rfl⟩;have jg:=Kh HJ;have HC:Hid (ke=0∨ke=2∨ke=14∨ke=15):=by rw[Hid,HJ];exact jz.out
      rw[←HJ];clear HJ jz;rcases HC.out with h0 | h0 | h0 | h0
      rotate_left
      all_goals try
       subst h0;go_wp2_with fail
       refine (HW.out _).mono ?_;rintro e w10 ⟨rfl,hm⟩;go_wp2;go_ret
       exact⟨rfl,bt he hm⟩
      ·subst h0;clear HC;go_wp2_with fail
       refine (HW.out _).mono ?_;rintro e w10 ⟨rfl,hm⟩;replace hL:=hL.after hm;replace hM:=hM.after hm;replace hP:=hP.after hm;replace hN:=hN.after hm;replace hF:=hF.after hm;replace he:=bt he hm;clear hm;obtain⟨HF,HH,HI⟩:=hF;rw[if_pos jg.out.symm]at HF;subst HF;have jh:=Kh (jA.out jg.out.symm _ _ _ _ _ w10 hN HH.ss HI.zs);have jZ:=hP.lt;have HU:=hM.lt;have jJ:=hL.lt;clear hN HH HI jA jg;obtain⟨jP,jQ,jR,jS⟩:=hL.x2;obtain⟨Hs,Ht,Hu,Hv,Hw,Hx⟩:=hM.x3;obtain⟨jT,jU,jV,jW,jX,jY⟩:=hP.x3;go_wp2_with fail
       refine (jh.out).mono ?_;rintro e w11 ⟨rfl,ji⟩;go_wp2;go_ret
       exact⟨rfl,bt he ji⟩
end
end Go.Proofs.YtdgddpnjkinciaaGreatDoor
