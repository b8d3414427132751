/- The closure of rangeproof.Prepare: the digits of one end. -/
import Derived.Test.YtdoacbdkbbpamaaGreatDoorSp24
set_option linter.unusedVariables false
set_option linter.unusedSimpArgs false
set_option maxRecDepth 100000
set_option maxHeartbeats 16000000
namespace Go.Proofs.YtdoacbdkbbpamaaGreatDoor
open Go.RowKit Go.Shelf
theorem splN_cases (att:Att) (p g h q:Nat) (X:List Nat) (T:Tp) (n:Nat):(splN att p g h q X T n).err=0∧splN att p g h q X T n=⟨0,prP att p g h q X T n,prO att q X T n,T.on n⟩∧(∀j,j<n→(prC att q T j).1=0)∨(splN att p g h q X T n).err≠0∧splN att p g h q X T n=⟨(splN att p g h q X T n).err,[],[],Tp.nil⟩:=by
 unfold splN;split
 ·rename_i j hj;have h5:=List.find?_some hj;simp only [bne_iff_ne] at h5;exact .inr ⟨h5,rfl⟩
 ·rename_i hj;refine .inl ⟨rfl,rfl,fun j hjn=>?_⟩;have h5:=List.find?_eq_none.1 hj j (List.mem_range.2 hjn);simp only [bne_iff_ne,Decidable.not_not] at h5;exact h5
theorem own_form {w:World} {base n size:Nat} {e:TypeId} {v:Value} {xs:List Value} (h:w.ownsRow base e size v n xs) (hn:n≠0):∃g c,v=.slice (some ⟨g,0,none⟩) n c:=by
 have h1:=h.1;rcases h.2 with ⟨rfl,h2⟩ | ⟨g,cap,cur,rfl,_⟩
 ·exact absurd (by first | exact h2 | exact h2.1 | omega) hn
 ·exact ⟨g,cap,rfl⟩
def vHf (B a b:Nat) (u us v vs:Value) (L L2:List Nat) (M M2:List (Nat × Nat)):RVB:=fun st i x w=>match i with
 | 0=>x=u
 | 1=>x=us
 | 2=>w.ownsRow B 31 1 x (a+b) (strs (L++L2))
 | 3=>x=v
 | 4=>x=vs
 | 5=>w.ownsRow B 39 4 x (a+b) (((M++M2).map nop).flatMap opc)
 | _=>True
theorem vHf_st (B a b:Nat) (u us v vs:Value) (L L2:List Nat) (M M2:List (Nat × Nat)):∀(l:List Bool) (j:Nat) (x:Value) (w w':World),Below w.heap.size w w'→vHf B a b u us v vs L L2 M M2 l j x w→vHf B a b u us v vs L L2 M M2 l j x w':=by
 intro l j x w w' hb h;unfold vHf at h ⊢;split at h
 all_goals first
  | (with_reducible exact h)
  | exact own_after h hb
def fHf (B Bs a b gP gO:Nat) (u us v vs:Value) (L L2:List Nat) (M M2:List (Nat × Nat)) (sl:Value) (vals:List ByteArray) (w0:World) (st:List Bool) (w:World):Prop:=
 (st.getD 0 false=false→w.ownsRow B 31 1 u a (strs L)∧w.ownsRow Bs 31 1 us b (strs L2)) ∧
 (st.getD 1 false=false→w.ownsRow B 39 4 v a ((M.map nop).flatMap opc)∧w.ownsRow Bs 39 4 vs b ((M2.map nop).flatMap opc)) ∧
 (st.getD 2 false=false→Blk w gP 40 [u])∧(st.getD 2 false=true→∃x,Blk w gP 40 [x]∧w.ownsRow B 31 1 x (a+b) (strs (L++L2))) ∧
 (st.getD 3 false=false→Blk w gO 43 [v])∧(st.getD 3 false=true→∃x,Blk w gO 43 [x]∧w.ownsRow B 39 4 x (a+b) (((M++M2).map nop).flatMap opc)) ∧
 SsAt w sl vals∧(∀g T cs,Blk w0 g T cs→g≠gP→g≠gO→u.ownBlock≠some g→v.ownBlock≠some g→Blk w g T cs)
theorem fHf_st {B Bs a b gP gO:Nat} {u us v vs:Value} {L L2:List Nat} {M M2:List (Nat × Nat)} {sl:Value} {vals:List ByteArray} {w0:World} {st:List Bool} {w w':World} (hb:Below w.heap.size w w') (h:fHf B Bs a b gP gO u us v vs L L2 M M2 sl vals w0 st w):fHf B Bs a b gP gO u us v vs L L2 M M2 sl vals w0 st w':=by
 obtain ⟨h1,h2,h3,h4,h5,h6,h7,h8⟩:=h;refine ⟨fun e=>⟨own_after (h1 e).1 hb,own_after (h1 e).2 hb⟩,fun e=>⟨own_after (h2 e).1 hb,own_after (h2 e).2 hb⟩,fun e=>(h3 e).after hb,fun e=>?_,fun e=>(h5 e).after hb,fun e=>?_,SsAt.after h7 hb,fun g T cs a b c d e=>(h8 g T cs a b c d e).after hb⟩
 ·obtain ⟨x,k1,k2⟩:=h4 e;exact ⟨x,k1.after hb,own_after k2 hb⟩
 ·obtain ⟨x,k1,k2⟩:=h6 e;exact ⟨x,k1.after hb,own_after k2 hb⟩
theorem own_sl {w:World} {base n size:Nat} {e:TypeId} {v:Value} {xs:List Value} (h:w.ownsRow base e size v n xs):∃a m c,v=.slice a m c:=by
 rcases h.2 with ⟨rfl,_⟩ | ⟨g,cap,cur,rfl,_⟩
 ·exact ⟨_,_,_,rfl⟩
 ·exact ⟨_,_,_,rfl⟩
theorem strsOne (L:List Nat):∀x∈strs L,x.oneCell'=true:=by
 intro x hx;unfold strs at hx;obtain ⟨y,_,rfl⟩:=List.mem_map.1 hx;rfl
theorem ops_one (M:List Opn):∀x∈M.flatMap opc,x.oneCell'=true:=by
 intro x hx;obtain ⟨y,_,hy⟩:=List.mem_flatMap.1 hx;unfold opc at hy;simp only [List.mem_cons,List.not_mem_nil,or_false] at hy;rcases hy with rfl | rfl | rfl | rfl <;> rfl
theorem ops_len (M:List Opn):(M.flatMap opc).length=M.length*4:=by
 induction M with
 | nil=>rfl
 | cons x t ih=>rw [List.flatMap_cons,List.length_append,ih,List.length_cons];show 4+_=_;omega
theorem vHf_a {B a b:Nat} {u us v vs:Value} {L L2:List Nat} {M M2:List (Nat × Nat)} {l l':List Bool} {w w':World} (hO:w.ownsRow B 31 1 u a (strs L)) (hg:w.grownBy w' u.ownBlock):∀(j:Nat) (x:Value),j≠2→vHf B a b u us v vs L L2 M M2 l j x w→vHf B a b u us v vs L L2 M M2 l' j x w':=by
 intro j x hj h;unfold vHf at h ⊢;split at h
 all_goals first
  | (with_reducible exact h)
  | exact absurd rfl hj
  | exact own_grown h hO (by decide) hg
theorem vHf_b {B a b:Nat} {u us v vs:Value} {L L2:List Nat} {M M2:List (Nat × Nat)} {l l':List Bool} {w w':World} (hO:w.ownsRow B 39 4 v a ((M.map nop).flatMap opc)) (hg:w.grownBy w' v.ownBlock):∀(j:Nat) (x:Value),j≠5→vHf B a b u us v vs L L2 M M2 l j x w→vHf B a b u us v vs L L2 M M2 l' j x w':=by
 intro j x hj h;unfold vHf at h ⊢;split at h
 all_goals first
  | (with_reducible exact h)
  | exact absurd rfl hj
  | exact own_grown h hO (by decide) hg
theorem vHf_s {B a b g:Nat} {T:TypeId} {cs:List Value} {u us v vs:Value} {L L2:List Nat} {M M2:List (Nat × Nat)} {l l':List Bool} {w:World} (hT:Blk w g T cs) (h1:31≠T) (h2:39≠T) (y:Value):∀(j:Nat) (x:Value),vHf B a b u us v vs L L2 M M2 l j x w→vHf B a b u us v vs L L2 M M2 l' j x (w.setCell ⟨g,0,none⟩ y):=by
 intro j x h;unfold vHf at h ⊢;split at h
 all_goals first
  | (with_reducible exact h)
  | exact own_set h (own_ne h hT h1)
  | exact own_set h (own_ne h hT h2)
def HfPost (w:World) (gT gP gO B B0 a n:Nat) (u vO:Value) (L:List Nat) (M:List (Nat × Nat)) (T:Tp) (R:PrR) (e:Ending) (w':World):Prop:=
 e=.returned (.int .i64 (R.err:Int))∧Below B0 w w' ∧
 (R.err=0→∃ta tm tc u' v',Blk w' gT 42 [.slice ta tm tc,.string T.seed,.int .i64 (T.pos+(n:Int))]∧Blk w' gP 40 [u']∧Blk w' gO 43 [v']∧w'.ownsRow B 31 1 u' (a+n) (strs (L++R.parts))∧w'.ownsRow B 39 4 v' (a+n) (((M++R.ops).map nop).flatMap opc)∧SsAt w' (.slice ta tm tc) T.vals∧∀b,b<w.heap.size→FarS (.slice ta tm tc) b) ∧
 (∀g T cs,Blk w g T cs→g≠gT→g≠gP→g≠gO→u.ownBlock≠some g→vO.ownBlock≠some g→Blk w' g T cs)
theorem half_c (att:Att) (p q g h n v a:Nat) (T:Tp) (L:List Nat) (M:List (Nat × Nat)) (uo:Option Addr) (um uc:Nat) (u vO:Value) (gW gK gT gP gO B B0:Nat) (w:World) (hat:HAtt att T.seed w) (hok:T.Ok) (hgd:T.good=true) (hp:p<256^8) (hq:q<256^8) (h2:2≤q) (hgb:g<256^100) (hhb:h<256^100) (he:pedE p q g h=0) (hn:1≤n) (hn2:n≤32) (hv:v<2^n) (ha:a≤100)
  (hW:Blk w gW 3 [.int .i64 (n:Int)]) (hK:Blk w gK 35 [.string (E p),.string (E q),.string (E g),.string (E h)]) (hT:Blk w gT 42 [.slice uo um uc,.string T.seed,.int .i64 T.pos]) (hP:Blk w gP 40 [u]) (hO:Blk w gO 43 [vO]) (hu:w.ownsRow B 31 1 u a (strs L)) (hvO:w.ownsRow B 39 4 vO a ((M.map nop).flatMap opc)) (hV:SsAt w (.slice uo um uc) T.vals) (hB1:B0≤gT) (hB2:B0≤gP) (hB3:B0≤gO) (hB4:B0≤B) (hB5:B≤w.heap.size) :
  Calls Tryz.prog 34 #[.int .i64 (v:Int),.pointer (some ⟨gW,0,none⟩),.pointer (some ⟨gK,0,none⟩),.pointer (some ⟨gT,0,none⟩),.pointer (some ⟨gP,0,none⟩),.pointer (some ⟨gO,0,none⟩)] w (HfPost w gT gP gO B B0 a n u vO L M T (splN att p g h q (dgs v n) T n)):=by
 have HSP:Hid (∀w',Below w.heap.size w w'→Calls Tryz.prog 35 #[.agg #[.string (E p),.string (E q),.string (E g),.string (E h)],.int .i64 (n:Int),.int .i64 (v:Int),.agg #[.slice uo um uc,.string T.seed,.int .i64 T.pos]] w' (PrPostF w' (splN att p g h q (dgs v n) T n))):=fun w' hb=>bsplit_c att p q g h n v T _ w' (hat.after hb) hok hgd hp hq h2 hgb hhb he hn hn2 hv (SsAt.after hV hb)
 have HCS:=Lib.hid (splN_cases att p g h q (dgs v n) T n);have hlP:=prP_len att p g h q (dgs v n) T n;have hlO:=prO_len att q (dgs v n) T n;obtain ⟨R,hR⟩:∃R,R=splN att p g h q (dgs v n) T n:=⟨_,rfl⟩;rw [←hR] at HSP HCS ⊢;have hn0b:((n:Int)==0)=false:=by rw [beq_eq_false_iff_ne];omega
 clear hR hat hok hgd hp hq h2 hgb hhb he hv hV;have hWl:=hW.lt;have hKl:=hK.lt;have hTl:=hT.lt;have hPl:=hP.lt;have hOl:=hO.lt;have HW1:Hid (B0≤w.heap.size):=Nat.le_trans hB4 hB5;have w0':=hW.cell 0;have c0:=hK.cell 0;have c1:=hK.cell 1;have c2:=hK.cell 2;have c3:=hK.cell 3;have t0:=hT.cell 0;have t1:=hT.cell 1;have t2:=hT.cell 2;go_enter Tryz.func34,Tryz.ntmps34
 go_wp2_with fail
 refine (HSP.out _ (by first | exact Below.refl _ _ | exact Below.drew (Below.refl _ _))).mono ?_;rintro e w2 ⟨us,vs,t,rfl,hN2,hO2,⟨tu,rfl,htv⟩,htf,hb2⟩;clear w0' c0 c1 c2 c3 t0 t1 t2 HSP;obtain ⟨at2,ct2,rfl⟩:=RAt.form htv;obtain ⟨nt2,hnt⟩:∃n,n=R.tp.vals.length:=⟨_,rfl⟩;obtain ⟨sd2,hsd⟩:∃n,n=R.tp.seed:=⟨_,rfl⟩;obtain ⟨ti2,hti⟩:∃n,n=R.tp.pos:=⟨_,rfl⟩;rw [←hnt] at htv htf ⊢;rw [←hsd,←hti] at htf ⊢;have HNT:=Lib.hid hnt;have HSD:=Lib.hid hsd;have HTI:=Lib.hid hti;clear hnt hsd hti;have hfar:∀b,b<w.heap.size→FarS (.slice at2 nt2 ct2) b:=fun b hb=>htf.far hb
 have hX:=Blk.new w2 #[.slice at2 nt2 ct2,.string sd2,.int .i64 ti2] 42;have hbX:=b1 w2 (.cells #[.slice at2 nt2 ct2,.string sd2,.int .i64 ti2] 42);go_upto_region 4 with fail
 have hb3:Below w.heap.size w (w2.alloc (.cells #[.slice at2 nt2 ct2,.string sd2,.int .i64 ti2] 42)):=bt hb2 hbX;replace htv:=SsAt.after htv hbX;have hN3:World.ownsRow (w2.alloc (.cells #[.slice at2 nt2 ct2,.string sd2,.int .i64 ti2] 42)) w.heap.size 31 1 us R.parts.length (strs R.parts):=own_after hN2 hbX;have hO3:World.ownsRow (w2.alloc (.cells #[.slice at2 nt2 ct2,.string sd2,.int .i64 ti2] 42)) w.heap.size 39 4 vs R.ops.length ((R.ops.map nop).flatMap opc):=own_after hO2 hbX;obtain ⟨gX,hgX⟩:∃x,x=w2.heap.size:=⟨_,rfl⟩;have hXT:gT<gX:=by rw [hgX];exact Nat.lt_of_lt_of_le hTl hb2.size
 rw [←hgX] at hX ⊢;generalize w2.alloc (.cells #[.slice at2 nt2 ct2,.string sd2,.int .i64 ti2] 42)=w3 at hX htv hN3 hO3 hb3 ⊢;replace hX:Blk w3 gX 42 [.slice at2 nt2 ct2,.string sd2,.int .i64 ti2]:=hX;clear hgX hbX hb2 hN2 hO2 htf;rcases HCS.out with ⟨h0,hRR,hall⟩ | ⟨h0,hRR⟩
 case inr =>
  have hkb:((R.err:Int)==0)=false:=by rw [beq_eq_false_iff_ne];omega
  have HE:Hid (R.err≠0):=h0;obtain ⟨ke,hke⟩:∃k,k=R.err:=⟨_,rfl⟩;rw [←hke] at hkb ⊢;have HKE:=Lib.hid hke;clear hRR h0 hke hX htv hN3 hO3;go_wp2;go_ret
  exact ⟨by rw [HKE.out];rfl,hb3.mono HW1.out,fun h9=>absurd h9 HE.out,fun x T' cs hx _ _ _ _ _=>hx.after hb3⟩
 case inl =>
  have hsd:sd2=T.seed:=by have h9:=HSD.out;rw [hRR] at h9;exact h9
  have hti:ti2=T.pos+(n:Int):=by have h9:=HTI.out;rw [hRR] at h9;exact h9
  clear HNT HSD HTI;rw [hRR] at hN3 hO3;have hR3:R.tp.vals=T.vals:=by rw [hRR];rfl
  rw [hR3] at htv;subst hsd hti;have HRP:Hid (R.parts=prP att p g h q (dgs v n) T n∧R.ops=prO att q (dgs v n) T n):=by rw [Hid,hRR];exact ⟨rfl,rfl⟩
  have HE0:Hid (R.err=0):=h0;have hN3:w3.ownsRow w.heap.size 31 1 us n (strs (prP att p g h q (dgs v n) T n)):=by have:=hN3;simp only [hlP] at this;exact this
  have hO3:w3.ownsRow w.heap.size 39 4 vs n (((prO att q (dgs v n) T n).map nop).flatMap opc):=by have:=hO3;simp only [hlO] at this;exact this
  rw [h0];clear hRR hR3 h0 hall HCS;have hT3:=hT.after hb3;have hT3l:=hT3.lt;have hXl:=hX.lt;have e1:¬ gX=gT:=by omega
  have hPb3:=hP.after hb3;have hOb3:=hO.after hb3;have hu3:=own_after hu hb3;have hv3:=own_after hvO hb3;have hWl3:=Nat.lt_of_lt_of_le hWl hb3.size;obtain ⟨hXc0,hXf0,hXc1,hXf1,hXc2,hXf2⟩:=hX.x3;obtain ⟨hT3c0,hT3f0,hT3c1,hT3f1,hT3c2,hT3f2⟩:=hT3.x3;go_upto_region 6 with fail
  clear hXc0 hXf0 hXc1 hXf1 hXc2 hXf2;clear hT3c0 hT3f0 hT3c1 hT3f1 hT3c2 hT3f2;have nPT:gP≠gT:=fun e=>blk_neT' hP hT (by decide) e
  have nOT:gO≠gT:=fun e=>blk_neT' hO hT (by decide) e
  have nPO:gP≠gO:=fun e=>blk_neT' hP hO (by decide) e
  have hfT:=hfar gT hTl;have hfP:=hfar gP hPl;have hfO:=hfar gO hOl;have hT4:=((hT3.set 0 (.slice at2 nt2 ct2)).set 1 (.string T.seed)).set 2 (.int .i64 (T.pos+(n:Int)));have hPb4:=blk_o3 hPb3 nPT (.slice at2 nt2 ct2) (.string T.seed) (.int .i64 (T.pos+(n:Int)));have hOb4:=blk_o3 hOb3 nOT (.slice at2 nt2 ct2) (.string T.seed) (.int .i64 (T.pos+(n:Int)));have ss3:∀{Bx:Nat} {ex:TypeId} {sx nx:Nat} {vx:Value} {xx:List Value},w3.ownsRow Bx ex sx vx nx xx→ex≠42→World.ownsRow (((w3.setCell ⟨gT,0,none⟩ (.slice at2 nt2 ct2)).setCell ⟨gT,1,none⟩ (.string T.seed)).setCell ⟨gT,2,none⟩ (.int .i64 (T.pos+(n:Int)))) Bx ex sx vx nx xx:=fun hx ne=>own_set (own_set (own_set hx (own_ne hx hT3 ne)) (own_ne hx hT3 ne)) (own_ne hx hT3 ne)
  have hu4:=ss3 hu3 (by decide);have hv4:=ss3 hv3 (by decide);have hN4:=ss3 hN3 (by decide);have hO4:=ss3 hO3 (by decide);have htv4:=((htv.set_far (i:=0) (x:=.slice at2 nt2 ct2) hfT).set_far (i:=1) (x:=.string T.seed) hfT).set_far (i:=2) (x:=.int .i64 (T.pos+(n:Int))) hfT;have hfr4:∀g T' cs,Blk w g T' cs→g≠gT→Blk (((w3.setCell ⟨gT,0,none⟩ (.slice at2 nt2 ct2)).setCell ⟨gT,1,none⟩ (.string T.seed)).setCell ⟨gT,2,none⟩ (.int .i64 (T.pos+(n:Int)))) g T' cs:=fun g T' cs hx ne=>blk_o3 (hx.after hb3) ne _ _ _
  have hb4:Below B0 w (((w3.setCell ⟨gT,0,none⟩ (.slice at2 nt2 ct2)).setCell ⟨gT,1,none⟩ (.string T.seed)).setCell ⟨gT,2,none⟩ (.int .i64 (T.pos+(n:Int)))):=(((hb3.mono HW1.out).setCell (p:=⟨gT,0,none⟩) hB1 _).setCell (p:=⟨gT,1,none⟩) hB1 _).setCell (p:=⟨gT,2,none⟩) hB1 _;have hsz4:w.heap.size≤(((w3.setCell ⟨gT,0,none⟩ (.slice at2 nt2 ct2)).setCell ⟨gT,1,none⟩ (.string T.seed)).setCell ⟨gT,2,none⟩ (.int .i64 (T.pos+(n:Int)))).heap.size:=by simp only [World.size_setCell];exact hb3.size
  clear hX hXl hT3 hT3l hPb3 hOb3 hu3 hv3 hN3 hO3 htv ss3 hb3 hWl3;generalize ((w3.setCell ⟨gT,0,none⟩ (.slice at2 nt2 ct2)).setCell ⟨gT,1,none⟩ (.string T.seed)).setCell ⟨gT,2,none⟩ (.int .i64 (T.pos+(n:Int)))=w4 at hT4 hPb4 hOb4 hu4 hv4 hN4 hO4 htv4 hfr4 hb4 hsz4 ⊢;replace hT4:Blk w4 gT 42 [.slice at2 nt2 ct2,.string T.seed,.int .i64 (T.pos+(n:Int))]:=hT4;have hfu:∀y,u.ownBlock=some y→FarS (.slice at2 nt2 ct2) y:=fun y hy=>hfar y (own_lt hu hy).1
  have hfv:∀y,vO.ownBlock=some y→FarS (.slice at2 nt2 ct2) y:=fun y hy=>hfar y (own_lt hvO hy).1
  obtain ⟨i0,hi0,hz00,hz01,hz02⟩:=info_parts info_nat;obtain ⟨i1,hi1,hz10,hz11,hz12⟩:=info_parts info_opening;have HI0:=Lib.hid hi0;have HA0:=Lib.hid hz00;have HB0:=Lib.hid hz01;have HC0:=Lib.hid hz02;have HI1:=Lib.hid hi1;have HA1:=Lib.hid hz10;have HB1':=Lib.hid hz11;have HC1:=Lib.hid hz12;clear hi0 hz00 hz01 hz02 hi1 hz10 hz11 hz12;obtain ⟨xa,xm,xc,rfl⟩:=own_sl hu4;obtain ⟨ya,ym,yc,rfl⟩:=own_sl hv4;obtain ⟨gu,cu,rfl⟩:∃gu cu,us=.slice (some ⟨gu,0,none⟩) n cu:=own_form hN4 (by omega);obtain ⟨gv,cv,rfl⟩:∃gv cv,vs=.slice (some ⟨gv,0,none⟩) n cv:=own_form hO4 (by omega);refine wp_region_invB (vHf B a n (.slice xa xm xc) (.slice (some ⟨gu,0,none⟩) n cu) (.slice ya ym yc) (.slice (some ⟨gv,0,none⟩) n cv) L (prP att p g h q (dgs v n) T n) M (prO att q (dgs v n) T n)) [2,5,6,7] B0 (fHf B w.heap.size a n gP gO (.slice xa xm xc) (.slice (some ⟨gu,0,none⟩) n cu) (.slice ya ym yc) (.slice (some ⟨gv,0,none⟩) n cv) L (prP att p g h q (dgs v n) T n) M (prO att q (dgs v n) T n) (.slice at2 nt2 ct2) T.vals w4) 34 ?_ (by kernel_rfl) rfl (by kernel_rfl) ?_ ?_ (by kernel_rfl)
  ·exact ⟨fun _=>⟨hu4,hN4⟩,fun _=>⟨hv4,hO4⟩,fun _=>hPb4,fun e=>(by cases e),fun _=>hOb4,fun e=>(by cases e),htv4,fun g T' cs hx _ _ _ _=>hx⟩
  ·intro hsl done a' w' i o hJ ho hun hpre;have hi:=(Array.getElem?_eq_some_iff.1 ho).1;have hst:=vHf_st B a n (.slice xa xm xc) (.slice (some ⟨gu,0,none⟩) n cu) (.slice ya ym yc) (.slice (some ⟨gv,0,none⟩) n cv) L (prP att p g h q (dgs v n) T n) M (prO att q (dgs v n) T n);have hFt:∀(st:List Bool) (w8 w9:World),Below w8.heap.size w8 w9→fHf B w.heap.size a n gP gO (.slice xa xm xc) (.slice (some ⟨gu,0,none⟩) n cu) (.slice ya ym yc) (.slice (some ⟨gv,0,none⟩) n cv) L (prP att p g h q (dgs v n) T n) M (prO att q (dgs v n) T n) (.slice at2 nt2 ct2) T.vals w4 st w8→fHf B w.heap.size a n gP gO (.slice xa xm xc) (.slice (some ⟨gu,0,none⟩) n cu) (.slice ya ym yc) (.slice (some ⟨gv,0,none⟩) n cv) L (prP att p g h q (dgs v n) T n) M (prO att q (dgs v n) T n) (.slice at2 nt2 ct2) T.vals w4 st w9:=fun st w8 w9 hb h=>fHf_st hb h
   have hsz':=Nat.le_trans hsz4 hJ.bw.size;have hwz:B0≤w'.heap.size:=Nat.le_trans HW1.out hsz'
   match i,hi,ho,hun,hpre with
     | 0,_,ho,hun,hpre =>
      simp at ho;subst ho;refine hJ.op (d:=27) hsl hst hFt hwz rfl rfl rfl (by decide) hpre ?_;have q4:=hJ.keep 4 (.pointer (some ⟨gP,0,none⟩)) rfl (by kernel_rfl)
      have k6:done.getD 6 false=false:=by
       cases a6:done.getD 6 false with
       | false=>rfl
       | true =>
        have a2:=hJ.pr 6 _ rfl a6 ⟨2,.data⟩ (by simp) rfl;have a0:=hJ.pr 2 _ rfl a2 ⟨0,.data⟩ (by simp) rfl;rw [hun] at a0;cases a0
      have hx:=hJ.ex.2.2.1 k6;have hxl:=hx.lt;have z0:=hx.cell 0;refine wp_val (v:=.slice xa xm xc) (by simp [execOp,q4,go_sem,z0]) rfl
     | 1,_,ho,hun,hpre =>
      simp at ho;subst ho;refine hJ.op (d:=28) hsl hst hFt hwz rfl rfl rfl (by decide) hpre ?_;have q8:=hJ.keep 8 (.slice (some ⟨gu,0,none⟩) n cu) rfl (by kernel_rfl);refine wp_val (v:=.slice (some ⟨gu,0,none⟩) n cu) (by simp [execOp,q8,go_sem]) rfl
     | 3,_,ho,hun,hpre =>
      simp at ho;subst ho;refine hJ.op (d:=30) hsl hst hFt hwz rfl rfl rfl (by decide) hpre ?_;have q5:=hJ.keep 5 (.pointer (some ⟨gO,0,none⟩)) rfl (by kernel_rfl)
      have k7:done.getD 7 false=false:=by
       cases a7:done.getD 7 false with
       | false=>rfl
       | true =>
        have a5:=hJ.pr 7 _ rfl a7 ⟨5,.data⟩ (by simp) rfl;have a3:=hJ.pr 5 _ rfl a5 ⟨3,.data⟩ (by simp) rfl;rw [hun] at a3;cases a3
      have hx:=hJ.ex.2.2.2.2.1 k7;have hxl:=hx.lt;have z0:=hx.cell 0;refine wp_val (v:=.slice ya ym yc) (by simp [execOp,q5,go_sem,z0]) rfl
     | 4,_,ho,hun,hpre =>
      simp at ho;subst ho;refine hJ.op (d:=31) hsl hst hFt hwz rfl rfl rfl (by decide) hpre ?_;have q9:=hJ.keep 9 (.slice (some ⟨gv,0,none⟩) n cv) rfl (by kernel_rfl);refine wp_val (v:=.slice (some ⟨gv,0,none⟩) n cv) (by simp [execOp,q9,go_sem]) rfl
     | 2,_,ho,hun,hpre =>
      simp at ho;subst ho;obtain ⟨v27,ev27,hv27⟩:=hJ.dn 0 _ 27 rfl (hpre ⟨0,.data⟩ (by simp) rfl) rfl;have qv27:=eval_of ev27;obtain ⟨v28,ev28,hv28⟩:=hJ.dn 1 _ 28 rfl (hpre ⟨1,.data⟩ (by simp) rfl) rfl;have qv28:=eval_of ev28
      have k6:done.getD 6 false=false:=by
       cases a6:done.getD 6 false with
       | false=>rfl
       | true =>
        have a2:=hJ.pr 6 _ rfl a6 ⟨2,.data⟩ (by simp) rfl;rw [hun] at a2;cases a2
      have k7:done.getD 7 false=false:=by
       cases a7:done.getD 7 false with
       | false=>rfl
       | true =>
        have a6:=hJ.pr 7 _ rfl a7 ⟨6,.chain⟩ (by simp) rfl;have a2:=hJ.pr 6 _ rfl a6 ⟨2,.data⟩ (by simp) rfl;rw [hun] at a2;cases a2
      have hi2:2<done.size:=by rw [hJ.sz];decide
      obtain rfl:v27=.slice xa xm xc:=hv27;obtain rfl:v28=.slice (some ⟨gu,0,none⟩) n cu:=hv28;obtain ⟨f1,f2,f3,_,f5,_,f7,f8⟩:=hJ.ex;obtain ⟨r1,r2⟩:=f1 hun;have fP:=f3 k6;have fO:=f5 k7;refine wpOp_step rfl fun K' hK=>?_
      refine step_append_lies _ rfl (.tmp 27) (.tmp 28) 40 rfl B 31 i0 _ 1 16 Tryz.underlying40 HI0.out HA0.out HB0.out HC0.out rfl (by omega) (.slice xa xm xc) a (strs L) qv27 r1 ⟨gu,0,none⟩ n cu (strs (prP att p g h q (dgs v n) T n)) qv28 (by rw [strs_len,hlP];omega) (fun j u hj=>by rw [Addr.add_lit,Nat.zero_add];exact own_cellS r2 j u hj) (strsOne _) (by omega) (by simp only [maxLen];omega) (by omega) (Nat.le_trans hB5 hsz') w'.heap.size rfl fun gE cE w'' hown hgrow hat hlt=>hK _ _ ?_
      refine hJ.put (d:=29) hsl rfl rfl hpre (Below.grown hJ.bw hgrow hwz (fun g' hg'=>Nat.le_trans hB4 (own_lt r1 hg').2)) ?_ ?_ ?_
      ·show fHf _ _ _ _ _ _ _ _ _ _ _ _ _ _ _ _ _ [(done.setIfInBounds 2 true).getD 2 false,(done.setIfInBounds 2 true).getD 5 false,(done.setIfInBounds 2 true).getD 6 false,(done.setIfInBounds 2 true).getD 7 false] _;simp only [getD_set _ _ _ hi2,Nat.reduceEqDiff,if_true,if_false,k6,k7];exact ⟨fun e=>(by cases e),fun e=>⟨own_grown (f2 e).1 r1 (by decide) hgrow,own_grown (f2 e).2 r1 (by decide) hgrow⟩,fun _=>Blk.grown fP hgrow (own_ne r1 fP (by decide)),fun e=>(by cases e),fun _=>Blk.grown fO hgrow (own_ne r1 fO (by decide)),fun e=>(by cases e),SsAt.grown f7 hgrow hfu,fun g9 T9 cs9 hx n1 n2 n3 n4=>Blk.grown (f8 g9 T9 cs9 hx n1 n2 n3 n4) hgrow n3⟩
      ·intro j q9 hq hj hdn x h9;exact vHf_a r1 hgrow j x hj h9
      ·show World.ownsRow _ _ _ _ _ _ (strs (L++prP att p g h q (dgs v n) T n));rw [←strs_app];exact hown
     | 5,_,ho,hun,hpre =>
      simp at ho;subst ho;obtain ⟨v30,ev30,hv30⟩:=hJ.dn 3 _ 30 rfl (hpre ⟨3,.data⟩ (by simp) rfl) rfl;have qv30:=eval_of ev30;obtain ⟨v31,ev31,hv31⟩:=hJ.dn 4 _ 31 rfl (hpre ⟨4,.data⟩ (by simp) rfl) rfl;have qv31:=eval_of ev31
      have k7:done.getD 7 false=false:=by
       cases a7:done.getD 7 false with
       | false=>rfl
       | true =>
        have a5:=hJ.pr 7 _ rfl a7 ⟨5,.data⟩ (by simp) rfl;rw [hun] at a5;cases a5
      have hi5:5<done.size:=by rw [hJ.sz];decide
      obtain rfl:v30=.slice ya ym yc:=hv30;obtain rfl:v31=.slice (some ⟨gv,0,none⟩) n cv:=hv31;obtain ⟨f1,f2,f3,f4,f5,_,f7,f8⟩:=hJ.ex;obtain ⟨r1,r2⟩:=f2 hun;have fO:=f5 k7;refine wpOp_step rfl fun K' hK=>?_
      refine step_append_lies _ rfl (.tmp 30) (.tmp 31) 43 rfl B 39 i1 _ 4 48 Tryz.underlying43 HI1.out HA1.out HB1'.out HC1.out rfl (by omega) (.slice ya ym yc) a ((M.map nop).flatMap opc) qv30 r1 ⟨gv,0,none⟩ n cv (((prO att q (dgs v n) T n).map nop).flatMap opc) qv31 (by rw [ops_len,List.length_map,hlO]) (fun j u hj=>by rw [Addr.add_lit,Nat.zero_add];exact own_cellS r2 j u hj) (ops_one _) (by omega) (by simp only [maxLen];omega) (by omega) (Nat.le_trans hB5 hsz') w'.heap.size rfl fun gE cE w'' hown hgrow hat hlt=>hK _ _ ?_
      refine hJ.put (d:=32) hsl rfl rfl hpre (Below.grown hJ.bw hgrow hwz (fun g' hg'=>Nat.le_trans hB4 (own_lt r1 hg').2)) ?_ ?_ ?_
      ·show fHf _ _ _ _ _ _ _ _ _ _ _ _ _ _ _ _ _ [(done.setIfInBounds 5 true).getD 2 false,(done.setIfInBounds 5 true).getD 5 false,(done.setIfInBounds 5 true).getD 6 false,(done.setIfInBounds 5 true).getD 7 false] _;simp only [getD_set _ _ _ hi5,Nat.reduceEqDiff,if_true,if_false,k7];exact ⟨fun e=>⟨own_grown (f1 e).1 r1 (by decide) hgrow,own_grown (f1 e).2 r1 (by decide) hgrow⟩,fun e=>(by cases e),fun e=>Blk.grown (f3 e) hgrow (own_ne r1 (f3 e) (by decide)),fun e=>(by obtain ⟨x,k1,k2⟩:=f4 e;exact ⟨x,Blk.grown k1 hgrow (own_ne r1 k1 (by decide)),own_grown k2 r1 (by decide) hgrow⟩),fun _=>Blk.grown fO hgrow (own_ne r1 fO (by decide)),fun e=>(by cases e),SsAt.grown f7 hgrow hfv,fun g9 T9 cs9 hx n1 n2 n3 n4=>Blk.grown (f8 g9 T9 cs9 hx n1 n2 n3 n4) hgrow n4⟩
      ·intro j q9 hq hj hdn x h9;exact vHf_b r1 hgrow j x hj h9
      ·show World.ownsRow _ _ _ _ _ _ (((M++prO att q (dgs v n) T n).map nop).flatMap opc);rw [List.map_append,List.flatMap_append];exact hown
     | 6,_,ho,hun,hpre =>
      simp at ho;subst ho;have q4:=hJ.keep 4 (.pointer (some ⟨gP,0,none⟩)) rfl (by kernel_rfl);obtain ⟨v29,ev29,hv29⟩:=hJ.dn 2 _ 29 rfl (hpre ⟨2,.data⟩ (by simp) rfl) rfl;have qv29:=eval_of ev29;have hi6:6<done.size:=by rw [hJ.sz];decide
      have a2:=hpre ⟨2,.data⟩ (by simp) rfl;obtain ⟨f1,f2,f3,_,f5,f6,f7,f8⟩:=hJ.ex;have hrow:w'.ownsRow B 31 1 v29 (a+n) (strs (L++prP att p g h q (dgs v n) T n)):=hv29;obtain ⟨za,zm,zc,rfl⟩:=own_sl hrow;have fP:=f3 hun;have hGl:=fP.lt;have g0:=fP.free 0;have z0:=fP.cell 0;refine wpOp_step rfl fun K' hK=>?_
      rw [if_pos (by simp [Region.wanted])];simp [Oper.wp,execOp,ev29,q4,go_sem,g0,z0,hGl];have h9:=hJ.skip (i:=6) (v:=undef) rfl rfl hpre (hJ.bw.setCell (p:=⟨gP,0,none⟩) hB2 (.slice za zm zc)) ?_ ?_
      ·exact hK a' _ h9
      ·show fHf _ _ _ _ _ _ _ _ _ _ _ _ _ _ _ _ _ [(done.setIfInBounds 6 true).getD 2 false,(done.setIfInBounds 6 true).getD 5 false,(done.setIfInBounds 6 true).getD 6 false,(done.setIfInBounds 6 true).getD 7 false] _;simp only [getD_set _ _ _ hi6,Nat.reduceEqDiff,if_true,if_false,a2];exact ⟨fun e=>(by cases e),fun e=>⟨own_set (f2 e).1 (own_ne (f2 e).1 fP (by decide)),own_set (f2 e).2 (own_ne (f2 e).2 fP (by decide))⟩,fun e=>(by cases e),fun _=>⟨_,fP.set 0 _,own_set hrow (own_ne hrow fP (by decide))⟩,fun e=>(f5 e).other ⟨gP,0,none⟩ _ nPO.symm,fun e=>(by obtain ⟨x,k1,k2⟩:=f6 e;exact ⟨x,k1.other ⟨gP,0,none⟩ _ nPO.symm,own_set k2 (own_ne k2 fP (by decide))⟩),f7.set_far hfP,fun g9 T9 cs9 hx n1 n2 n3 n4=>(f8 g9 T9 cs9 hx n1 n2 n3 n4).other ⟨gP,0,none⟩ _ n1⟩
      ·intro j q9 hq hj hdn d9 x hd9 hu9 h9;exact vHf_s fP (by decide) (by decide) _ j x h9
     | 7,_,ho,hun,hpre =>
      simp at ho;subst ho;have q5:=hJ.keep 5 (.pointer (some ⟨gO,0,none⟩)) rfl (by kernel_rfl);obtain ⟨v32,ev32,hv32⟩:=hJ.dn 5 _ 32 rfl (hpre ⟨5,.data⟩ (by simp) rfl) rfl;have qv32:=eval_of ev32;have hi7:7<done.size:=by rw [hJ.sz];decide
      have a5:=hpre ⟨5,.data⟩ (by simp) rfl;obtain ⟨f1,f2,f3,f4,f5,_,f7,f8⟩:=hJ.ex;have hrow:w'.ownsRow B 39 4 v32 (a+n) (((M++prO att q (dgs v n) T n).map nop).flatMap opc):=hv32;obtain ⟨za,zm,zc,rfl⟩:=own_sl hrow;have fO:=f5 hun;have hGl:=fO.lt;have g0:=fO.free 0;have z0:=fO.cell 0;refine wpOp_step rfl fun K' hK=>?_
      rw [if_pos (by simp [Region.wanted])];simp [Oper.wp,execOp,ev32,q5,go_sem,g0,z0,hGl];have h9:=hJ.skip (i:=7) (v:=undef) rfl rfl hpre (hJ.bw.setCell (p:=⟨gO,0,none⟩) hB3 (.slice za zm zc)) ?_ ?_
      ·exact hK a' _ h9
      ·show fHf _ _ _ _ _ _ _ _ _ _ _ _ _ _ _ _ _ [(done.setIfInBounds 7 true).getD 2 false,(done.setIfInBounds 7 true).getD 5 false,(done.setIfInBounds 7 true).getD 6 false,(done.setIfInBounds 7 true).getD 7 false] _;simp only [getD_set _ _ _ hi7,Nat.reduceEqDiff,if_true,if_false,a5];exact ⟨fun e=>⟨own_set (f1 e).1 (own_ne (f1 e).1 fO (by decide)),own_set (f1 e).2 (own_ne (f1 e).2 fO (by decide))⟩,fun e=>(by cases e),fun e=>(f3 e).other ⟨gO,0,none⟩ _ nPO,fun e=>(by obtain ⟨x,k1,k2⟩:=f4 e;exact ⟨x,k1.other ⟨gO,0,none⟩ _ nPO,own_set k2 (own_ne k2 fO (by decide))⟩),fun e=>(by cases e),fun _=>⟨_,fO.set 0 _,own_set hrow (own_ne hrow fO (by decide))⟩,f7.set_far hfO,fun g9 T9 cs9 hx n1 n2 n3 n4=>(f8 g9 T9 cs9 hx n1 n2 n3 n4).other ⟨gO,0,none⟩ _ n2⟩
      ·intro j q9 hq hj hdn d9 x hd9 hu9 h9;exact vHf_s fO (by decide) (by decide) _ j x h9
  ·intro done a' w' hJ hd;obtain ⟨f,hf,hv⟩:=hJ.all hd;obtain ⟨_,_,_,f4,_,f6,f7,f8⟩:=hJ.ex;obtain ⟨x1,p1,p2⟩:=f4 (hd 6 (by decide));obtain ⟨x2,o1,o2⟩:=f6 (hd 7 (by decide));have hbw:=hJ.bw;clear hJ hv hd f4 f6;subst hf;simp only [putAll,List.size_toArray,List.length_cons,List.length_nil,Nat.reduceAdd,List.getElem?_toArray,List.getElem?_cons_zero,List.getElem?_cons_succ,Option.bind_some,Act.put,List.setIfInBounds_toArray,List.set_cons_zero,List.set_cons_succ];go_wp2;go_ret
   refine ⟨by rw [HE0.out];rfl,hb4.trans hbw,fun _=>⟨at2,nt2,ct2,x1,x2,?_,p1,o1,by rw [HRP.out.1];exact p2,by rw [HRP.out.2];exact o2,f7,hfar⟩,fun g9 T9 cs9 hx n1 n2 n3 n4 n5=>f8 g9 T9 cs9 (hfr4 g9 T9 cs9 hx n1) n2 n3 n4 n5⟩;exact f8 gT _ _ hT4 (fun e=>nPT e.symm) (fun e=>nOT e.symm) (own_ne hu4 hT4 (by decide)) (own_ne hv4 hT4 (by decide))
end Go.Proofs.YtdoacbdkbbpamaaGreatDoor
