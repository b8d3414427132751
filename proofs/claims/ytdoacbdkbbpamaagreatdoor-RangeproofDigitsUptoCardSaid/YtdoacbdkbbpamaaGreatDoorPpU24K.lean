/- dominolaw24.RangeproofPrepares,second form: the row and its tied card: closed facts. -/
import Derived.Test.YtdoacbdkbbpamaaGreatDoorNat2
import Derived.Below
import Derived.ChangeSame
import Derived.ChangeMaps5
import Derived.JoinedOf
import Derived.JoinedAt
import Derived.RowKit3
import Derived.Deep.Strs
import Derived.Lib.SmallJoins
import Derived.OpenShut
import Derived.ProofKit
import Derived.Test.YtdoacbdkbbpamaaGreatDoorFwx24
import Derived.Carry
import Derived.ChangeSlices
import Derived.WideKeyArgs
import Derived.Deep.Slices
import Derived.Test.YtdoacbdkbbpamaaGreatDoorRows
import Derived.Test.YtdoacbdkbbpamaaGreatDoorPow4
import Derived.Test.YtdoacbdkbbpamaaGreatDoorLdv2
import Derived.Test.YtdoacbdkbbpamaaGreatDoorFs5
import Derived.LaidMore
import Derived.Stop.Joined
set_option linter.unusedVariables false
set_option linter.unusedSimpArgs false
set_option maxRecDepth 100000
set_option maxHeartbeats 16000000
namespace Go.Proofs.YtdoacbdkbbpamaaGreatDoor
section
/- A row's last step. -/
open Go.RowKit Go.WideShapes Go.ChangeShapes Go.ChangeAt Go.Joins Go.Deep
open Go.ChangeMaps (open_string shut_string)
section
variable {H:Type} {enc:TypeId × Value→H} {P:Program}
theorem post_of_below {f:Func} {s:ChangeSpec} {apart fresh handsOn again:Bool} {W W':World} {args:Array Value} {v:Value} {ds gs:List (DataW H)} {before pa pv:List MemPlace}
  (hW:DataW.Whole enc P f.params.toList s.vars apart W args.toList ds gs before)
  (hres:∀(b:Nat) (sp:Nat→Bool) (hd:Bool),DataW.TrodAll enc P W' b sp hd f.resultTypes.toList (v.resultList f.resultTypes.size) (s.fn H (ds++gs)).results [])
  (hargs:∀sp:Nat→Bool,(∀p∈before,sp p.block=true)→DataW.TrodAll enc P W' 0 sp true f.params.toList args.toList (s.fn H (ds++gs)).args pa)
  (hvars:∀sp:Nat→Bool,(∀p∈before,sp p.block=true)→DataW.TrodVars enc P W' sp s.vars (s.fn H (ds++gs)).vars pv)
  (hps:before=pa++pv) (hb:Below W.heap.size W W')
  (hok:∀(j:Nat) (t:TypeId) (r:Value),f.resultTypes[j]?=some t→(v.resultList f.resultTypes.size)[j]?=some r→Value.okWide P W' .any 0 t r) :
  s.post enc P f apart fresh handsOn again W args v W':=by
 have hlt:∀p∈before,p.block<W.heap.size:=fun p hp=>hW.lt p hp
 have hold:∀p∈before,(fun b=>decide (b<W.heap.size)) p.block=true:=fun p hp=>by simpa using hlt p hp
 refine ⟨ds,gs,before,[],pa,pv,hW,hres _ _ _,hargs _ hold,hvars _ hold,World.keptBut_mono (fun p hp=>⟨hp,?_⟩) (hb.frame (·∈before)),fun _=>?_⟩
 ·rw [hps,List.mem_append] at hp;exact Or.inr hp
 ·obtain ⟨_,_,_,_,_,hz,hn⟩:=hW;refine ⟨hok,_,_,([]++pa)++pv,⟨[]++pa,pv,trodAll_append (hargs _ (fun _ _=>rfl)) (hres _ _ _),hvars _ (fun _ _=>rfl),rfl,?_,?_⟩,?_⟩
  ·intro b off hp;have hin:MemPlace.cell b off∈before:=by rw [hps];simpa using hp
   rw [hb.frozen (hlt _ hin)];exact hz b off hin
  ·intro ha;have:=hn ha;rw [hps] at this;simpa using this
  ·intro p hp _;rw [hps];simpa using hp
end
theorem own_knob:ownKnob Tryz.prog.godebug=none:=by kernel_rfl
end
section
/- A bounded integer,openings,a tape,numbers as arguments: opened into what their slices read. -/
open Go.RowKit Go.WideShapes Go.ChangeShapes Go.ChangeAt Go.Joins Go.Deep
open Go.ChangeMaps (open_string shut_string)
theorem laid_out:laidOutB Tryz.prog=true:=by kernel_rfl
theorem list4 {α:Type} {l:List α} (h:l.length=4):∃a b c d,l=[a,b,c,d]:=by
 match l,h with
 | [a,b,c,d],_=>exact ⟨a,b,c,d,rfl⟩
theorem zNat:Tryz.prog.cellsOf 31=1:=by kernel_rfl
theorem zGrp:Tryz.prog.cellsOf 33=2:=by kernel_rfl
theorem zInt:Tryz.prog.cellsOf 37=2:=by kernel_rfl
theorem zPed:Tryz.prog.cellsOf 35=4:=by kernel_rfl
theorem zOpn:Tryz.prog.cellsOf 39=4:=by kernel_rfl
theorem zi64:Tryz.prog.cellsOf 3=1:=by kernel_rfl
theorem zB:Tryz.prog.cellsOf 4=1:=by kernel_rfl
theorem zNs:Tryz.prog.cellsOf 40=1:=by kernel_rfl
theorem zTape:Tryz.prog.cellsOf 42=3:=by kernel_rfl
theorem zStr:Tryz.prog.cellsOf 9=1:=by kernel_rfl
section
variable {H:Type} {enc:TypeId × Value→H} {w:World} {base:Nat} {held:Bool}
theorem row_of {α:Type} {Q:World→α→List Value→Prop} {Sz:α→Prop} (d:α) {size fuel:Nat} {t e:TypeId} {cs:List Value} {x:DataW H × List MemPlace} (ht:Tryz.prog.underlying t=some (.slice e)) (hc:Tryz.prog.cellsOf e=size) (h0:0<size)
  (h:DataW.trod enc Tryz.prog w base (fun _=>true) held fuel t cs=some x)
  (elem:∀n cs' y,cs'.length=size→DataW.trod enc Tryz.prog w base (fun _=>true) held n e cs'=some y→∃a,Q w a cs'∧Sz a) :
  ∃ao n c l,cs=[.slice ao n c]∧RAt Q size w (.slice ao n c) l∧(∀a∈l,Sz a)∧l.length≤maxLen:=by
 rcases open_slice ht h with ⟨rfl,_⟩ | ⟨a,len,cap,m,n,D,Pl,rfl,hb,hl,hm,hmm,_,hel⟩
 ·exact ⟨none,0,0,[],rfl,⟨none,0,rfl,.inl rfl⟩,by simp,by simp⟩
 ·rw [if_pos rfl] at hmm;subst hmm;rw [hc] at hel;haveI:Inhabited α:=⟨d⟩
  obtain ⟨f,hf⟩:=choose_lt (α:=α) (n:=len) (p:=fun i y=>∃cs',w.cells? base (a.add (i*size)) size=some cs'∧Q w y cs'∧Sz y) (fun i hi=>by
   obtain ⟨cs',h1,h2⟩:=hel i (by omega);obtain ⟨y,hy1,hy2⟩:=elem n cs' _ (World.cells?_some h1).2.1 h2;exact ⟨y,cs',h1,hy1,hy2⟩)
  have hlen:((List.range len).map f).length=len:=by simp
  refine ⟨some a,len,m,(List.range len).map f,rfl,⟨some a,m,by rw [hlen],?_⟩,fun y hy=>?_,by rw [hlen];omega⟩
  ·by_cases hl0:len=0
   ·exact .inl (by rw [hlen];exact hl0)
   ·obtain ⟨b,off,spot⟩:=a;obtain ⟨cs0,g1,_⟩:=hf 0 (by omega);obtain ⟨_,g2,g3⟩:=World.cells?_some g1;have g4:=g3 0 h0;have g5:0<cs0.length:=by omega
    rw [List.getElem?_eq_getElem g5] at g4;have hspot:spot=none:=by simpa [Addr.add] using World.cell?_spot g4
    subst hspot;refine .inr ⟨b,off,rfl,?_,fun j hj=>?_⟩
    ·rw [add_plain,add_plain] at g4;apply Classical.byContradiction
     intro hge;have hnone:w.heap[b]?=none:=by simpa using hge
     simp [World.cell?,hnone] at g4
    ·obtain ⟨cs',k1,k2,_⟩:=hf j (by rw [←hlen];exact hj);refine ⟨cs',by simpa using k2,fun i hi=>?_⟩;have:=(World.cells?_some k1).2.2 i hi;rw [add_plain,add_plain] at this;exact this
  ·obtain ⟨j,hj,rfl⟩:=List.mem_map.1 hy;obtain ⟨cs',_,_,hz⟩:=hf j (List.mem_range.1 hj);exact hz
theorem el_nat {n:Nat} {cs:List Value} {y:DataW H × List MemPlace} (hl:cs.length=1) (h:DataW.trod enc Tryz.prog w base (fun _=>true) held n 31 cs=some y):∃a,QStr w a cs∧a.size≤maxLen:=by
 obtain ⟨s,rfl,_,hs⟩:=DataW.trod_string Tryz.underlying31 h;exact ⟨s,rfl,hs⟩
theorem el_opn {n:Nat} {cs:List Value} {y:DataW H × List MemPlace} (hl:cs.length=4) (h:DataW.trod enc Tryz.prog w base (fun _=>true) held n 39 cs=some y):∃a:Opn,QOpn w a cs∧a.va.size≤maxLen∧a.ra.size≤maxLen:=by
 obtain ⟨c0,c1,c2,c3,rfl⟩:=list4 hl;obtain ⟨y0,y1,m,_,_,h0,h1⟩:=trod_struct2 Tryz.underlying39 h;obtain ⟨z0,z1,m',_,_,g0,g1⟩:=trod_struct2 Tryz.underlying37 h0;obtain ⟨x0,x1,m2,_,_,k0,k1⟩:=trod_struct2 Tryz.underlying37 h1;obtain ⟨b,hb,_⟩:=DataW.trod_bool Tryz.underlying4 g0;obtain ⟨s,hs,_,hz⟩:=DataW.trod_string Tryz.underlying31 g1;obtain ⟨b',hb',_⟩:=DataW.trod_bool Tryz.underlying4 k0;obtain ⟨s',hs',_,hz'⟩:=DataW.trod_string Tryz.underlying31 k1;simp [zNat,zB,zInt] at hs hb hb' hs';subst hs hb hb' hs';exact ⟨⟨b,s,b',s'⟩,rfl,hz,hz'⟩
end
end
section
/- Arguments of law 24: a range. -/
open Go.RowKit Go.WideShapes Go.ChangeShapes Go.ChangeAt Go.Joins Go.Deep
section
variable {H:Type} {enc:TypeId × Value→H} {w:World} {base:Nat} {held:Bool}
theorem array2 {α:Type} {l:Array α} (h:l.size=2):∃a b,l=#[a,b]:=by
 obtain ⟨l⟩:=l;match l,h with
 | [a,b],_=>exact ⟨a,b,rfl⟩
theorem zRng:Tryz.prog.cellsOf 23=2:=by kernel_rfl
theorem open_rng {r:Reach} {b0:Nat} {v:Value} {d:DataW H} {p:List MemPlace} (hv:Value.okWide Tryz.prog w r b0 23 v) (h:DataW.Trod enc Tryz.prog w base (fun _=>true) held 23 v d p) :
  ∃lo hi:Int,v=.agg #[.int .i64 lo,.int .i64 hi]∧-9223372036854775808≤lo∧lo≤9223372036854775807∧-9223372036854775808≤hi∧hi≤9223372036854775807:=by
 obtain ⟨cs,rfl,hsz⟩:=okWide_struct Tryz.underlying23 hv;obtain ⟨c0,c1,rfl⟩:=array2 (hsz.trans zRng);obtain ⟨fuel,hf⟩:=h;obtain ⟨y0,y1,m,_,_,u0,u1⟩:=trod_struct2 Tryz.underlying23 hf;simp only [Value.cells,zi64,List.drop_succ_cons,List.drop_zero,List.take_succ_cons,List.take_zero] at u0 u1;obtain ⟨i,hi,_,wi⟩:=DataW.trod_int Tryz.underlying3 u0;obtain ⟨j,hj,_,wj⟩:=DataW.trod_int Tryz.underlying3 u1;simp only [List.cons.injEq,and_true] at hi hj;subst hi hj;have bi:=bounds_i64 wi;have bj:=bounds_i64 wj;exact ⟨i,j,rfl,bi.1,bi.2,bj.1,bj.2⟩
end
end
section
/- Arguments of law 24,second form: a key,a case,and what the bound gives for the lengths of a case's slices. -/
open Go.RowKit Go.WideShapes Go.ChangeShapes Go.ChangeAt Go.Joins Go.Deep
theorem bulk_one {H:Type} (d:DataW H):1≤Rows.uptoBulk d:=by
 cases d with
 | lit l=>cases l <;> simp [Rows.uptoBulk]
 | nil=>simp [Rows.uptoBulk]
 | ptr d=>simp [Rows.uptoBulk]
 | slice elems spare=>simp [Rows.uptoBulk]
 | agg parts=>simp [Rows.uptoBulk]
 | iface t d=>simp [Rows.uptoBulk]
 | map entries=>simp [Rows.uptoBulk]
 | held h=>simp [Rows.uptoBulk]
theorem bulk_len {H:Type} (l:List (DataW H)):l.length≤Rows.uptoBulkAll l:=by
 induction l with
 | nil=>simp [Rows.uptoBulkAll]
 | cons x r ih=>have:=bulk_one x;simp only [Rows.uptoBulkAll,List.length_cons];omega
theorem bulk_part {H:Type} {d:DataW H} {l:List (DataW H)} (h:d∈l):Rows.uptoBulk d≤Rows.uptoBulkAll l:=by
 induction l with
 | nil=>cases h
 | cons x r ih =>
  simp only [Rows.uptoBulkAll];cases List.mem_cons.1 h with
  | inl e=>subst e;omega
  | inr e=>have:=ih e;omega
theorem bulk_max {H:Type} {l:List (DataW H)} (hk:Rows.uptoSmall H l=true):Rows.uptoBulkAll l≤1048576:=by
 simpa [Rows.uptoSmall] using hk
theorem array10 {α:Type} {l:Array α} (h:l.size=10):∃a b c d e f g i j k,l=#[a,b,c,d,e,f,g,i,j,k]:=by
 obtain ⟨l⟩:=l;match l,h with
 | [a,b,c,d,e,f,g,i,j,k],_=>exact ⟨a,b,c,d,e,f,g,i,j,k,rfl⟩
theorem array4u {α:Type} {l:Array α} (h:l.size=4):∃a b c d,l=#[a,b,c,d]:=by
 obtain ⟨l⟩:=l;match l,h with
 | [a,b,c,d],_=>exact ⟨a,b,c,d,rfl⟩
theorem zCase:Tryz.prog.cellsOf 45=10:=by kernel_rfl
theorem zOs:Tryz.prog.cellsOf 43=1:=by kernel_rfl
section
variable {H:Type} {enc:TypeId × Value→H} {w:World} {base:Nat} {held:Bool}
theorem open_pedk {r:Reach} {b0:Nat} {v:Value} {d:DataW H} {p:List MemPlace} (hv:Value.okWide Tryz.prog w r b0 35 v) (h:DataW.Trod enc Tryz.prog w base (fun _=>true) held 35 v d p) :
  ∃a b c e:ByteArray,v=.agg #[.string a,.string b,.string c,.string e]∧a.size≤9223372036854775807∧b.size≤9223372036854775807∧c.size≤9223372036854775807∧e.size≤9223372036854775807:=by
 obtain ⟨cs,rfl,hsz⟩:=okWide_struct Tryz.underlying35 hv;obtain ⟨c0,c1,c2,c3,rfl⟩:=array4u (hsz.trans zPed);obtain ⟨fuel,hf⟩:=h;obtain ⟨y0,y1,y2,n,_,_,h0,h1,h2⟩:=trod_struct3 Tryz.underlying35 hf;obtain ⟨z0,z1,m,_,_,g0,g1⟩:=trod_struct2 Tryz.underlying33 h0;obtain ⟨a,ha,_,sa⟩:=DataW.trod_string Tryz.underlying31 g0;obtain ⟨b,hb,_,sb⟩:=DataW.trod_string Tryz.underlying31 g1;obtain ⟨c,hc,_,sc⟩:=DataW.trod_string Tryz.underlying31 h1;obtain ⟨e,he,_,se⟩:=DataW.trod_string Tryz.underlying31 h2;simp [Value.cells,zGrp,zNat] at ha hb hc he;subst ha hb hc he;unfold maxLen at sa sb sc se;exact ⟨a,b,c,e,rfl,sa,sb,sc,se⟩
theorem len_bulk {fuel:Nat} {t e:TypeId} {ao:Option Addr} {n c:Nat} {x:DataW H × List MemPlace} (ht:Tryz.prog.underlying t=some (.slice e))
  (h:DataW.trod enc Tryz.prog w base (fun _=>true) held fuel t [.slice ao n c]=some x):n≤Rows.uptoBulk x.1:=by
 rcases open_slice ht h with ⟨h0,_⟩ | ⟨a,len,cap,m,k,D,Pl,h0,hb,hl,hm,hmm,rfl,hel⟩
 ·simp only [List.cons.injEq,Value.slice.injEq,and_true] at h0;omega
 ·simp only [List.cons.injEq,Value.slice.injEq,and_true] at h0;obtain ⟨_,rfl,_⟩:=h0;simp only [Rows.uptoBulk];have:=bulk_len ((List.range n).map D);simp only [List.length_map,List.length_range] at this;omega
theorem ratLen {α:Type} {Q:World→α→List Value→Prop} {size:Nat} {ao:Option Addr} {n c:Nat} {l:List α} (h:RAt Q size w (.slice ao n c) l):l.length=n:=by
 obtain ⟨_,_,e,_⟩:=h;simp only [Value.slice.injEq] at e;exact e.2.1.symm
theorem trod_struct5x {P:Program} {spare:Nat→Bool} {t:TypeId} {f0 f1 f2 f3 f4:Field} {fuel:Nat} {cs:List Value} {x:DataW H × List MemPlace} (ht:P.underlying t=some (.struct #[f0,f1,f2,f3,f4])) (h:DataW.trod enc P w base spare held fuel t cs=some x) :
  ∃(y0 y1 y2 y3 y4:DataW H × List MemPlace) (n:Nat),x.1=.agg [y0.1,y1.1,y2.1,y3.1,y4.1]∧DataW.trod enc P w base spare held n f0.type ((cs.drop f0.offset).take (P.cellsOf f0.type))=some y0 ∧
   DataW.trod enc P w base spare held n f1.type ((cs.drop f1.offset).take (P.cellsOf f1.type))=some y1∧DataW.trod enc P w base spare held n f2.type ((cs.drop f2.offset).take (P.cellsOf f2.type))=some y2 ∧
   DataW.trod enc P w base spare held n f3.type ((cs.drop f3.offset).take (P.cellsOf f3.type))=some y3∧DataW.trod enc P w base spare held n f4.type ((cs.drop f4.offset).take (P.cellsOf f4.type))=some y4:=by
 obtain ⟨xs,n,_,rfl,hl,hlen,hf⟩:=DataW.trod_struct ht h;match xs,hlen with
 | [y0,y1,y2,y3,y4],_=>exact ⟨y0,y1,y2,y3,y4,n,rfl,by simpa using hf 0 f0 rfl,by simpa using hf 1 f1 rfl,by simpa using hf 2 f2 rfl,by simpa using hf 3 f3 rfl,by simpa using hf 4 f4 rfl⟩
theorem open_case24 {r:Reach} {b0:Nat} {v:Value} {dd:DataW H} {p:List MemPlace} (hv:Value.okWide Tryz.prog w r b0 45 v) (h:DataW.Trod enc Tryz.prog w base (fun _=>true) held 45 v dd p) :
  ∃(vn:Bool) (va:ByteArray) (rn:Bool) (ra:ByteArray) (st:Option Addr) (mt dt:Nat) (sd:ByteArray) (ti:Int) (C:ByteArray) (po:Option Addr) (np pc:Nat) (oo:Option Addr) (no oc:Nat) (V P:List ByteArray) (O:List Opn),
   v=.agg #[.bool vn,.string va,.bool rn,.string ra,.slice st mt dt,.string sd,.int .i64 ti,.string C,.slice po np pc,.slice oo no oc] ∧
   va.size≤9223372036854775807∧ra.size≤9223372036854775807∧C.size≤9223372036854775807∧sd.size≤9223372036854775807 ∧
   (V.length≤Rows.uptoBulk dd∧P.length≤Rows.uptoBulk dd∧O.length≤Rows.uptoBulk dd) ∧
   (∀x∈V,x.size≤9223372036854775807)∧(∀x∈P,x.size≤9223372036854775807)∧(∀x∈O,x.va.size≤9223372036854775807∧x.ra.size≤9223372036854775807) ∧
   SsAt w (.slice st mt dt) V∧SsAt w (.slice po np pc) P∧OsAt w (.slice oo no oc) O:=by
 obtain ⟨cs,rfl,hsz⟩:=okWide_struct Tryz.underlying45 hv;obtain ⟨c0,c1,c2,c3,c4,c5,c6,c7,c8,c9,rfl⟩:=array10 (hsz.trans zCase);obtain ⟨fuel,hf⟩:=h;obtain ⟨y0,y1,y2,y3,y4,m,hx,h0,h1,h2,h3,h4⟩:=trod_struct5x Tryz.underlying45 hf;simp only [Value.cells,zOpn,zTape,zNat,zNs,zOs,List.drop_succ_cons,List.drop_zero,List.take_succ_cons,List.take_zero] at h0 h1 h2 h3 h4;obtain ⟨o0,o1,m1,_,_,i0,j0⟩:=trod_struct2 Tryz.underlying39 h0;obtain ⟨_,_,_,m2,hx1,_,a0,a1,a2⟩:=trod_struct3 Tryz.underlying42 h1;simp only [zInt,zNs,zStr,zi64,List.drop_succ_cons,List.drop_zero,List.take_succ_cons,List.take_zero] at i0 j0 a0 a1 a2;obtain ⟨_,_,m3,_,_,k0,k1⟩:=trod_struct2 Tryz.underlying37 i0;obtain ⟨_,_,m4,_,_,l0,l1⟩:=trod_struct2 Tryz.underlying37 j0;simp only [zNat,zB,List.drop_succ_cons,List.drop_zero,List.take_succ_cons,List.take_zero] at k0 k1 l0 l1;obtain ⟨vn,hvn,_⟩:=DataW.trod_bool Tryz.underlying4 k0;obtain ⟨va,hva,_,sva⟩:=DataW.trod_string Tryz.underlying31 k1;obtain ⟨rn,hrn,_⟩:=DataW.trod_bool Tryz.underlying4 l0;obtain ⟨ra,hra,_,sra⟩:=DataW.trod_string Tryz.underlying31 l1;obtain ⟨sd,hsd,_,ssd⟩:=DataW.trod_string Tryz.underlying9 a1;obtain ⟨ti,hti,_⟩:=DataW.trod_int Tryz.underlying3 a2;obtain ⟨C,hC,_,sC⟩:=DataW.trod_string Tryz.underlying31 h2;obtain ⟨f1,f2,f3,V,hV,rV,sV,_⟩:=row_of (Q:=QStr) (Sz:=fun a=>a.size≤maxLen) ⟨#[]⟩ Tryz.underlying40 zNat (by decide) a0 (fun n cs' y hl h=>el_nat hl h);obtain ⟨g1,g2,g3,P,hP,rP,sP,_⟩:=row_of (Q:=QStr) (Sz:=fun a=>a.size≤maxLen) ⟨#[]⟩ Tryz.underlying40 zNat (by decide) h3 (fun n cs' y hl h=>el_nat hl h);obtain ⟨e1,e2,e3,O,hO,rO,sO,_⟩:=row_of (Q:=QOpn) (Sz:=fun a:Opn=>a.va.size≤maxLen∧a.ra.size≤maxLen) ⟨false,⟨#[]⟩,false,⟨#[]⟩⟩ Tryz.underlying43 zOpn (by decide) h4 (fun n cs' y hl h=>el_opn hl h);simp only [List.cons.injEq,and_true] at hvn hva hrn hra hsd hti hC hV hP hO;subst hvn hva hrn hra hsd hti hC hV hP hO;have bV:=len_bulk Tryz.underlying40 a0;have bP:=len_bulk Tryz.underlying40 h3;have bO:=len_bulk Tryz.underlying43 h4;have eV:=ratLen rV;have eP:=ratLen rP;have eO:=ratLen rO;have q1:dd=_:=hx;have q2:=congrArg Prod.fst hx1;have p1:Rows.uptoBulk y1.1≤Rows.uptoBulk dd:=by rw [q1];simp only [Rows.uptoBulk,Rows.uptoBulkAll];omega
 have p3:Rows.uptoBulk y3.1≤Rows.uptoBulk dd:=by rw [q1];simp only [Rows.uptoBulk,Rows.uptoBulkAll];omega
 have p4:Rows.uptoBulk y4.1≤Rows.uptoBulk dd:=by rw [q1];simp only [Rows.uptoBulk,Rows.uptoBulkAll];omega
 dsimp only at q2
 rw [q2] at p1;simp only [Rows.uptoBulk,Rows.uptoBulkAll] at p1;unfold maxLen at sva sra sC ssd sV sP sO;exact ⟨vn,va,rn,ra,_,_,_,sd,ti,C,_,_,_,_,_,_,V,P,O,rfl,sva,sra,sC,ssd,⟨by omega,by omega,by omega⟩,sV,sP,sO,rV,rP,rO⟩
end
end
section
open Go.RowKit
theorem nats2 {w:World} {b c g:Nat} {T:TypeId} (h:Blk w b T [.string (E c),.string (E g)]):NatsAt w b [c,g]:=NatsAt.of_blk (T:=T) h
end
section
open Go.RowKit Go.Shelf
end
section
def laid3:List (String × DataW Unit):=[("math/bits.deBruijn32tab",Rows.laid_math_bits_deBruijn32tab),("math/bits.deBruijn64tab",Rows.laid_math_bits_deBruijn64tab),("internal/strconv.uint64pow10",Rows.laid_internal_strconv_uint64pow10)]
theorem door_met (os:Os) (args:Array Value):laidMetH Tryz.prog laid3 ((World.doorLaid Tryz.prog 24 os).forCall (fun _ _=>0) ⟨#[],args,[]⟩).memory:=
 laidMetH_of_parts3 (fuel:=8) (laidMet_of_run' 8 (by kernel_rfl) (by kernel_rfl)) (by kernel_rfl) (by kernel_rfl)
end
section
open Go.RowKit Go.WideShapes Go.ChangeShapes Go.ChangeAt Go.Joins Go.Deep
open Go.ChangeMaps (open_string shut_string)
theorem rgpp_k0:(Rows.rangeproofPreparesUptoRow.inPlace==Tryz.prog.inPlace 5)=true:=by kernel_rfl
theorem rgpp_k1:(Rows.rangeproofPreparesUptoRow.unfollowed==Tryz.prog.unfollowed 5)=true:=by kernel_rfl
theorem rgpp_k2:(Rows.rangeproofPreparesUptoRow.recurses==Tryz.prog.recurses 5)=true:=by kernel_rfl
theorem rgpp_k3:(Rows.rangeproofPreparesUptoRow.named==Tryz.prog.varsNamed 5)=true:=by kernel_rfl
theorem rgpp_k4:(laidOutB Tryz.prog)=true:=by kernel_rfl
theorem rgpp_k5:(mapsRowed Tryz.prog)=true:=by kernel_rfl
theorem rgpp_k6:(Tryz.prog.stopsHeard)=true:=by kernel_rfl
theorem rgpp_k7:(Tryz.prog.mayEnter)=true:=by kernel_rfl
theorem rgpp_k8:(Rows.rangeproofPreparesUptoRow.lifted==Tryz.prog.liftsFinal)=true:=by kernel_rfl
theorem rgpp_k9:(Rows.rangeproofPreparesUptoRow.plainKeys==Tryz.prog.plainKeys)=true:=by kernel_rfl
theorem rgpp_k10:(Rows.rangeproofPreparesUptoRow.pinned==Rows.rangeproofPreparesUptoRow.pinnedBy)=true:=by kernel_rfl
end
end Go.Proofs.YtdoacbdkbbpamaaGreatDoor
