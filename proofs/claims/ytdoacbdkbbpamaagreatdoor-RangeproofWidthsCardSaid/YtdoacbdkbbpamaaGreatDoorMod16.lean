import Derived.Test.YtdoacbdkbbpamaaGreatDoorSqr
import Derived.Test.YtdoacbdkbbpamaaGreatDoorLdvl
import Derived.Carry
import Derived.ChangeSlices
import Derived.WideKeyArgs
import Derived.Deep.Slices
import Derived.OpenShut
import Derived.Test.YtdoacbdkbbpamaaGreatDoorHp3
import Derived.Laws.CopyRow
import Derived.Test.YtdoacbdkbbpamaaGreatDoorPow4
import Derived.Test.YtdoacbdkbbpamaaGreatDoorLdv2
import Derived.Test.YtdoacbdkbbpamaaGreatDoorFs5
set_option linter.unusedVariables false
set_option linter.unusedSimpArgs false
set_option maxRecDepth 100000
set_option maxHeartbeats 16000000
namespace Go.Proofs.YtdoacbdkbbpamaaGreatDoor
section
/- A bounded integer,openings,a tape,numbers as arguments: opened into what their slices read. -/
open Go.RowKit Go.WideShapes Go.ChangeShapes Go.ChangeAt Go.Joins Go.Deep
open Go.ChangeMaps (open_string shut_string)
theorem laid_out:laidOutB Tryz.prog=true:=by kernel_rfl
theorem list1 {α:Type} {l:List α} (h:l.length=1):∃a,l=[a]:=by
 match l,h with
 | [a],_=>exact ⟨a,rfl⟩
theorem list2 {α:Type} {l:List α} (h:l.length=2):∃a b,l=[a,b]:=by
 match l,h with
 | [a,b],_=>exact ⟨a,b,rfl⟩
theorem list4 {α:Type} {l:List α} (h:l.length=4):∃a b c d,l=[a,b,c,d]:=by
 match l,h with
 | [a,b,c,d],_=>exact ⟨a,b,c,d,rfl⟩
theorem array3 {α:Type} {l:Array α} (h:l.size=3):∃a b c,l=#[a,b,c]:=by
 obtain ⟨l⟩:=l;match l,h with
 | [a,b,c],_=>exact ⟨a,b,c,rfl⟩
theorem array11 {α:Type} {l:Array α} (h:l.size=11):∃a b c d e f g i j k m,l=#[a,b,c,d,e,f,g,i,j,k,m]:=by
 obtain ⟨l⟩:=l;match l,h with
 | [a,b,c,d,e,f,g,i,j,k,m],_=>exact ⟨a,b,c,d,e,f,g,i,j,k,m,rfl⟩
theorem zNat:Tryz.prog.cellsOf 31=1:=by kernel_rfl
theorem zGrp:Tryz.prog.cellsOf 33=2:=by kernel_rfl
theorem zInt:Tryz.prog.cellsOf 37=2:=by kernel_rfl
theorem zPed:Tryz.prog.cellsOf 35=4:=by kernel_rfl
theorem zOpn:Tryz.prog.cellsOf 39=4:=by kernel_rfl
theorem zi64:Tryz.prog.cellsOf 3=1:=by kernel_rfl
theorem zB:Tryz.prog.cellsOf 4=1:=by kernel_rfl
theorem zNs:Tryz.prog.cellsOf 40=1:=by kernel_rfl
theorem zTape:Tryz.prog.cellsOf 42=3:=by kernel_rfl
theorem zStr:Tryz.prog.cellsOf 9=1:=by kernel_rfl
section
variable {H:Type} {enc:TypeId × Value→H} {w:World} {base:Nat} {held:Bool}
theorem trod_struct5 {P:Program} {spare:Nat→Bool} {t:TypeId} {f0 f1 f2 f3 f4:Field} {fuel:Nat} {cs:List Value} {x:DataW H × List MemPlace} (ht:P.underlying t=some (.struct #[f0,f1,f2,f3,f4])) (h:DataW.trod enc P w base spare held fuel t cs=some x) :
  ∃(y0 y1 y2 y3 y4:DataW H × List MemPlace) (n:Nat),True∧cs.length=P.cellsOf t∧DataW.trod enc P w base spare held n f0.type ((cs.drop f0.offset).take (P.cellsOf f0.type))=some y0 ∧
   DataW.trod enc P w base spare held n f1.type ((cs.drop f1.offset).take (P.cellsOf f1.type))=some y1∧DataW.trod enc P w base spare held n f2.type ((cs.drop f2.offset).take (P.cellsOf f2.type))=some y2 ∧
   DataW.trod enc P w base spare held n f3.type ((cs.drop f3.offset).take (P.cellsOf f3.type))=some y3∧DataW.trod enc P w base spare held n f4.type ((cs.drop f4.offset).take (P.cellsOf f4.type))=some y4:=by
 obtain ⟨xs,n,_,rfl,hl,hlen,hf⟩:=DataW.trod_struct ht h;match xs,hlen with
 | [y0,y1,y2,y3,y4],_=>exact ⟨y0,y1,y2,y3,y4,n,trivial,hl,by simpa using hf 0 f0 rfl,by simpa using hf 1 f1 rfl,by simpa using hf 2 f2 rfl,by simpa using hf 3 f3 rfl,by simpa using hf 4 f4 rfl⟩
theorem row_of {α:Type} {Q:World→α→List Value→Prop} {Sz:α→Prop} (d:α) {size fuel:Nat} {t e:TypeId} {cs:List Value} {x:DataW H × List MemPlace} (ht:Tryz.prog.underlying t=some (.slice e)) (hc:Tryz.prog.cellsOf e=size) (h0:0<size)
  (h:DataW.trod enc Tryz.prog w base (fun _=>true) held fuel t cs=some x)
  (elem:∀n cs' y,cs'.length=size→DataW.trod enc Tryz.prog w base (fun _=>true) held n e cs'=some y→∃a,Q w a cs'∧Sz a) :
  ∃ao n c l,cs=[.slice ao n c]∧RAt Q size w (.slice ao n c) l∧(∀a∈l,Sz a)∧l.length≤maxLen:=by
 rcases open_slice ht h with ⟨rfl,_⟩ | ⟨a,len,cap,m,n,D,Pl,rfl,hb,hl,hm,hmm,_,hel⟩
 ·exact ⟨none,0,0,[],rfl,⟨none,0,rfl,.inl rfl⟩,by simp,by simp⟩
 ·rw [if_pos rfl] at hmm;subst hmm;rw [hc] at hel;haveI:Inhabited α:=⟨d⟩
  obtain ⟨f,hf⟩:=choose_lt (α:=α) (n:=len) (p:=fun i y=>∃cs',w.cells? base (a.add (i*size)) size=some cs'∧Q w y cs'∧Sz y) (fun i hi=>by
   obtain ⟨cs',h1,h2⟩:=hel i (by omega);obtain ⟨y,hy1,hy2⟩:=elem n cs' _ (World.cells?_some h1).2.1 h2;exact ⟨y,cs',h1,hy1,hy2⟩)
  have hlen:((List.range len).map f).length=len:=by simp
  refine ⟨some a,len,m,(List.range len).map f,rfl,⟨some a,m,by rw [hlen],?_⟩,fun y hy=>?_,by rw [hlen];omega⟩
  ·by_cases hl0:len=0
   ·exact .inl (by rw [hlen];exact hl0)
   ·obtain ⟨b,off,spot⟩:=a;obtain ⟨cs0,g1,_⟩:=hf 0 (by omega);obtain ⟨_,g2,g3⟩:=World.cells?_some g1;have g4:=g3 0 h0;have g5:0<cs0.length:=by omega
    rw [List.getElem?_eq_getElem g5] at g4;have hspot:spot=none:=by simpa [Addr.add] using World.cell?_spot g4
    subst hspot;refine .inr ⟨b,off,rfl,?_,fun j hj=>?_⟩
    ·rw [add_plain,add_plain] at g4;apply Classical.byContradiction
     intro hge;have hnone:w.heap[b]?=none:=by simpa using hge
     simp [World.cell?,hnone] at g4
    ·obtain ⟨cs',k1,k2,_⟩:=hf j (by rw [←hlen];exact hj);refine ⟨cs',by simpa using k2,fun i hi=>?_⟩;have:=(World.cells?_some k1).2.2 i hi;rw [add_plain,add_plain] at this;exact this
  ·obtain ⟨j,hj,rfl⟩:=List.mem_map.1 hy;obtain ⟨cs',_,_,hz⟩:=hf j (List.mem_range.1 hj);exact hz
theorem el_nat {n:Nat} {cs:List Value} {y:DataW H × List MemPlace} (hl:cs.length=1) (h:DataW.trod enc Tryz.prog w base (fun _=>true) held n 31 cs=some y):∃a,QStr w a cs∧a.size≤maxLen:=by
 obtain ⟨s,rfl,_,hs⟩:=DataW.trod_string Tryz.underlying31 h;exact ⟨s,rfl,hs⟩
theorem el_opn {n:Nat} {cs:List Value} {y:DataW H × List MemPlace} (hl:cs.length=4) (h:DataW.trod enc Tryz.prog w base (fun _=>true) held n 39 cs=some y):∃a:Opn,QOpn w a cs∧a.va.size≤maxLen∧a.ra.size≤maxLen:=by
 obtain ⟨c0,c1,c2,c3,rfl⟩:=list4 hl;obtain ⟨y0,y1,m,_,_,h0,h1⟩:=trod_struct2 Tryz.underlying39 h;obtain ⟨z0,z1,m',_,_,g0,g1⟩:=trod_struct2 Tryz.underlying37 h0;obtain ⟨x0,x1,m2,_,_,k0,k1⟩:=trod_struct2 Tryz.underlying37 h1;obtain ⟨b,hb,_⟩:=DataW.trod_bool Tryz.underlying4 g0;obtain ⟨s,hs,_,hz⟩:=DataW.trod_string Tryz.underlying31 g1;obtain ⟨b',hb',_⟩:=DataW.trod_bool Tryz.underlying4 k0;obtain ⟨s',hs',_,hz'⟩:=DataW.trod_string Tryz.underlying31 k1;simp [zNat,zB,zInt] at hs hb hb' hs';subst hs hb hb' hs';exact ⟨⟨b,s,b',s'⟩,rfl,hz,hz'⟩
theorem open_opns {r:Reach} {b0:Nat} {v:Value} {d:DataW H} {p:List MemPlace} (hv:Value.okWide Tryz.prog w r b0 43 v) (h:DataW.Trod enc Tryz.prog w base (fun _=>true) held 43 v d p) :
  ∃(L:List Opn) (po:Option Addr) (np pc:Nat),v=.slice po np pc∧L.length≤9223372036854775807∧(∀x∈L,x.va.size≤9223372036854775807∧x.ra.size≤9223372036854775807)∧OsAt w (.slice po np pc) L:=by
 obtain ⟨a0,len,cap,rfl⟩:=okWide_slice Tryz.underlying43 hv;obtain ⟨fuel,hf⟩:=h;obtain ⟨a,n,c,l,hc,hr,hs,hl⟩:=row_of (Q:=QOpn) (Sz:=fun a:Opn=>a.va.size≤maxLen∧a.ra.size≤maxLen) ⟨false,⟨#[]⟩,false,⟨#[]⟩⟩ Tryz.underlying43 zOpn (by decide) hf (fun n cs' y hl h=>el_opn hl h);simp [Value.cells] at hc;obtain ⟨rfl,rfl,rfl⟩:=hc;unfold maxLen at hs hl;exact ⟨l,_,_,_,rfl,hl,hs,hr⟩
theorem open_tape {r:Reach} {b0:Nat} {v:Value} {d:DataW H} {p:List MemPlace} (hv:Value.okWide Tryz.prog w r b0 42 v) (h:DataW.Trod enc Tryz.prog w base (fun _=>true) held 42 v d p) :
  ∃(V:List ByteArray) (sd:ByteArray) (ti:Int) (st:Option Addr) (mt dt:Nat),v=.agg #[.slice st mt dt,.string sd,.int .i64 ti]∧(∀x∈V,x.size≤9223372036854775807)∧sd.size≤9223372036854775807∧V.length≤9223372036854775807∧SsAt w (.slice st mt dt) V:=by
 obtain ⟨cs,rfl,hsz⟩:=okWide_struct Tryz.underlying42 hv;obtain ⟨c0,c1,c2,rfl⟩:=array3 (hsz.trans zTape);obtain ⟨fuel,hf⟩:=h;obtain ⟨_,_,_,m2,_,_,a0,a1,a2⟩:=trod_struct3 Tryz.underlying42 hf;simp only [Value.cells,zNs,zStr,zi64,List.drop_succ_cons,List.drop_zero,List.take_succ_cons,List.take_zero] at a0 a1 a2;obtain ⟨sd,hsd,_,ssd⟩:=DataW.trod_string Tryz.underlying9 a1;obtain ⟨ti,hti,_⟩:=DataW.trod_int Tryz.underlying3 a2;obtain ⟨f1,f2,f3,TV,hTV,rTV,sTV,lTV⟩:=row_of (Q:=QStr) (Sz:=fun a=>a.size≤maxLen) ⟨#[]⟩ Tryz.underlying40 zNat (by decide) a0 (fun n cs' y hl h=>el_nat hl h);simp only [List.cons.injEq,and_true] at hsd hti hTV;subst hsd hti hTV;unfold maxLen at ssd sTV lTV;exact ⟨TV,sd,ti,_,_,_,rfl,sTV,ssd,lTV,rTV⟩
theorem open_nats {r:Reach} {b0:Nat} {v:Value} {d:DataW H} {p:List MemPlace} (hv:Value.okWide Tryz.prog w r b0 40 v) (h:DataW.Trod enc Tryz.prog w base (fun _=>true) held 40 v d p) :
  ∃(L:List ByteArray) (po:Option Addr) (np pc:Nat),v=.slice po np pc∧L.length≤9223372036854775807∧(∀x∈L,x.size≤9223372036854775807)∧SsAt w (.slice po np pc) L:=by
 obtain ⟨a0,len,cap,rfl⟩:=okWide_slice Tryz.underlying40 hv;obtain ⟨fuel,hf⟩:=h;obtain ⟨a,n,c,l,hc,hr,hs,hl⟩:=row_of (Q:=QStr) (Sz:=fun a=>a.size≤maxLen) ⟨#[]⟩ Tryz.underlying40 zNat (by decide) hf (fun n cs' y hl h=>el_nat hl h);simp [Value.cells] at hc;obtain ⟨rfl,rfl,rfl⟩:=hc;unfold maxLen at hs hl;exact ⟨l,_,_,_,rfl,hl,hs,hr⟩
end
end
section
/- Arguments of law 24: a range. -/
open Go.RowKit Go.WideShapes Go.ChangeShapes Go.ChangeAt Go.Joins Go.Deep
section
variable {H:Type} {enc:TypeId × Value→H} {w:World} {base:Nat} {held:Bool}
theorem array2 {α:Type} {l:Array α} (h:l.size=2):∃a b,l=#[a,b]:=by
 obtain ⟨l⟩:=l;match l,h with
 | [a,b],_=>exact ⟨a,b,rfl⟩
theorem zRng:Tryz.prog.cellsOf 23=2:=by kernel_rfl
theorem open_rng {r:Reach} {b0:Nat} {v:Value} {d:DataW H} {p:List MemPlace} (hv:Value.okWide Tryz.prog w r b0 23 v) (h:DataW.Trod enc Tryz.prog w base (fun _=>true) held 23 v d p) :
  ∃lo hi:Int,v=.agg #[.int .i64 lo,.int .i64 hi]∧-9223372036854775808≤lo∧lo≤9223372036854775807∧-9223372036854775808≤hi∧hi≤9223372036854775807:=by
 obtain ⟨cs,rfl,hsz⟩:=okWide_struct Tryz.underlying23 hv;obtain ⟨c0,c1,rfl⟩:=array2 (hsz.trans zRng);obtain ⟨fuel,hf⟩:=h;obtain ⟨y0,y1,m,_,_,u0,u1⟩:=trod_struct2 Tryz.underlying23 hf;simp only [Value.cells,zi64,List.drop_succ_cons,List.drop_zero,List.take_succ_cons,List.take_zero] at u0 u1;obtain ⟨i,hi,_,wi⟩:=DataW.trod_int Tryz.underlying3 u0;obtain ⟨j,hj,_,wj⟩:=DataW.trod_int Tryz.underlying3 u1;simp only [List.cons.injEq,and_true] at hi hj;subst hi hj;have bi:=bounds_i64 wi;have bj:=bounds_i64 wj;exact ⟨i,j,rfl,bi.1,bi.2,bj.1,bj.2⟩
end
end
section
open Go.RowKit Go.Shelf
def shf (F:Nat→Int) (j:Nat):Int:=if j=0 then F 0 else F (j-1)
theorem shf_eq (F:Nat→Int):(u32f F 8).toArray.toList.take 1++u32f F 7++(u32f F 8).toArray.toList.drop (1+(u32f F 7).length)=u32f (shf F) 8:=by rfl
theorem rnd_set (F:Nat→Int) (kk ww t u:Int) (ht:t=rT F kk ww) (hu:u=tU (F 0) (F 1) (F 2)) :
  ((u32f (shf F) 8).set 4 (.int .u32 ((F 3+t)%4294967296))).set 0 (.int .u32 ((t+u)%4294967296))=u32f (rnd F kk ww) 8:=by
 subst ht hu;rw [u32f_set,u32f_set];refine u32f_congr fun j hj=>?_
 unfold rnd shf;by_cases h0:j=0
 ·rw [if_pos h0,if_pos h0]
 ·rw [if_neg h0];by_cases h4:j=4
  ·rw [if_pos h4,if_neg h0,if_pos h4]
  ·rw [if_neg h4,if_neg h0,if_neg h4,if_neg h0]
theorem z8:Z8.toList=u32f (fun _=>0) 8:=by rfl
theorem after_v (S:Nat→Int) (s:ByteArray) (b o c:Nat) (w:World) (hs:s.size=64) (hA:BytA w b o s) (hc:64≤c) :
  Calls Tryz.prog 203 #[.agg (u32f S 8).toArray,.slice (some ⟨b,o,none⟩) 64 c] w fun e w'=>e=.returned (.agg (u32f (cmp S s) 8).toArray)∧Below w.heap.size w w':=by
 go_enter Tryz.func203,Tryz.ntmps203
 go_upto_region 1 with fail
 have hS2:=((Blk.new w (u32f S 8).toArray 206).as (cs':=u32f S 8) (by simp)).alloc (.cells Z8 206);have hR4:=(Blk.new (w.alloc (.cells (u32f S 8).toArray 206)) Z8 206).as z8;rw [World.size_alloc] at hR4;have hBW:=ba (b1 w (.cells (u32f S 8).toArray 206)) (.cells Z8 206);generalize (w.alloc (.cells (u32f S 8).toArray 206)).alloc (.cells Z8 206)=w1 at hS2 hR4 hBW ⊢;obtain ⟨g4,hg4⟩:∃g,w.heap.size+1=g:=⟨_,rfl⟩;obtain ⟨g2,hg2⟩:∃g,w.heap.size=g:=⟨_,rfl⟩;have HG4:Hid (w.heap.size≤g4):=by rw [Hid];omega
 rw [hg4] at hR4 ⊢;rw [hg2] at hS2 ⊢;clear hg4 hg2;go_wp2_with fail
 refine (pconstants_v _).mono ?_;rintro e w2 ⟨rfl,hb2⟩;replace hS2:=hS2.after hb2;replace hR4:=hR4.after hb2;replace hBW:=bt hBW hb2;go_wp2_with fail
 refine (pschedule_v s b o c _ hs (hA.after hBW) hc).mono ?_;rintro e w3 ⟨rfl,hb3⟩;replace hS2:=hS2.after hb3;replace hR4:=hR4.after hb3;replace hBW:=bt hBW hb3;have hb3z:=hBW.size;have HG2:Hid (g2<w3.heap.size∧g4<w3.heap.size):=⟨hS2.lt,hR4.lt⟩;clear hb2 hb3;have h5:=((Blk.new w3 Z64 216).as z64).alloc (.cells Z64 216);have h6:=(Blk.new (w3.alloc (.cells Z64 216)) Z64 216).as z64;rw [World.size_alloc] at h6;replace hS2:=(hS2.alloc (.cells Z64 216)).alloc (.cells Z64 216);replace hR4:=(hR4.alloc (.cells Z64 216)).alloc (.cells Z64 216);replace hBW:=ba (ba hBW (.cells Z64 216)) (.cells Z64 216);have HS3:=Lib.hid hBW.size
 have h6':Blk (((w3.alloc (.cells Z64 216)).alloc (.cells Z64 216)).setRow w3.heap.size (u32f kC 64).toArray) (w3.heap.size+1) 216 (u32f (fun _=>0) 64):=by
  show ((_:World).setRow _ _).heap[_]?=_;rw [setRow_other _ _ _ _ (by omega)];exact h6
 go_upto_region 2 with (first | (refine wpList_store_row rfl 216 (.tmp 5) (.tmp 18) rfl w3.heap.size (u32f kC 64).toArray rfl rfl 216 _ h5 (size_w64 _) (by simp [u32f]) (u32f_one _ _) ?_) | (refine wpList_store_row rfl 216 (.tmp 6) (.tmp 20) rfl (w3.heap.size+1) (u32f (sW s) 64).toArray rfl rfl 216 _ h6' (size_w64 _) (by simp [u32f]) (u32f_one _ _) ?_))
 have hW:=setRow_blk (cs:=(u32f (sW s) 64).toArray) h6'
 have hK:Blk ((((w3.alloc (.cells Z64 216)).alloc (.cells Z64 216)).setRow w3.heap.size (u32f kC 64).toArray).setRow (w3.heap.size+1) (u32f (sW s) 64).toArray) w3.heap.size 216 (u32f kC 64):=by
  show ((_:World).setRow _ _).heap[_]?=_;rw [setRow_other _ _ _ _ (by omega)];exact setRow_blk (cs:=(u32f kC 64).toArray) h5
 have hl3:=hS2.lt;have hl4:=hR4.lt;have HB3:=Lib.hid hb3z
 have hS5:Blk ((((w3.alloc (.cells Z64 216)).alloc (.cells Z64 216)).setRow w3.heap.size (u32f kC 64).toArray).setRow (w3.heap.size+1) (u32f (sW s) 64).toArray) g2 206 (u32f S 8):=by
  show (((_:World).setRow _ _).setRow _ _).heap[_]?=_;rw [setRow_other _ _ _ _ (by have:=HG2.out;omega),setRow_other _ _ _ _ (by have:=HG2.out;omega)];exact hS2
 have hR5:Blk ((((w3.alloc (.cells Z64 216)).alloc (.cells Z64 216)).setRow w3.heap.size (u32f kC 64).toArray).setRow (w3.heap.size+1) (u32f (sW s) 64).toArray) g4 206 (u32f (fun _=>0) 8):=by
  show (((_:World).setRow _ _).setRow _ _).heap[_]?=_;rw [setRow_other _ _ _ _ (by have:=HG2.out;omega),setRow_other _ _ _ _ (by have:=HG2.out;omega)];exact hR4
 have hB5:=setRow_below (cs:=(u32f (sW s) 64).toArray) (setRow_below (cs:=(u32f kC 64).toArray) hBW (g:=w3.heap.size) HB3.out) (g:=w3.heap.size+1) (by have:=HB3.out;omega);clear h5 h6 h6' hS2 hR4 hBW HS3 hl3 hl4;generalize (((w3.alloc (.cells Z64 216)).alloc (.cells Z64 216)).setRow w3.heap.size (u32f kC 64).toArray).setRow (w3.heap.size+1) (u32f (sW s) 64).toArray=w5 at hW hK hS5 hR5 hB5 ⊢;replace hW:Blk w5 (w3.heap.size+1) 216 (u32f (sW s) 64):=hW;obtain ⟨g6,hg6⟩:∃g,w3.heap.size+1=g:=⟨_,rfl⟩;obtain ⟨g5,hg5⟩:∃g,w3.heap.size=g:=⟨_,rfl⟩;rw [hg6] at hW ⊢;rw [hg5] at hK ⊢;clear hg5 hg6 HB3 HG2;apply wp_region_lit
 refine wpList_load_row rfl 206 (.tmp 2) rfl g2 rfl 206 _ (0,0) _ hS5 Tryz.underlying206 rfl (size_s8 _) ?_;have h7:=(Blk.new w5 Z8 206).as z8;have hB7:=setRow_below (cs:=(u32f S 8).toArray) (b1 w5 (.cells Z8 206)) (Nat.le_refl _);have hV:=setRow_blk (cs:=(u32f S 8).toArray) h7;go_upto_region 3 with (first | (refine wpList_store_row rfl 206 (.tmp 7) (.tmp 21) rfl w5.heap.size (u32f S 8).toArray rfl rfl 206 _ h7 (size_s8 _) (by simp [u32f]) (u32f_one _ _) ?_))
 clear h7;generalize (w5.alloc (.cells Z8 206)).setRow w5.heap.size (u32f S 8).toArray=w7 at hB7 hV ⊢;replace hV:Blk w7 w5.heap.size 206 (u32f S 8):=hV;obtain ⟨g7,hg7⟩:∃g,w5.heap.size=g:=⟨_,rfl⟩;rw [hg7] at hV ⊢;have HG7:Hid (w5.heap.size≤g7):=by rw [Hid];omega
 clear hg7;go_wp2;go_loopw [22] (fun i wr=>∃k:Nat,k≤64∧i=.int .i64 k∧Blk wr g7 206 (u32f (vv s S k) 8)∧Below w5.heap.size w5 wr) (fun i _=>64-(intOf i).toNat)
 case atStart=>exact ⟨0,by omega,rfl,hV,hB7⟩
 case round =>
  clear hV hB7;obtain ⟨k,hk,rfl,hV,hbr⟩:=hrel;obtain ⟨wp,hwp⟩:∃wp,wp=wr:=⟨_,rfl⟩;subst hwp;by_cases hlt:k<64
  ·have hKr:=hK.after hbr;have hWr:=hW.after hbr;have HV3:Hid (∀j,j<8→vv s S (k+1) j=rnd (vv s S k) (kC k) (sW s k) j):=fun j _=>rfl
   have HRT:Hid (rT (vv s S k) (kC k) (sW s k)=tT (vv s S k 4) (vv s S k 5) (vv s S k 6) (vv s S k 7) (kC k) (sW s k)):=rfl;have ck:wp.cell? ⟨g5,k,none⟩=some (.int .u32 (kC k)):=by rw [hKr.cell,u32f_get _ hlt]
   have cw:wp.cell? ⟨g6,k,none⟩=some (.int .u32 (sW s k)):=by rw [hWr.cell,u32f_get _ hlt]
   have hKl:=hKr.lt;have hWl:=hWr.lt;have hVl:=hV.lt;obtain ⟨VK,hVK⟩:∃F,F=vv s S k:=⟨_,rfl⟩;rw [←hVK] at hV HV3 HRT;have HVK:=Lib.hid hVK;clear hVK hKr hWr;generalize hkk:kC k=kk at ck HV3 HRT;generalize hwk:sW s k=wk at cw HV3 HRT;clear hkk hwk;have c0:wp.cell? ⟨g7,0,none⟩=some (.int .u32 (VK 0)):=by rw [hV.cell,u32f_get _ (by omega)]
   have c1:wp.cell? ⟨g7,1,none⟩=some (.int .u32 (VK 1)):=by rw [hV.cell,u32f_get _ (by omega)]
   have c2:wp.cell? ⟨g7,2,none⟩=some (.int .u32 (VK 2)):=by rw [hV.cell,u32f_get _ (by omega)]
   have c3:wp.cell? ⟨g7,3,none⟩=some (.int .u32 (VK 3)):=by rw [hV.cell,u32f_get _ (by omega)]
   have c4:wp.cell? ⟨g7,4,none⟩=some (.int .u32 (VK 4)):=by rw [hV.cell,u32f_get _ (by omega)]
   have c5:wp.cell? ⟨g7,5,none⟩=some (.int .u32 (VK 5)):=by rw [hV.cell,u32f_get _ (by omega)]
   have c6:wp.cell? ⟨g7,6,none⟩=some (.int .u32 (VK 6)):=by rw [hV.cell,u32f_get _ (by omega)]
   have c7:wp.cell? ⟨g7,7,none⟩=some (.int .u32 (VK 7)):=by rw [hV.cell,u32f_get _ (by omega)]
   obtain ⟨y0,hy0⟩:∃y,y=VK 0:=⟨_,rfl⟩;rw [←hy0] at c0;have HY0:=Lib.hid hy0;clear hy0;obtain ⟨y1,hy1⟩:∃y,y=VK 1:=⟨_,rfl⟩;rw [←hy1] at c1;have HY1:=Lib.hid hy1;clear hy1;obtain ⟨y2,hy2⟩:∃y,y=VK 2:=⟨_,rfl⟩;rw [←hy2] at c2;have HY2:=Lib.hid hy2;clear hy2;obtain ⟨y3,hy3⟩:∃y,y=VK 3:=⟨_,rfl⟩;rw [←hy3] at c3;have HY3:=Lib.hid hy3;clear hy3;obtain ⟨y4,hy4⟩:∃y,y=VK 4:=⟨_,rfl⟩;rw [←hy4] at c4;have HY4:=Lib.hid hy4;clear hy4;obtain ⟨y5,hy5⟩:∃y,y=VK 5:=⟨_,rfl⟩;rw [←hy5] at c5;have HY5:=Lib.hid hy5;clear hy5;obtain ⟨y6,hy6⟩:∃y,y=VK 6:=⟨_,rfl⟩;rw [←hy6] at c6;have HY6:=Lib.hid hy6;clear hy6;obtain ⟨y7,hy7⟩:∃y,y=VK 7:=⟨_,rfl⟩;rw [←hy7] at c7;have HY7:=Lib.hid hy7;clear hy7;have HTT:Hid (tT y4 y5 y6 y7 kk wk=rT VK kk wk):=by rw [Hid,HY4.out,HY5.out,HY6.out,HY7.out];exact HRT.out.symm
   have HUU:Hid (tU y0 y1 y2=tU (VK 0) (VK 1) (VK 2)):=by rw [Hid,HY0.out,HY1.out,HY2.out]
   clear HRT;have k1:(0:Int)≤(k:Int):=by omega
   have k2:(k:Int)<64:=by omega
   go_upto_region 6 with fail
   go_cut [9,10,11,12,13,14] (fun s9 s10 s11 s12 s13 s14 wc'=>s9=.int .u32 y0∧s10=.int .u32 y1∧s11=.int .u32 y2∧s12=.int .u32 y4∧s13=.int .u32 y5∧s14=.int .u32 y6∧wc'=wp.drew)
   case first =>
    as_aux_lemma =>
    clear ck cw hK hW;go_wp2_with fail
    go_region;go_wp2_with fail
    go_meet
    exact ⟨rfl,rfl,rfl,rfl,rfl,rfl,rfl⟩
   case rest =>
   obtain ⟨rfl,rfl,rfl,rfl,rfl,rfl,rfl⟩:=hcut;have hV2:=Blk.drewH hV;have hbr2:=hbr.drew;have g7c:=gclH (w:=wp.drew) (a:=⟨g7,7,none⟩) hVl c7;have gkc:=gclH (w:=wp.drew) (a:=⟨g5,k,none⟩) hKl ck;have gwc:=gclH (w:=wp.drew) (a:=⟨g6,k,none⟩) hWl cw;clear c0 c1 c2 c3 c4 c5 c6 c7 ck cw hV hbr hKl hWl;generalize wp.drew=wx at hV2 hbr2 g7c gkc gwc ⊢;go_upto_region 7 with fail
   go_cut [15] (fun s15 wc'=>s15=.int .u32 (tT y4 y5 y6 y7 kk wk)∧Below wx.heap.size wx wc')
   case first =>
    clear hbr2 hV2 hK hW;go_wp2_with fail
    refine wp_region_gw (by kernel_rfl) (by kernel_rfl) ?_;repeat (go_big_quiet_step (first | (go_at_call 214;exact gw_of (turn_c _ _ 6 _ rfl (by decide) (by decide))) | (go_at_call 214;exact gw_of (turn_c _ _ 11 _ rfl (by decide) (by decide))) | (go_at_call 214;exact gw_of (turn_c _ _ 25 _ rfl (by decide) (by decide)))))
    refine wpQuiet_nil ?_;rintro w9 ⟨xw9,rfl⟩;have hb9:=gw_below xw9;generalize gw xw9=w9 at hb9;clear g7c gkc gwc;go_wp2_with fail
    go_meet
    exact ⟨rfl,hb9⟩
   case rest =>
   obtain ⟨rfl,hbc⟩:=hcut;rw [HTT.out];obtain ⟨wy,hwy⟩:∃wx,wx=wc:=⟨_,rfl⟩;subst hwy;replace hbr2:=bt hbr2 hbc;replace hV2:=hV2.after hbc;clear hbc g7c gkc gwc;go_upto_region 8 with fail
   go_cut [16] (fun s16 wc'=>s16=.int .u32 (tU y0 y1 y2)∧Below wy.heap.size wy wc')
   case first =>
    clear hbr2 hV2 hK hW;go_wp2_with fail
    refine (turn_c _ _ 2 _ rfl (by decide) (by decide)).mono ?_;rintro e wa ⟨rfl,hba⟩;go_wp2_with fail
    refine (turn_c _ _ 13 _ rfl (by decide) (by decide)).mono ?_;rintro e wb ⟨rfl,hbb⟩;go_wp2_with fail
    refine (turn_c _ _ 22 _ rfl (by decide) (by decide)).mono ?_;rintro e wd ⟨rfl,hbd⟩;have hb6:=bt hba (bt hbb hbd);go_wp2_with fail
    go_meet
    exact ⟨rfl,hb6⟩
   case rest =>
   obtain ⟨rfl,hbc⟩:=hcut;rw [HUU.out];obtain ⟨wd,hwd⟩:∃wx,wx=wc:=⟨_,rfl⟩;subst hwd;replace hbr2:=bt hbr2 hbc;replace hV2:=hV2.after hbc;clear hbc;obtain ⟨u2,hu2⟩:∃u,u=tU (VK 0) (VK 1) (VK 2):=⟨_,rfl⟩;obtain ⟨t,ht⟩:∃t,t=rT VK kk wk:=⟨_,rfl⟩;rw [←hu2,←ht];have HU2:=Lib.hid hu2;have HT2:=Lib.hid ht;clear hu2 ht;have HSH:=Lib.hid (rnd_set VK kk wk t u2 HT2.out HU2.out);replace hV2:=Blk.drewH hV2;replace hbr2:=hbr2.drew;have hRS:=setRow_blk (cs:=((u32f VK 8).toArray.toList.take 1++u32f VK 7++(u32f VK 8).toArray.toList.drop (1+(u32f VK 7).length)).toArray) hV2
   have hcp:=run_copy_row (P:=Tryz.prog) wd.drew 164 164 3 181 g7 1 7 7 ⟨g7,0,none⟩ 7 8 (u32f VK 8).toArray 206 (u32f VK 7) Tryz.underlying164 (by kernel_rfl) hV2 (by simp [u32f]) (fun j v hv=>by
    have hj:j<7:=by
     apply Classical.byContradiction
     intro hn;rw [List.getElem?_eq_none (by rw [u32f_len];omega)] at hv;cases hv
    rw [u32f_get _ hj] at hv;rw [show (⟨g7,0,none⟩:Addr).add j=⟨g7,j,none⟩ by unfold Addr.add;split <;> simp_all,hV2.cell,u32f_get _ (by omega)];exact hv) (by simp [u32f]) (fun v hv=>by
    obtain ⟨j,_,rfl⟩:=List.mem_map.1 hv;rfl)
   have e9:((u32f VK 8).toArray.toList.take 1++u32f VK 7++(u32f VK 8).toArray.toList.drop (1+(u32f VK 7).length)).toArray.toList=u32f (shf VK) 8:=shf_eq VK;rw [e9] at hRS;clear e9;have hBR:=setRow_below (cs:=((u32f VK 8).toArray.toList.take 1++u32f VK 7++(u32f VK 8).toArray.toList.drop (1+(u32f VK 7).length)).toArray) hbr2 HG7.out;generalize ((u32f VK 8).toArray.toList.take 1++u32f VK 7++(u32f VK 8).toArray.toList.drop (1+(u32f VK 7).length)).toArray=xs at hcp hRS hBR;generalize (u32f VK 7).length=nl at hcp;have hVl:=hV2.lt;clear hV2 hbr2;have s0:=hRS.cell 0;have s4:=hRS.cell 4;have f0:=hRS.free 0;have f4:=hRS.free 4;have hVl:=hRS.lt;rw [u32f_get _ (by omega)] at s0 s4;have hs4:shf VK 4=VK 3:=rfl;rw [hs4] at s4;clear hs4;generalize shf VK 0=z0 at s0;obtain ⟨z3,hz3⟩:∃y,y=VK 3:=⟨_,rfl⟩;rw [←hz3] at s4;have HZ3:=Lib.hid hz3;clear hz3;go_wp2_with fail
   go_region;go_wp2;go_roundw
   case rel =>
    refine ⟨k+1,by omega,by go_num,?_,(hBR.setCell HG7.out _).setCell HG7.out _⟩;exact Blk.setv (Blk.setv hRS (by rw [HZ3.out]) rfl) rfl (HSH.out.trans (u32f_congr fun j hj=>(HV3.out j hj).symm))
   case measure=>simp [intOf];omega
  ·obtain rfl:k=64:=by omega
   clear hlt hk hK hW;go_wp2;go_loopw [98] (fun i wr=>∃k:Nat,k≤8∧i=.int .i64 k∧Blk wr g7 206 (u32f (fP s S k) 8)∧Below w5.heap.size w5 wr) (fun i _=>8-(intOf i).toNat)
   case atStart=>exact ⟨0,by omega,rfl,by rw [fP_zero];exact hV,hbr⟩
   case round =>
    clear hV hbr;obtain ⟨k,hk,rfl,hV,hbr⟩:=hrel;obtain ⟨wp,hwp⟩:∃wp,wp=wr:=⟨_,rfl⟩;subst hwp;have hSr:=hS5.after hbr;by_cases hlt:k<8
    ·have c1:=fP_at hV hlt;have c2:wp.cell? ⟨g2,k,none⟩=some (.int .u32 (S k)):=by rw [hSr.cell,u32f_get _ hlt]
     have HSS:=Lib.hid (fP_set s S k);have HCM:Hid (cmp S s k=(vv s S 64 k+S k)%4294967296):=rfl;generalize vv s S 64 k=x at c1 HCM;generalize S k=y at c2 HCM;have f1:=hV.free k;have l1:=hV.lt;have l2:=hSr.lt;have k1:(0:Int)≤(k:Int):=by omega
     have k2:(k:Int)<8:=by omega
     go_wp2_with fail
     go_region;go_wp2;go_roundw
     case rel=>exact ⟨k+1,by omega,by go_num,Blk.drewH (Blk.setv hV (by rw [HCM.out]) HSS.out),(hbr.setCell HG7.out _).drew⟩
     case measure=>simp [intOf];omega
    ·obtain rfl:k=8:=by omega
     have hRr:=hR5.after hbr;have hBB:=bt hB5 hbr;go_upto_region 18 with fail
     apply wp_region_lit
     refine wpList_load_row rfl 206 (.tmp 7) rfl g7 rfl 206 _ (0,0) _ hV Tryz.underlying206 rfl (size_s8 _) ?_;refine wpList_store_row rfl 206 (.tmp 4) (.tmp 110) rfl g4 _ rfl rfl 206 _ hRr (size_s8 _) (by simp [u32f]) (u32f_one _ _) ?_;apply wpList_nil
     go_wp2;refine bodyPost_ret (v:=.agg (u32f (fP s S 8) 8).toArray) ?_ rfl ⟨?_,setRow_below hBB HG4.out⟩
     ·refine results_cell_row (p:=4) (ty:=206) rfl _ _ g4 206 _ (0,0) _ rfl (setRow_heap _ _ _ _ _ _ hRr) Tryz.underlying206 rfl (size_s8 _)
     ·rw [u32f_congr (f:=fP s S 8) (g:=cmp S s) fun j hj=>by rw [fP,if_pos hj]]
end
section
open Go.RowKit
theorem nats1 {w:World} {b c:Nat} {T:TypeId} (h:Blk w b T [.string (E c)]):NatsAt w b [c]:=NatsAt.of_blk (T:=T) h
theorem ints1 {w:World} {b:Nat} {x:Int} {T:TypeId} (h:Blk w b T [.bool (sg x),.string (E x.natAbs)]):IntsAt w b [x]:=by
 refine ⟨h.lt,fun j hj=>?_⟩;match j,hj with
 | 0,_=>exact ⟨h.cell 0,h.cell 1⟩
theorem nats2 {w:World} {b c g:Nat} {T:TypeId} (h:Blk w b T [.string (E c),.string (E g)]):NatsAt w b [c,g]:=NatsAt.of_blk (T:=T) h
theorem pw1_eq {p x:Nat} (z:Int) (hx:x<p):pw (prs p [x] [z]) 0%p=powI x z p:=by
 unfold powI prs bse;simp only [List.zipWith_cons_cons,List.zipWith_nil_left,pw,Nat.pow_zero,Nat.div_one,Nat.mul_one];rw [Nat.mod_eq_of_lt hx];split <;> rfl
theorem product1_c (p q c:Nat) (z:Int) (bl bz:Nat) (w:World) (hp:p<256^8) (hq:q<256^128) (he:grpE p q=0) (hc:hasB p q c=true) (hz:z.natAbs<256^128)
  (hL:Blk w bl 31 [.string (E c)]) (hZ:Blk w bz 37 [.bool (sg z),.string (E z.natAbs)]) :
  Calls Tryz.prog 72 #[.agg #[.string (E p),.string (E q)],.slice (some ⟨bl,0,none⟩) 1 1,.slice (some ⟨bz,0,none⟩) 1 1] w fun e w'=>e=.returned (.tuple #[.string (E (powI c z p)),.int .i64 0])∧Below w.heap.size w w':=by
 rw [←pw1_eq z (has_lt hc)]
 exact product_c p q bl bz 1 1 1 [c] [z] w hp hq he rfl rfl (by omega) (by omega) (by omega) (by omega) (by omega)
  (by intro x hx;simp at hx;subst hx;assumption) (by intro y hy;simp at hy;subst hy;assumption) (nats1 hL) (ints1 hZ)
end
section
open Go.RowKit Go.Shelf
theorem imodA_aux (b:Bool) (n m:Nat) (w:World) (hn:n<256^128) (hm:m<256^128) (h0:0<m) (hv:ivB b (E n)=true) (r:Nat) (hr:r=if b=true∧n%m≠0 then m-n%m else n%m) :
  Calls Tryz.prog 62 #[.agg #[.bool b,.string (E n)],.string (E m)] w fun e w'=>e=.returned (.tuple #[.string (E r),.int .i64 0])∧Below w.heap.size w w':=by
 have HN:=Lib.hid hn;have HM:=Lib.hid hm;have H0:=Lib.hid h0;have HV:=Lib.hid hv;have hz0:=nzE h0;have hA:=Blk.new w #[Value.bool b,Value.string (E n)] 37;have HLT:=Lib.hid (Nat.mod_lt n h0);clear hn hm h0 hv;cases b
 ·have HR:Hid (r=n%m):=by rw [Hid,hr];simp
  clear hr;go_enter Tryz.func62,Tryz.ntmps62
  go_wp2_with fail
  refine (ivalidT_c false n _ HN.out HV.out).mono ?_;rintro e w1 ⟨rfl,hb1⟩;replace hA:=hA.after hb1;obtain ⟨hAc0,hAf0,hAc1,hAf1⟩:=hA.x2;go_wp2_with fail
  refine (validE_c m _ HM.out).mono ?_;rintro e w' ⟨rfl,rfl⟩;go_wp2_with fail
  refine (divmodA_c n m _ HN.out HM.out H0.out).mono ?_;rintro e w2 ⟨rfl,hb2⟩;clear hAc0 hAf0 hAc1 hAf1;replace hA:=hA.after hb2;obtain ⟨hAc0,hAf0,hAc1,hAf1⟩:=hA.x2;go_wp2;go_ret2
  exact ⟨r2 (vE HR.out.symm) rfl,bt (bt (b1 _ _) hb1) hb2⟩
 ·by_cases hz:n%m=0
  ·have HR:Hid (r=n%m):=by rw [Hid,hr];simp [hz]
   have hzr:=zE hz;clear hr hz;go_enter Tryz.func62,Tryz.ntmps62
   go_wp2_with fail
   refine (ivalidT_c true n _ HN.out HV.out).mono ?_;rintro e w1 ⟨rfl,hb1⟩;replace hA:=hA.after hb1;obtain ⟨hAc0,hAf0,hAc1,hAf1⟩:=hA.x2;go_wp2_with fail
   refine (validE_c m _ HM.out).mono ?_;rintro e w' ⟨rfl,rfl⟩;go_wp2_with fail
   refine (divmodA_c n m _ HN.out HM.out H0.out).mono ?_;rintro e w2 ⟨rfl,hb2⟩;clear hAc0 hAf0 hAc1 hAf1;replace hA:=hA.after hb2;obtain ⟨hAc0,hAf0,hAc1,hAf1⟩:=hA.x2;go_wp2;go_ret2
   exact ⟨r2 (vE HR.out.symm) rfl,bt (bt (b1 _ _) hb1) hb2⟩
  ·have HR:Hid (r=m-n%m):=by rw [Hid,hr];simp [hz]
   have hzr:=nzE (Nat.pos_of_ne_zero hz);clear hr hz;go_enter Tryz.func62,Tryz.ntmps62
   go_wp2_with fail
   refine (ivalidT_c true n _ HN.out HV.out).mono ?_;rintro e w1 ⟨rfl,hb1⟩;replace hA:=hA.after hb1;obtain ⟨hAc0,hAf0,hAc1,hAf1⟩:=hA.x2;go_wp2_with fail
   refine (validE_c m _ HM.out).mono ?_;rintro e w' ⟨rfl,rfl⟩;go_wp2_with fail
   refine (divmodA_c n m _ HN.out HM.out H0.out).mono ?_;rintro e w2 ⟨rfl,hb2⟩;clear hAc0 hAf0 hAc1 hAf1;replace hA:=hA.after hb2;obtain ⟨hAc0,hAf0,hAc1,hAf1⟩:=hA.x2;go_wp2_with fail
   refine (sub_c m (n%m) _ HM.out (Nat.le_of_lt HLT.out)).mono ?_;rintro e w3 ⟨rfl,hb3⟩;go_wp2;go_ret2
   exact ⟨r2 (vE HR.out.symm) rfl,bt (bt (bt (b1 _ _) hb1) hb2) hb3⟩
theorem imodA_c (z:Int) (m:Nat) (w:World) (hz:z.natAbs<256^128) (hm:m<256^128) (h0:0<m) :
  Calls Tryz.prog 62 #[.agg #[.bool (sg (z)),.string (E (z).natAbs)],.string (E m)] w fun e w'=>e=.returned (.tuple #[.string (E (z%(m:Int)).toNat),.int .i64 0])∧Below w.heap.size w w':=
 imodA_aux (sg z) z.natAbs m w hz hm h0 (ivB_I z hz) _ (emod_if z m h0)
end
end Go.Proofs.YtdoacbdkbbpamaaGreatDoor
