import Derived.Test.YtfgandecbkbleaaGreatDoorIdxG
import Derived.Test.YtfgandecbkbleaaGreatDoorLg4
import Derived.Test.YtfgandecbkbleaaGreatDoorLdvl
import Derived.Carry
import Derived.ChangeSlices
import Derived.WideKeyArgs
import Derived.Deep.Slices
set_option linter.unusedVariables false
set_option linter.unusedSimpArgs false
set_option maxRecDepth 100000
set_option maxHeartbeats 16000000
namespace Go.Proofs.YtfgandecbkbleaaGreatDoor
section
open Go.RowKit Go.Shelf
structure Opn where
 vn:Bool
 va:ByteArray
 rn:Bool
 ra:ByteArray
def QOpn (_:World) (x:Opn) (cs:List Value):Prop:=cs=[.bool x.vn,.string x.va,.bool x.rn,.string x.ra]
def OsAt:=RAt QOpn 4
theorem OsAt.after {w w':World} {v:Value} {l:List Opn} (h:OsAt w v l) (hb:Below w.heap.size w w'):OsAt w' v l:=RAt.after h hb (fun _ _ h=>h)
theorem OsAt.at_ {w:World} {ao:Option Addr} {n c k:Nat} {l:List Opn} (h:OsAt w (.slice ao n c) l) (hk:k<l.length):∃b o,ao=some ⟨b,o,none⟩∧b<w.heap.size∧w.cell? ⟨b,o+k*4,none⟩=some (.bool l[k].vn)∧w.cell? ⟨b,o+k*4+1,none⟩=some (.string l[k].va)∧w.cell? ⟨b,o+k*4+2,none⟩=some (.bool l[k].rn)∧w.cell? ⟨b,o+k*4+3,none⟩=some (.string l[k].ra):=by
 obtain ⟨b,o,cs,h1,h2,h3,h4⟩:=RAt.at_ h hk;have e0:=h4 0 (by omega);have e1:=h4 1 (by omega);have e2:=h4 2 (by omega);have e3:=h4 3 (by omega);rw [h3] at e0 e1 e2 e3;exact ⟨b,o,h1,h2,by simpa using e0,by simpa using e1,by simpa using e2,by simpa using e3⟩
def szO (x:Opn):Bool:=decide (x.va.size≤12)&&decide (x.ra.size≤12)
def ofw (L:List Opn):Bool:=L.all szO&&decide (L.length≤6)
theorem l27openings_c (L:List Opn) (v:Value) (w:World) (hn:L.length≤9223372036854775807) (hs:∀x∈L,x.va.size≤9223372036854775807∧x.ra.size≤9223372036854775807) (hR:OsAt w v L) :
  Calls Tryz.prog 9 #[v] w fun e w'=>e=.returned (.bool (ofw L))∧Below w.heap.size w w':=by
 obtain ⟨ao,c,rfl⟩:=RAt.form hR;obtain ⟨r,hr⟩:∃r,r=ofw L:=⟨_,rfl⟩;rw [←hr];have HR:=Lib.hid hr;obtain ⟨m,hm⟩:∃m,m=L.length:=⟨_,rfl⟩;have HM:=Lib.hid hm;rw [←hm] at hR hn ⊢;have HS:=Lib.hid hs;clear hr hm hs;go_enter Tryz.func9,Tryz.ntmps9
 go_wp2;go_loopw [3] (fun i wr=>∃k:Nat,k≤m∧k≤10∧i=.int .i64 k∧Hid ((L.take k).all szO=true)∧Below w.heap.size w wr) (fun i _=>m-(intOf i).toNat)
 case atStart=>exact ⟨0,by omega,by omega,rfl,rfl,Below.refl _ _⟩
 case round =>
  obtain ⟨k,hk,hk20,rfl,HK,hbr⟩:=hrel;obtain ⟨wp,hwp⟩:∃wp,wp=wr:=⟨_,rfl⟩;subst hwp;have hRp:=OsAt.after hR hbr;by_cases hlt:k<m
  ·by_cases h20:k<10
   ·have hkl:k<L.length:=by rw [←HM.out];exact hlt
    obtain ⟨b,o,rfl,hb,x1,x2,x3,x4⟩:=OsAt.at_ hRp hkl;have hsz:=HS.out _ (List.getElem_mem hkl);have h0k:(0:Int)≤(k:Int):=by omega
    have h1k:(k:Int)<(m:Int):=by omega
    have h2k:(k:Int)<10:=by omega
    have HT:=Lib.hid (all_take szO L k hkl);have HB:Hid (szO L[k]=false→ofw L=false):=fun h=>by unfold ofw;rw [all_bad szO L k hkl h];rfl
    have HO:Hid (∀w,Calls Tryz.prog 37 #[.agg #[.bool L[k].vn,.string L[k].va,.bool L[k].rn,.string L[k].ra]] w fun e w'=>e=.returned (.bool (szO L[k]))∧Below w.heap.size w w'):=fun w=>l27opening_c _ _ _ _ w hsz.1 hsz.2
    generalize szO (L[k]'hkl)=q at HT HB HO;generalize (L[k]'hkl)=s at x1 x2 x3 x4 hsz HO;go_wp2_with fail
    refine (HO.out _).mono ?_;rintro e w2 ⟨rfl,hb2⟩;have hbn:=bt hbr hb2;cases q
    ·have HF:Hid (r=false):=by rw [Hid,HR.out];exact HB.out rfl
     go_wp2;go_ret
     exact ⟨by first | (rw [HF.out];done) | (rw [HF.out];rfl),hbn⟩
    ·have HX:Hid ((L.take (k+1)).all szO=true):=by rw [Hid,HT.out,HK.out];rfl
     go_wp2;go_roundw
     case rel=>exact ⟨k+1,by omega,by omega,by go_num,HX,hbn⟩
     case measure=>simp [intOf];omega
   ·have hk2:k=10:=by omega
    have HF:Hid (r=false):=by
     rw [Hid,HR.out,ofw,decide_eq_false (show ¬ L.length≤6 by have:=HM.out;omega),Bool.and_false]
    have h1k:(k:Int)<(m:Int):=by omega
    have hq:decide ((m:Int)≤6)=false:=decide_eq_false (by omega);subst hk2;clear h20 hk20;go_wp2;go_ret
    exact ⟨by first | (rw [HF.out];done) | (rw [HF.out];rfl),hbr⟩
  ·obtain rfl:k=m:=by omega
   have HF:Hid (r=decide (k≤6)):=by
    rw [Hid,HR.out,ofw,all_end szO L k HM.out HK.out,←HM.out];rfl
   have hq:decide ((k:Int)≤6)=decide (k≤6):=by rw [Bool.eq_iff_iff];simp;omega
   clear hk20;go_wp2;go_ret
   exact ⟨by first | (rw [HF.out];done) | (rw [HF.out];rfl),hbr⟩
end
section
/- A bounded integer,openings,a tape,numbers as arguments: opened into what their slices read. -/
open Go.RowKit Go.WideShapes Go.ChangeShapes Go.ChangeAt Go.Joins Go.Deep
open Go.ChangeMaps (open_string shut_string)
theorem laid_out:laidOutB Tryz.prog=true:=by kernel_rfl
theorem list1 {α:Type} {l:List α} (h:l.length=1):∃a,l=[a]:=by
 match l,h with
 | [a],_=>exact ⟨a,rfl⟩
theorem list2 {α:Type} {l:List α} (h:l.length=2):∃a b,l=[a,b]:=by
 match l,h with
 | [a,b],_=>exact ⟨a,b,rfl⟩
theorem list4 {α:Type} {l:List α} (h:l.length=4):∃a b c d,l=[a,b,c,d]:=by
 match l,h with
 | [a,b,c,d],_=>exact ⟨a,b,c,d,rfl⟩
theorem array3 {α:Type} {l:Array α} (h:l.size=3):∃a b c,l=#[a,b,c]:=by
 obtain ⟨l⟩:=l;match l,h with
 | [a,b,c],_=>exact ⟨a,b,c,rfl⟩
theorem array11 {α:Type} {l:Array α} (h:l.size=11):∃a b c d e f g i j k m,l=#[a,b,c,d,e,f,g,i,j,k,m]:=by
 obtain ⟨l⟩:=l;match l,h with
 | [a,b,c,d,e,f,g,i,j,k,m],_=>exact ⟨a,b,c,d,e,f,g,i,j,k,m,rfl⟩
theorem zNat:Tryz.prog.cellsOf 22=1:=by kernel_rfl
theorem zGrp:Tryz.prog.cellsOf 24=2:=by kernel_rfl
theorem zInt:Tryz.prog.cellsOf 28=2:=by kernel_rfl
theorem zPed:Tryz.prog.cellsOf 26=4:=by kernel_rfl
theorem zOpn:Tryz.prog.cellsOf 30=4:=by kernel_rfl
theorem zBnd:Tryz.prog.cellsOf 32=11:=by kernel_rfl
theorem zi64:Tryz.prog.cellsOf 3=1:=by kernel_rfl
theorem zB:Tryz.prog.cellsOf 4=1:=by kernel_rfl
theorem zNs:Tryz.prog.cellsOf 45=1:=by kernel_rfl
theorem zTape:Tryz.prog.cellsOf 47=3:=by kernel_rfl
theorem zStr:Tryz.prog.cellsOf 9=1:=by kernel_rfl
section
variable {H:Type} {enc:TypeId × Value→H} {w:World} {base:Nat} {held:Bool}
theorem trod_struct5 {P:Program} {spare:Nat→Bool} {t:TypeId} {f0 f1 f2 f3 f4:Field} {fuel:Nat} {cs:List Value} {x:DataW H × List MemPlace} (ht:P.underlying t=some (.struct #[f0,f1,f2,f3,f4])) (h:DataW.trod enc P w base spare held fuel t cs=some x) :
  ∃(y0 y1 y2 y3 y4:DataW H × List MemPlace) (n:Nat),True∧cs.length=P.cellsOf t∧DataW.trod enc P w base spare held n f0.type ((cs.drop f0.offset).take (P.cellsOf f0.type))=some y0 ∧
   DataW.trod enc P w base spare held n f1.type ((cs.drop f1.offset).take (P.cellsOf f1.type))=some y1∧DataW.trod enc P w base spare held n f2.type ((cs.drop f2.offset).take (P.cellsOf f2.type))=some y2 ∧
   DataW.trod enc P w base spare held n f3.type ((cs.drop f3.offset).take (P.cellsOf f3.type))=some y3∧DataW.trod enc P w base spare held n f4.type ((cs.drop f4.offset).take (P.cellsOf f4.type))=some y4:=by
 obtain ⟨xs,n,_,rfl,hl,hlen,hf⟩:=DataW.trod_struct ht h;match xs,hlen with
 | [y0,y1,y2,y3,y4],_=>exact ⟨y0,y1,y2,y3,y4,n,trivial,hl,by simpa using hf 0 f0 rfl,by simpa using hf 1 f1 rfl,by simpa using hf 2 f2 rfl,by simpa using hf 3 f3 rfl,by simpa using hf 4 f4 rfl⟩
theorem row_of {α:Type} {Q:World→α→List Value→Prop} {Sz:α→Prop} (d:α) {size fuel:Nat} {t e:TypeId} {cs:List Value} {x:DataW H × List MemPlace} (ht:Tryz.prog.underlying t=some (.slice e)) (hc:Tryz.prog.cellsOf e=size) (h0:0<size)
  (h:DataW.trod enc Tryz.prog w base (fun _=>true) held fuel t cs=some x)
  (elem:∀n cs' y,cs'.length=size→DataW.trod enc Tryz.prog w base (fun _=>true) held n e cs'=some y→∃a,Q w a cs'∧Sz a) :
  ∃ao n c l,cs=[.slice ao n c]∧RAt Q size w (.slice ao n c) l∧(∀a∈l,Sz a)∧l.length≤maxLen:=by
 rcases open_slice ht h with ⟨rfl,_⟩ | ⟨a,len,cap,m,n,D,Pl,rfl,hb,hl,hm,hmm,_,hel⟩
 ·exact ⟨none,0,0,[],rfl,⟨none,0,rfl,.inl rfl⟩,by simp,by simp⟩
 ·rw [if_pos rfl] at hmm;subst hmm;rw [hc] at hel;haveI:Inhabited α:=⟨d⟩
  obtain ⟨f,hf⟩:=choose_lt (α:=α) (n:=len) (p:=fun i y=>∃cs',w.cells? base (a.add (i*size)) size=some cs'∧Q w y cs'∧Sz y) (fun i hi=>by
   obtain ⟨cs',h1,h2⟩:=hel i (by omega);obtain ⟨y,hy1,hy2⟩:=elem n cs' _ (World.cells?_some h1).2.1 h2;exact ⟨y,cs',h1,hy1,hy2⟩)
  have hlen:((List.range len).map f).length=len:=by simp
  refine ⟨some a,len,m,(List.range len).map f,rfl,⟨some a,m,by rw [hlen],?_⟩,fun y hy=>?_,by rw [hlen];omega⟩
  ·by_cases hl0:len=0
   ·exact .inl (by rw [hlen];exact hl0)
   ·obtain ⟨b,off,spot⟩:=a;obtain ⟨cs0,g1,_⟩:=hf 0 (by omega);obtain ⟨_,g2,g3⟩:=World.cells?_some g1;have g4:=g3 0 h0;have g5:0<cs0.length:=by omega
    rw [List.getElem?_eq_getElem g5] at g4;have hspot:spot=none:=by simpa [Addr.add] using World.cell?_spot g4
    subst hspot;refine .inr ⟨b,off,rfl,?_,fun j hj=>?_⟩
    ·rw [add_plain,add_plain] at g4;apply Classical.byContradiction
     intro hge;have hnone:w.heap[b]?=none:=by simpa using hge
     simp [World.cell?,hnone] at g4
    ·obtain ⟨cs',k1,k2,_⟩:=hf j (by rw [←hlen];exact hj);refine ⟨cs',by simpa using k2,fun i hi=>?_⟩;have:=(World.cells?_some k1).2.2 i hi;rw [add_plain,add_plain] at this;exact this
  ·obtain ⟨j,hj,rfl⟩:=List.mem_map.1 hy;obtain ⟨cs',_,_,hz⟩:=hf j (List.mem_range.1 hj);exact hz
theorem el_nat {n:Nat} {cs:List Value} {y:DataW H × List MemPlace} (hl:cs.length=1) (h:DataW.trod enc Tryz.prog w base (fun _=>true) held n 22 cs=some y):∃a,QStr w a cs∧a.size≤maxLen:=by
 obtain ⟨s,rfl,_,hs⟩:=DataW.trod_string Tryz.underlying22 h;exact ⟨s,rfl,hs⟩
theorem el_opn {n:Nat} {cs:List Value} {y:DataW H × List MemPlace} (hl:cs.length=4) (h:DataW.trod enc Tryz.prog w base (fun _=>true) held n 30 cs=some y):∃a:Opn,QOpn w a cs∧a.va.size≤maxLen∧a.ra.size≤maxLen:=by
 obtain ⟨c0,c1,c2,c3,rfl⟩:=list4 hl;obtain ⟨y0,y1,m,_,_,h0,h1⟩:=trod_struct2 Tryz.underlying30 h;obtain ⟨z0,z1,m',_,_,g0,g1⟩:=trod_struct2 Tryz.underlying28 h0;obtain ⟨x0,x1,m2,_,_,k0,k1⟩:=trod_struct2 Tryz.underlying28 h1;obtain ⟨b,hb,_⟩:=DataW.trod_bool Tryz.underlying4 g0;obtain ⟨s,hs,_,hz⟩:=DataW.trod_string Tryz.underlying22 g1;obtain ⟨b',hb',_⟩:=DataW.trod_bool Tryz.underlying4 k0;obtain ⟨s',hs',_,hz'⟩:=DataW.trod_string Tryz.underlying22 k1;simp [zNat,zB,zInt] at hs hb hb' hs';subst hs hb hb' hs';exact ⟨⟨b,s,b',s'⟩,rfl,hz,hz'⟩
theorem open_bnd {r:Reach} {b0:Nat} {v:Value} {d:DataW H} {p:List MemPlace} (hv:Value.okWide Tryz.prog w r b0 32 v) (h:DataW.Trod enc Tryz.prog w base (fun _=>true) held 32 v d p) :
  ∃(a b c d:ByteArray) (lo:Int) (vn:Bool) (va:ByteArray) (rn:Bool) (ra vl rd:ByteArray),
   v=.agg #[.string a,.string b,.string c,.string d,.int .i64 lo,.bool vn,.string va,.bool rn,.string ra,.string vl,.string rd]∧va.size≤9223372036854775807∧ra.size≤9223372036854775807:=by
 obtain ⟨cs,rfl,hsz⟩:=okWide_struct Tryz.underlying32 hv;obtain ⟨c0,c1,c2,c3,c4,c5,c6,c7,c8,c9,c10,rfl⟩:=array11 (hsz.trans zBnd);obtain ⟨fuel,hf⟩:=h;obtain ⟨y0,y1,y2,y3,y4,m,_,_,h0,h1,h2,h3,h4⟩:=trod_struct5 Tryz.underlying32 hf;simp only [Value.cells,zPed,zOpn,zNat,zi64,List.drop_succ_cons,List.drop_zero,List.take_succ_cons,List.take_zero] at h0 h1 h2 h3 h4;obtain ⟨_,_,_,m0,_,_,k0,k1,k2⟩:=trod_struct3 Tryz.underlying26 h0;obtain ⟨_,_,m1,_,_,o0,o1⟩:=trod_struct2 Tryz.underlying30 h2;simp only [zGrp,zNat,zInt,List.drop_succ_cons,List.drop_zero,List.take_succ_cons,List.take_zero] at k0 k1 k2 o0 o1;obtain ⟨_,_,m2,_,_,g0,g1⟩:=trod_struct2 Tryz.underlying24 k0;obtain ⟨_,_,m3,_,_,i0,i1⟩:=trod_struct2 Tryz.underlying28 o0;obtain ⟨_,_,m4,_,_,j0,j1⟩:=trod_struct2 Tryz.underlying28 o1;simp only [zNat,zB,List.drop_succ_cons,List.drop_zero,List.take_succ_cons,List.take_zero] at g0 g1 i0 i1 j0 j1;obtain ⟨a,ha,_,sa⟩:=DataW.trod_string Tryz.underlying22 g0;obtain ⟨b,hb,_,sb⟩:=DataW.trod_string Tryz.underlying22 g1;obtain ⟨c,hc,_,sc⟩:=DataW.trod_string Tryz.underlying22 k1;obtain ⟨d,hd,_,sd⟩:=DataW.trod_string Tryz.underlying22 k2;obtain ⟨lo,hlo,_⟩:=DataW.trod_int Tryz.underlying3 h1;obtain ⟨vn,hvn,_⟩:=DataW.trod_bool Tryz.underlying4 i0;obtain ⟨va,hva,_,sva⟩:=DataW.trod_string Tryz.underlying22 i1;obtain ⟨rn,hrn,_⟩:=DataW.trod_bool Tryz.underlying4 j0;obtain ⟨ra,hra,_,sra⟩:=DataW.trod_string Tryz.underlying22 j1;obtain ⟨vl,hvl,_,svl⟩:=DataW.trod_string Tryz.underlying22 h3;obtain ⟨rd,hrd,_,srd⟩:=DataW.trod_string Tryz.underlying22 h4;simp only [List.cons.injEq,and_true] at ha hb hc hd hlo hvn hva hrn hra hvl hrd;subst ha hb hc hd hlo hvn hva hrn hra hvl hrd;unfold maxLen at sva sra;exact ⟨a,b,c,d,lo,vn,va,rn,ra,vl,rd,rfl,sva,sra⟩
theorem open_opns {r:Reach} {b0:Nat} {v:Value} {d:DataW H} {p:List MemPlace} (hv:Value.okWide Tryz.prog w r b0 33 v) (h:DataW.Trod enc Tryz.prog w base (fun _=>true) held 33 v d p) :
  ∃(L:List Opn) (po:Option Addr) (np pc:Nat),v=.slice po np pc∧L.length≤9223372036854775807∧(∀x∈L,x.va.size≤9223372036854775807∧x.ra.size≤9223372036854775807)∧OsAt w (.slice po np pc) L:=by
 obtain ⟨a0,len,cap,rfl⟩:=okWide_slice Tryz.underlying33 hv;obtain ⟨fuel,hf⟩:=h;obtain ⟨a,n,c,l,hc,hr,hs,hl⟩:=row_of (Q:=QOpn) (Sz:=fun a:Opn=>a.va.size≤maxLen∧a.ra.size≤maxLen) ⟨false,⟨#[]⟩,false,⟨#[]⟩⟩ Tryz.underlying33 zOpn (by decide) hf (fun n cs' y hl h=>el_opn hl h);simp [Value.cells] at hc;obtain ⟨rfl,rfl,rfl⟩:=hc;unfold maxLen at hs hl;exact ⟨l,_,_,_,rfl,hl,hs,hr⟩
theorem open_tape {r:Reach} {b0:Nat} {v:Value} {d:DataW H} {p:List MemPlace} (hv:Value.okWide Tryz.prog w r b0 47 v) (h:DataW.Trod enc Tryz.prog w base (fun _=>true) held 47 v d p) :
  ∃(V:List ByteArray) (sd:ByteArray) (ti:Int) (st:Option Addr) (mt dt:Nat),v=.agg #[.slice st mt dt,.string sd,.int .i64 ti]∧(∀x∈V,x.size≤9223372036854775807)∧sd.size≤9223372036854775807∧V.length≤9223372036854775807∧SsAt w (.slice st mt dt) V:=by
 obtain ⟨cs,rfl,hsz⟩:=okWide_struct Tryz.underlying47 hv;obtain ⟨c0,c1,c2,rfl⟩:=array3 (hsz.trans zTape);obtain ⟨fuel,hf⟩:=h;obtain ⟨_,_,_,m2,_,_,a0,a1,a2⟩:=trod_struct3 Tryz.underlying47 hf;simp only [Value.cells,zNs,zStr,zi64,List.drop_succ_cons,List.drop_zero,List.take_succ_cons,List.take_zero] at a0 a1 a2;obtain ⟨sd,hsd,_,ssd⟩:=DataW.trod_string Tryz.underlying9 a1;obtain ⟨ti,hti,_⟩:=DataW.trod_int Tryz.underlying3 a2;obtain ⟨f1,f2,f3,TV,hTV,rTV,sTV,lTV⟩:=row_of (Q:=QStr) (Sz:=fun a=>a.size≤maxLen) ⟨#[]⟩ Tryz.underlying45 zNat (by decide) a0 (fun n cs' y hl h=>el_nat hl h);simp only [List.cons.injEq,and_true] at hsd hti hTV;subst hsd hti hTV;unfold maxLen at ssd sTV lTV;exact ⟨TV,sd,ti,_,_,_,rfl,sTV,ssd,lTV,rTV⟩
theorem open_nats {r:Reach} {b0:Nat} {v:Value} {d:DataW H} {p:List MemPlace} (hv:Value.okWide Tryz.prog w r b0 45 v) (h:DataW.Trod enc Tryz.prog w base (fun _=>true) held 45 v d p) :
  ∃(L:List ByteArray) (po:Option Addr) (np pc:Nat),v=.slice po np pc∧L.length≤9223372036854775807∧(∀x∈L,x.size≤9223372036854775807)∧SsAt w (.slice po np pc) L:=by
 obtain ⟨a0,len,cap,rfl⟩:=okWide_slice Tryz.underlying45 hv;obtain ⟨fuel,hf⟩:=h;obtain ⟨a,n,c,l,hc,hr,hs,hl⟩:=row_of (Q:=QStr) (Sz:=fun a=>a.size≤maxLen) ⟨#[]⟩ Tryz.underlying45 zNat (by decide) hf (fun n cs' y hl h=>el_nat hl h);simp [Value.cells] at hc;obtain ⟨rfl,rfl,rfl⟩:=hc;unfold maxLen at hs hl;exact ⟨l,_,_,_,rfl,hl,hs,hr⟩
end
end
section
/- Small functions of squarerange and of ref27. -/
open Go.RowKit Go.Shelf
def term1 (s:ByteArray) (v:Int):Value:=.agg #[.string s,.int .i64 v,.bool false,.string (E 1)]
theorem sqterm_c (s:ByteArray) (v:Int) (w:World) :
  Calls Tryz.prog 59 #[.string s,.int .i64 v] w fun e w'=>e=.returned (term1 s v)∧Below w.heap.size w w':=by
 unfold term1;rw [E_one];go_enter Tryz.func59,Tryz.ntmps59
 go_wp2;refine bodyPost_ret (v:=.agg #[.string s,.int .i64 v,.bool false,.string ⟨#[1]⟩]) ?_ rfl ⟨rfl,b1 _ _⟩;have hB:=Blk.new w #[Value.string s,Value.int .i64 v,.bool false,.string ⟨#[1]⟩] 118;have hl:=hB.lt;obtain ⟨hBc0,hBf0,hBc1,hBf1,hBc2,hBf2,hBc3,hBf3⟩:=hB.x4;simp [results,Tryz.results59,go_sem,hBc0,hBc1,hBc2,hBc3,hl]
theorem r27term_c (s:ByteArray) (v:Int) (w:World) :
  Calls Tryz.prog 66 #[.string s,.int .i64 v] w fun e w'=>e=.returned (term1 s v)∧Below w.heap.size w w':=by
 unfold term1;have HO:Hid (∀w,Calls Tryz.prog 52 #[.int .i64 1] w fun e w'=>e=.returned (.agg #[.bool false,.string (E 1)])∧Below w.heap.size w w'):=fun w=>riof_c 1 w (by decide) (by decide)
 generalize E 1=one at HO ⊢;have hB:=Blk.new w #[Value.string ⟨#[]⟩,Value.int .i64 0,.bool false,.string ⟨#[]⟩] 118;have hBW:=b1 w (.cells #[Value.string ⟨#[]⟩,Value.int .i64 0,.bool false,.string ⟨#[]⟩] 118);go_enter Tryz.func66,Tryz.ntmps66
 go_wp2_with fail
 refine (HO.out _).mono ?_;rintro e w1 ⟨rfl,hb⟩;have hB2:=hB.after hb;have hBW2:=bt hBW hb;have hl:=hB2.lt;clear hB hb hBW;obtain ⟨hB2c0,hB2f0,hB2c1,hB2f1,hB2c2,hB2f2,hB2c3,hB2f3⟩:=hB2.x4;go_wp2;refine bodyPost_ret (v:=.agg #[.string s,.int .i64 v,.bool false,.string one]) ?_ rfl ?_
 ·simp [results,Tryz.results66,go_sem,hB2c0,hB2c1,hB2c2,hB2c3,hB2f0,hB2f1,hB2f2,hB2f3,hl]
 ·exact ⟨rfl,(((hBW2.setCell (Nat.le_refl _) _).setCell (Nat.le_refl _) _).setCell (Nat.le_refl _) _).setCell (Nat.le_refl _) _⟩
theorem sqequation_c (t:ByteArray) (ao:Option Addr) (n c:Nat) (w:World) :
  Calls Tryz.prog 58 #[.string t,.slice ao n c] w fun e w'=>e=.returned (.agg #[.int .i64 0,.string t,.slice ao n c])∧Below w.heap.size w w':=by
 go_enter Tryz.func58,Tryz.ntmps58
 go_wp2;refine bodyPost_ret (v:=.agg #[.int .i64 0,.string t,.slice ao n c]) ?_ rfl ⟨rfl,b1 _ _⟩;have hB:=Blk.new w #[Value.int .i64 0,Value.string t,.slice ao n c] 115;have hl:=hB.lt;obtain ⟨hBc0,hBf0,hBc1,hBf1,hBc2,hBf2⟩:=hB.x3;simp [results,Tryz.results58,go_sem,hBc0,hBc1,hBc2,hl]
theorem r27openingB_c (a b:Bool) (s t:ByteArray) (w:World) (hs:s.size≤1000) (ht:t.size≤1000) :
  Calls Tryz.prog 44 #[.agg #[.bool a,.string s,.bool b,.string t]] w fun e w'=>e=.returned (.bool (ivB a s&&ivB b t))∧Below w.heap.size w w':=by
 obtain ⟨r1,hr1⟩:∃r1,ivB a s=r1:=⟨_,rfl⟩;obtain ⟨r2,hr2⟩:∃r2,ivB b t=r2:=⟨_,rfl⟩;rw [hr1,hr2];have H1:Hid (∀w,Calls Tryz.prog 73 #[.agg #[.bool a,.string s]] w fun e w'=>e=.returned (.bool r1)∧Below w.heap.size w w'):=fun w=>rivalB_c a s r1 w hs hr1
 have H2:Hid (∀w,Calls Tryz.prog 73 #[.agg #[.bool b,.string t]] w fun e w'=>e=.returned (.bool r2)∧Below w.heap.size w w'):=fun w=>rivalB_c b t r2 w ht hr2
 have hB:=Blk.new w #[Value.bool a,Value.string s,Value.bool b,Value.string t] 30;have hBW:=b1 w (.cells #[Value.bool a,Value.string s,Value.bool b,Value.string t] 30);clear hs ht hr1 hr2;cases r1
 ·
  obtain ⟨hBc0,hBf0,hBc1,hBf1,hBc2,hBf2,hBc3,hBf3⟩:=hB.x4;go_enter Tryz.func44,Tryz.ntmps44
  go_wp2_with fail
  refine (H1.out _).mono ?_;rintro e w1 ⟨rfl,hb1⟩;go_wp2;go_ret
  exact ⟨rfl,bt hBW hb1⟩
 ·
  obtain ⟨hBc0,hBf0,hBc1,hBf1,hBc2,hBf2,hBc3,hBf3⟩:=hB.x4;go_enter Tryz.func44,Tryz.ntmps44
  go_wp2_with fail
  refine (H1.out _).mono ?_;rintro e w1 ⟨rfl,hb1⟩;clear hBc0 hBf0 hBc1 hBf1 hBc2 hBf2 hBc3 hBf3;replace hB:=hB.after hb1;replace hBW:=bt hBW hb1;obtain ⟨hBc0,hBf0,hBc1,hBf1,hBc2,hBf2,hBc3,hBf3⟩:=hB.x4;go_wp2_with fail
  refine (H2.out _).mono ?_;rintro e w2 ⟨rfl,hb2⟩;go_wp2;go_ret
  exact ⟨by cases r2 <;> rfl,bt hBW hb2⟩
end
section
/- dominoref02.Small at any integer. -/
open Go.RowKit Go.Shelf
theorem rsm27a_c (n:Nat) (w:World) (h:n<256^8) :
  Calls Tryz.prog 85 #[.string (E n)] w fun e w'=>e=.returned (.tuple #[.int .u64 n,.bool true])∧w=w':=by
 have hs:=(E_size_le n 8).2 h;have e1:decide ((8:Int)<((E n).size:Int))=false:=decide_eq_false (by omega);have HV:Hid (∀w,Calls Tryz.prog 50 #[.string (E n)] w fun e w'=>e=.returned (.bool true)∧w=w'):=fun w=>rvalidE_c n w (Nat.lt_of_lt_of_le h (Nat.pow_le_pow_right (by decide) (by decide)))
 have HU:Hid (∀w,Calls Tryz.prog 127 #[.string (E n)] w fun e w'=>e=.returned (.int .u64 n)∧w=w'):=fun w=>ru64_c n w h
 generalize E n=s at e1 HV HU hs ⊢;clear h;go_enter Tryz.func85,Tryz.ntmps85
 go_wp2_with fail
 refine (HV.out _).mono ?_;rintro e w1 ⟨rfl,rfl⟩;go_wp2_with fail
 refine (HU.out _).mono ?_;rintro e w2 ⟨rfl,rfl⟩;go_wp2;go_ret2
 exact ⟨rfl,rfl⟩
theorem rsm27b_c (n:Nat) (w:World) (h:256^8≤n) (h2:n<256^128) :
  Calls Tryz.prog 85 #[.string (E n)] w fun e w'=>e=.returned (.tuple #[.int .u64 0,.bool false])∧w=w':=by
 have hs:8<(E n).size:=by
  apply Classical.byContradiction
  intro hn;have:=(E_size_le n 8).1 (by omega);omega
 have e1:decide ((8:Int)<((E n).size:Int))=true:=decide_eq_true (by omega);have HV:Hid (∀w,Calls Tryz.prog 50 #[.string (E n)] w fun e w'=>e=.returned (.bool true)∧w=w'):=fun w=>rvalidE_c n w h2
 generalize E n=s at e1 HV hs ⊢;clear h h2;go_enter Tryz.func85,Tryz.ntmps85
 go_wp2_with fail
 refine (HV.out _).mono ?_;rintro e w1 ⟨rfl,rfl⟩;go_wp2;go_ret2
 exact ⟨rfl,rfl⟩
def sm64 (z:Int):Int:=if -9223372036854775808≤z∧z≤9223372036854775807 then z else 0
def sm64B (z:Int):Bool:=decide (-9223372036854775808≤z∧z≤9223372036854775807)
theorem rsm27_c (z:Int) (w:World) (h:z.natAbs<256^128) :
  Calls Tryz.prog 35 #[.agg #[.bool (sg (z)),.string (E (z).natAbs)]] w fun e w'=>e=.returned (.tuple #[.int .i64 (sm64 z),.bool (sm64B z)])∧Below w.heap.size w w':=by
 have HV:Hid (∀w,Calls Tryz.prog 73 #[.agg #[.bool (sg (z)),.string (E (z).natAbs)]] w fun e w'=>e=.returned (.bool true)∧Below w.heap.size w w'):=fun w=>rivalB_c (sg z) (E z.natAbs) true w (by have:=sz z.natAbs h;omega) (ivB_I z h)
 have hP:=Blk.new w #[.bool (sg z),.string (E z.natAbs)] 28;have hBW:=b1 w (.cells #[.bool (sg z),.string (E z.natAbs)] 28);obtain ⟨n,hzn⟩:∃n,n=z.natAbs:=⟨_,rfl⟩;by_cases hn:n<256^8
 ·have HS:Hid (∀w,Calls Tryz.prog 85 #[.string (E n)] w fun e w'=>e=.returned (.tuple #[.int .u64 n,.bool true])∧w=w'):=fun w=>rsm27a_c n w hn
  have hn8:n<18446744073709551616:=hn;rw [←hzn] at HV hP hBW h ⊢;by_cases hz:z<0
  ·have hb:sg z=true:=by unfold sg;exact decide_eq_true hz
   rw [hb] at HV hP hBW ⊢;by_cases hlo:n≤9223372036854775808
   ·have HZ:Hid (sm64 z=-((n:Int)-1)-1):=by rw [Hid,sm64,if_pos (by omega)];omega
    have HZB:Hid (sm64B z=true):=decide_eq_true (by omega);have e0:decide ((n:Int)≤9223372036854775808)=true:=decide_eq_true (by omega);have a1:(0:Int)≤(n:Int)-1:=by omega
    have a2:(n:Int)-1≤9223372036854775807:=by omega
    have c1:IntKind.u64.wrap ((n:Int)-1)=(n:Int)-1:=by rw [IntKind.wrap_u64];omega
    have c2:IntKind.i64.wrap ((n:Int)-1)=(n:Int)-1:=wi64 (by omega) (by omega);have c3:IntKind.i64.wrap (-((n:Int)-1))=-((n:Int)-1):=wi64 (by omega) (by omega);have c4:IntKind.i64.wrap (-((n:Int)-1)-1)=-((n:Int)-1)-1:=wi64 (by omega) (by omega);have HC:=Lib.hid c4;clear hn hn8 hlo h;generalize E n=s at HV HS hP hBW ⊢;clear hz hzn hb a1 a2;obtain ⟨hPc0,hPf0,hPc1,hPf1⟩:=hP.x2;go_enter Tryz.func35,Tryz.ntmps35
    go_wp2_with fail
    refine (HV.out _).mono ?_;rintro e w1 ⟨rfl,hb1⟩;clear hPc0 hPf0 hPc1 hPf1;replace hP:=hP.after hb1;replace hBW:=bt hBW hb1;clear hb1;obtain ⟨hPc0,hPf0,hPc1,hPf1⟩:=hP.x2;go_wp2_with fail
    refine (HS.out _).mono ?_;rintro e w2 ⟨rfl,rfl⟩;go_wp2;go_ret2
    exact ⟨by rw [HZ.out,HZB.out];first | rfl | go_num,hBW⟩
   ·have HZ:Hid (sm64 z=0):=by rw [Hid,sm64,if_neg (by omega)]
    have HZB:Hid (sm64B z=false):=decide_eq_false (by omega);have e0:decide ((n:Int)≤9223372036854775808)=false:=decide_eq_false (by omega);clear hn hn8 hlo h;generalize E n=s at HV HS hP hBW ⊢;clear hz hzn hb;obtain ⟨hPc0,hPf0,hPc1,hPf1⟩:=hP.x2;go_enter Tryz.func35,Tryz.ntmps35
    go_wp2_with fail
    refine (HV.out _).mono ?_;rintro e w1 ⟨rfl,hb1⟩;clear hPc0 hPf0 hPc1 hPf1;replace hP:=hP.after hb1;replace hBW:=bt hBW hb1;clear hb1;obtain ⟨hPc0,hPf0,hPc1,hPf1⟩:=hP.x2;go_wp2_with fail
    refine (HS.out _).mono ?_;rintro e w2 ⟨rfl,rfl⟩;go_wp2;go_ret2
    exact ⟨by rw [HZ.out,HZB.out];first | rfl | go_num,hBW⟩
  ·have hb:sg z=false:=by unfold sg;exact decide_eq_false hz
   rw [hb] at HV hP hBW ⊢;by_cases hlo:n<9223372036854775808
   ·have HZ:Hid (sm64 z=(n:Int)):=by rw [Hid,sm64,if_pos (by omega)];omega
    have HZB:Hid (sm64B z=true):=decide_eq_true (by omega);have e0:decide ((n:Int)<9223372036854775808)=true:=decide_eq_true (by omega);have c2:IntKind.i64.wrap (n:Int)=(n:Int):=wi64 (by omega) (by omega);clear hn hn8 hlo h;generalize E n=s at HV HS hP hBW ⊢;clear hz hzn hb;obtain ⟨hPc0,hPf0,hPc1,hPf1⟩:=hP.x2;go_enter Tryz.func35,Tryz.ntmps35
    go_wp2_with fail
    refine (HV.out _).mono ?_;rintro e w1 ⟨rfl,hb1⟩;clear hPc0 hPf0 hPc1 hPf1;replace hP:=hP.after hb1;replace hBW:=bt hBW hb1;clear hb1;obtain ⟨hPc0,hPf0,hPc1,hPf1⟩:=hP.x2;go_wp2_with fail
    refine (HS.out _).mono ?_;rintro e w2 ⟨rfl,rfl⟩;go_wp2;go_ret2
    exact ⟨by rw [HZ.out,HZB.out];first | rfl | go_num,hBW⟩
   ·have HZ:Hid (sm64 z=0):=by rw [Hid,sm64,if_neg (by omega)]
    have HZB:Hid (sm64B z=false):=decide_eq_false (by omega);have e0:decide ((n:Int)<9223372036854775808)=false:=decide_eq_false (by omega);clear hn hn8 hlo h;generalize E n=s at HV HS hP hBW ⊢;clear hz hzn hb;obtain ⟨hPc0,hPf0,hPc1,hPf1⟩:=hP.x2;go_enter Tryz.func35,Tryz.ntmps35
    go_wp2_with fail
    refine (HV.out _).mono ?_;rintro e w1 ⟨rfl,hb1⟩;clear hPc0 hPf0 hPc1 hPf1;replace hP:=hP.after hb1;replace hBW:=bt hBW hb1;clear hb1;obtain ⟨hPc0,hPf0,hPc1,hPf1⟩:=hP.x2;go_wp2_with fail
    refine (HS.out _).mono ?_;rintro e w2 ⟨rfl,rfl⟩;go_wp2;go_ret2
    exact ⟨by rw [HZ.out,HZB.out];first | rfl | go_num,hBW⟩
 ·have HS:Hid (∀w,Calls Tryz.prog 85 #[.string (E n)] w fun e w'=>e=.returned (.tuple #[.int .u64 0,.bool false])∧w=w'):=fun w=>rsm27b_c n w (by omega) (by rw [hzn];exact h)
  have hn8:18446744073709551616≤n:=by
   have:(256:Nat)^8=18446744073709551616:=by decide
   omega
  have HZ:Hid (sm64 z=0):=by rw [Hid,sm64,if_neg (by omega)]
  have HZB:Hid (sm64B z=false):=decide_eq_false (by omega);rw [←hzn] at HV hP hBW h ⊢;clear hn hn8 h;generalize E n=s at HV HS hP hBW ⊢;generalize sg z=sb at HV hP hBW ⊢;clear hzn;obtain ⟨hPc0,hPf0,hPc1,hPf1⟩:=hP.x2;go_enter Tryz.func35,Tryz.ntmps35
  go_wp2_with fail
  refine (HV.out _).mono ?_;rintro e w1 ⟨rfl,hb1⟩;clear hPc0 hPf0 hPc1 hPf1;replace hP:=hP.after hb1;replace hBW:=bt hBW hb1;clear hb1;obtain ⟨hPc0,hPf0,hPc1,hPf1⟩:=hP.x2;go_wp2_with fail
  refine (HS.out _).mono ?_;rintro e w2 ⟨rfl,rfl⟩;go_wp2;go_ret2
  exact ⟨by rw [HZ.out,HZB.out];first | rfl | go_num,hBW⟩
end
section
open Go.RowKit Go.Shelf
theorem rvalidX_c (s:ByteArray) (w:World) (h1:128<s.size) (hs:s.size≤9223372036854775807) :
  Calls Tryz.prog 50 #[.string s] w fun e w'=>e=.returned (.bool false)∧w=w':=by
 go_enter Tryz.func50,Tryz.ntmps50
 go_wp2;go_ret
 exact ⟨rfl,rfl⟩
theorem rivalidX_c (b:Bool) (s:ByteArray) (w:World) (h1:128<s.size) (hs:s.size≤9223372036854775807) :
  Calls Tryz.prog 73 #[.agg #[.bool b,.string s]] w fun e w'=>e=.returned (.bool false)∧Below w.heap.size w w':=by
 go_enter Tryz.func73,Tryz.ntmps73
 go_wp2_with fail
 refine (rvalidX_c s _ h1 hs).mono ?_;rintro e w' ⟨rfl,rfl⟩;go_wp2;go_ret
 exact ⟨rfl,b1 _ _⟩
theorem rsm27bad_c (b:Bool) (s:ByteArray) (w:World) (hs:s.size≤9223372036854775807) (h:ivB b s=false) :
  Calls Tryz.prog 35 #[.agg #[.bool b,.string s]] w fun e w'=>e=.returned (.tuple #[.int .i64 0,.bool false])∧Below w.heap.size w w':=by
 have HV:Hid (∀w,Calls Tryz.prog 73 #[.agg #[.bool b,.string s]] w fun e w'=>e=.returned (.bool false)∧Below w.heap.size w w'):=fun w=>by
  by_cases h1:128<s.size
  ·exact rivalidX_c b s w h1 hs
  ·rw [←h];exact rivalid_c b s w (by omega)
 have hP:=Blk.new w #[.bool b,.string s] 28;have hBW:=b1 w (.cells #[.bool b,.string s] 28);clear h hs;obtain ⟨hPc0,hPf0,hPc1,hPf1⟩:=hP.x2;go_enter Tryz.func35,Tryz.ntmps35
 go_wp2_with fail
 refine (HV.out _).mono ?_;rintro e w1 ⟨rfl,hb1⟩;replace hBW:=bt hBW hb1;go_wp2;go_ret2
 exact ⟨rfl,hBW⟩
theorem rsm27all_c (b:Bool) (s:ByteArray) (w:World) (hs:s.size≤9223372036854775807):∃n ok,
  ∀w,Calls Tryz.prog 35 #[.agg #[.bool b,.string s]] w fun e w'=>e=.returned (.tuple #[.int .i64 n,.bool ok])∧Below w.heap.size w w':=by
 cases h:ivB b s
 ·exact ⟨0,false,fun w=>rsm27bad_c b s w hs h⟩
 ·obtain ⟨z,hz,rfl,rfl⟩:=of_ivB h;exact ⟨sm64 z,sm64B z,fun w=>rsm27_c z w hz⟩
def gate27 (a b c d:ByteArray) (lo:Int) (va ra vl rd:ByteArray):Prop:=
 kfw a b c d=true∧va.size≤12∧ra.size≤12∧vl.size≤12∧rd.size≤12∧-1099511627776<lo∧lo<1099511627776
def GateP (P:Prop) (w w':World) (e:Ending):Prop:=∃r,e=.returned (.bool r)∧(r=true→P)∧Below w.heap.size w w'
theorem gateP {P:Prop} {w w':World} {e:Ending} (r:Bool) (he:e=.returned (.bool r)) (h:r=true→P) (hb:Below w.heap.size w w'):GateP P w w' e:=⟨r,he,h,hb⟩
theorem l27small_c (a b c d:ByteArray) (lo:Int) (vn:Bool) (va:ByteArray) (rn:Bool) (ra vl rd:ByteArray) (w:World)
  (h1:va.size≤9223372036854775807) (h2:ra.size≤9223372036854775807) :
  Calls Tryz.prog 8 #[.agg #[.string a,.string b,.string c,.string d,.int .i64 lo,.bool vn,.string va,.bool rn,.string ra,.string vl,.string rd]] w fun e w'=>GateP (gate27 a b c d lo va ra vl rd) w w' e:=by
 obtain ⟨n,ok,HSM⟩:=rsm27all_c vn va w h1;have HS:=Lib.hid HSM;obtain ⟨kb,hkb⟩:∃k,k=kfw a b c d:=⟨_,rfl⟩;obtain ⟨ob,hob⟩:∃k,k=(decide (va.size≤12)&&decide (ra.size≤12)):=⟨_,rfl⟩;have HF:Hid (∀w,Calls Tryz.prog 36 #[.agg #[.string a,.string b,.string c,.string d]] w fun e w'=>e=.returned (.bool kb)∧Below w.heap.size w w'):=fun w=>by rw [hkb];exact l27Few_c a b c d w
 have HO:Hid (∀w,Calls Tryz.prog 37 #[.agg #[.bool vn,.string va,.bool rn,.string ra]] w fun e w'=>e=.returned (.bool ob)∧Below w.heap.size w w'):=fun w=>by rw [hob];exact l27opening_c vn rn va ra w (by omega) (by omega)
 have HG:Hid (kb=true→ob=true→vl.size≤12→rd.size≤12→-1099511627776<lo→lo<1099511627776→gate27 a b c d lo va ra vl rd):=fun k1 k2 k3 k4 k5 k6=>by
  rw [hob,Bool.and_eq_true] at k2;exact ⟨hkb.symm.trans k1,of_decide_eq_true k2.1,of_decide_eq_true k2.2,k3,k4,k5,k6⟩
 clear hkb hob;have hB:=Blk.new w #[.string a,.string b,.string c,.string d,.int .i64 lo,.bool vn,.string va,.bool rn,.string ra,.string vl,.string rd] 32;have hBW:=b1 w (.cells #[.string a,.string b,.string c,.string d,.int .i64 lo,.bool vn,.string va,.bool rn,.string ra,.string vl,.string rd] 32);clear HSM h1 h2;obtain ⟨hBc0,hBf0,hBc1,hBf1,hBc2,hBf2,hBc3,hBf3,hBc4,hBf4,hBc5,hBf5,hBc6,hBf6,hBc7,hBf7,hBc8,hBf8,hBc9,hBf9,hBc10,hBf10⟩:=hB.x11;go_enter Tryz.func8,Tryz.ntmps8
 go_wp2_with fail
 refine (HS.out _).mono ?_;rintro e w1 ⟨rfl,hb1⟩;clear hBc0 hBf0 hBc1 hBf1 hBc2 hBf2 hBc3 hBf3 hBc4 hBf4 hBc5 hBf5 hBc6 hBf6 hBc7 hBf7 hBc8 hBf8 hBc9 hBf9 hBc10 hBf10;replace hB:=hB.after hb1;replace hBW:=bt hBW hb1;obtain ⟨hBc0,hBf0,hBc1,hBf1,hBc2,hBf2,hBc3,hBf3,hBc4,hBf4,hBc5,hBf5,hBc6,hBf6,hBc7,hBf7,hBc8,hBf8,hBc9,hBf9,hBc10,hBf10⟩:=hB.x11;go_wp2_with fail
 all_goals
  refine (HF.out _).mono ?_;rintro e w2 ⟨rfl,hb2⟩;clear hBc0 hBf0 hBc1 hBf1 hBc2 hBf2 hBc3 hBf3 hBc4 hBf4 hBc5 hBf5 hBc6 hBf6 hBc7 hBf7 hBc8 hBf8 hBc9 hBf9 hBc10 hBf10;replace hB:=hB.after hb2;replace hBW:=bt hBW hb2;obtain ⟨hBc0,hBf0,hBc1,hBf1,hBc2,hBf2,hBc3,hBf3,hBc4,hBf4,hBc5,hBf5,hBc6,hBf6,hBc7,hBf7,hBc8,hBf8,hBc9,hBf9,hBc10,hBf10⟩:=hB.x11;cases kb
  ·
   go_wp2;all_goals go_ret
   all_goals exact gateP false rfl (fun h=>(by cases h)) hBW
  ·
   go_wp2_with fail
   refine (HO.out _).mono ?_;rintro e w3 ⟨rfl,hb3⟩;clear hBc0 hBf0 hBc1 hBf1 hBc2 hBf2 hBc3 hBf3 hBc4 hBf4 hBc5 hBf5 hBc6 hBf6 hBc7 hBf7 hBc8 hBf8 hBc9 hBf9 hBc10 hBf10;replace hB:=hB.after hb3;replace hBW:=bt hBW hb3;obtain ⟨hBc0,hBf0,hBc1,hBf1,hBc2,hBf2,hBc3,hBf3,hBc4,hBf4,hBc5,hBf5,hBc6,hBf6,hBc7,hBf7,hBc8,hBf8,hBc9,hBf9,hBc10,hBf10⟩:=hB.x11;cases ob
   ·
    go_wp2;all_goals go_ret
    all_goals exact gateP false rfl (fun h=>(by cases h)) hBW
   ·
    go_wp2;all_goals go_ret
    all_goals refine gateP _ rfl ?_ hBW
    all_goals intro h
    all_goals first | exact absurd h (by decide) | exact HG.out (by trivial) (by trivial) (by omega) (by omega) (by omega) (by first | omega | (have h9:=of_decide_eq_true h;omega) | (have h9:=of_decide_eq_true (Bool.and_eq_true_iff.1 h).2;omega))
end
end Go.Proofs.YtfgandecbkbleaaGreatDoor
