/- SquarerangeWitnesses: the law. -/
import Derived.Test.YteahlbhjhjhljaaGreatDoorNat2
import Derived.Below
import Derived.ChangeSame
import Derived.ChangeMaps5
import Derived.JoinedOf
import Derived.JoinedAt
import Derived.RowKit3
import Derived.Deep.Strs
import Derived.Lib.SmallJoins
import Derived.OpenShut
import Derived.ProofKit
import Derived.Test.YteahlbhjhjhljaaGreatDoorLc27
import Derived.Test.YteahlbhjhjhljaaGreatDoorHp3
import Derived.Carry
import Derived.ChangeSlices
import Derived.WideKeyArgs
import Derived.Deep.Slices
import Derived.Test.YteahlbhjhjhljaaGreatDoorRw27
import Derived.Lib.AppendStr
import Derived.Test.YteahlbhjhjhljaaGreatDoorRows
import Derived.LaidMore
import Derived.Stop.Joined
import Derived.Test.YteahlbhjhjhljaaGreatDoorCo2
import Derived.Test.YteahlbhjhjhljaaGreatDoorBn16
import Derived.Lib.LaidTab
import Derived.Test.YteahlbhjhjhljaaGreatDoorAwk27
set_option linter.unusedVariables false
set_option linter.unusedSimpArgs false
set_option maxRecDepth 100000
set_option maxHeartbeats 16000000
namespace Go.Proofs.YteahlbhjhjhljaaGreatDoor
section
/- A row's last step. -/
open Go.RowKit Go.WideShapes Go.ChangeShapes Go.ChangeAt Go.Joins Go.Deep
open Go.ChangeMaps (open_string shut_string)
section
variable {H:Type} {enc:TypeId × Value→H} {P:Program}
theorem post_of_below {f:Func} {s:ChangeSpec} {apart fresh handsOn again:Bool} {W W':World} {args:Array Value} {v:Value} {ds gs:List (DataW H)} {before pa pv:List MemPlace}
  (hW:DataW.Whole enc P f.params.toList s.vars apart W args.toList ds gs before)
  (hres:∀(b:Nat) (sp:Nat→Bool) (hd:Bool),DataW.TrodAll enc P W' b sp hd f.resultTypes.toList (v.resultList f.resultTypes.size) (s.fn H (ds++gs)).results [])
  (hargs:∀sp:Nat→Bool,(∀p∈before,sp p.block=true)→DataW.TrodAll enc P W' 0 sp true f.params.toList args.toList (s.fn H (ds++gs)).args pa)
  (hvars:∀sp:Nat→Bool,(∀p∈before,sp p.block=true)→DataW.TrodVars enc P W' sp s.vars (s.fn H (ds++gs)).vars pv)
  (hps:before=pa++pv) (hb:Below W.heap.size W W')
  (hok:∀(j:Nat) (t:TypeId) (r:Value),f.resultTypes[j]?=some t→(v.resultList f.resultTypes.size)[j]?=some r→Value.okWide P W' .any 0 t r) :
  s.post enc P f apart fresh handsOn again W args v W':=by
 have hlt:∀p∈before,p.block<W.heap.size:=fun p hp=>hW.lt p hp
 have hold:∀p∈before,(fun b=>decide (b<W.heap.size)) p.block=true:=fun p hp=>by simpa using hlt p hp
 refine ⟨ds,gs,before,[],pa,pv,hW,hres _ _ _,hargs _ hold,hvars _ hold,World.keptBut_mono (fun p hp=>⟨hp,?_⟩) (hb.frame (·∈before)),fun _=>?_⟩
 ·rw [hps,List.mem_append] at hp;exact Or.inr hp
 ·obtain ⟨_,_,_,_,_,hz,hn⟩:=hW;refine ⟨hok,_,_,([]++pa)++pv,⟨[]++pa,pv,trodAll_append (hargs _ (fun _ _=>rfl)) (hres _ _ _),hvars _ (fun _ _=>rfl),rfl,?_,?_⟩,?_⟩
  ·intro b off hp;have hin:MemPlace.cell b off∈before:=by rw [hps];simpa using hp
   rw [hb.frozen (hlt _ hin)];exact hz b off hin
  ·intro ha;have:=hn ha;rw [hps] at this;simpa using this
  ·intro p hp _;rw [hps];simpa using hp
end
theorem own_knob:ownKnob Tryz.prog.godebug=none:=by kernel_rfl
end
section
/- A bounded integer,openings,a tape,numbers as arguments: opened into what their slices read. -/
open Go.RowKit Go.WideShapes Go.ChangeShapes Go.ChangeAt Go.Joins Go.Deep
open Go.ChangeMaps (open_string shut_string)
theorem laid_out:laidOutB Tryz.prog=true:=by kernel_rfl
theorem array3 {α:Type} {l:Array α} (h:l.size=3):∃a b c,l=#[a,b,c]:=by
 obtain ⟨l⟩:=l;match l,h with
 | [a,b,c],_=>exact ⟨a,b,c,rfl⟩
theorem array11 {α:Type} {l:Array α} (h:l.size=11):∃a b c d e f g i j k m,l=#[a,b,c,d,e,f,g,i,j,k,m]:=by
 obtain ⟨l⟩:=l;match l,h with
 | [a,b,c,d,e,f,g,i,j,k,m],_=>exact ⟨a,b,c,d,e,f,g,i,j,k,m,rfl⟩
theorem zNat:Tryz.prog.cellsOf 22=1:=by kernel_rfl
theorem zGrp:Tryz.prog.cellsOf 24=2:=by kernel_rfl
theorem zInt:Tryz.prog.cellsOf 28=2:=by kernel_rfl
theorem zPed:Tryz.prog.cellsOf 26=4:=by kernel_rfl
theorem zOpn:Tryz.prog.cellsOf 30=4:=by kernel_rfl
theorem zBnd:Tryz.prog.cellsOf 32=11:=by kernel_rfl
theorem zi64:Tryz.prog.cellsOf 3=1:=by kernel_rfl
theorem zB:Tryz.prog.cellsOf 4=1:=by kernel_rfl
theorem zNs:Tryz.prog.cellsOf 33=1:=by kernel_rfl
theorem zTape:Tryz.prog.cellsOf 35=3:=by kernel_rfl
theorem zStr:Tryz.prog.cellsOf 9=1:=by kernel_rfl
section
variable {H:Type} {enc:TypeId × Value→H} {w:World} {base:Nat} {held:Bool}
theorem trod_struct5 {P:Program} {spare:Nat→Bool} {t:TypeId} {f0 f1 f2 f3 f4:Field} {fuel:Nat} {cs:List Value} {x:DataW H × List MemPlace} (ht:P.underlying t=some (.struct #[f0,f1,f2,f3,f4])) (h:DataW.trod enc P w base spare held fuel t cs=some x) :
  ∃(y0 y1 y2 y3 y4:DataW H × List MemPlace) (n:Nat),True∧cs.length=P.cellsOf t∧DataW.trod enc P w base spare held n f0.type ((cs.drop f0.offset).take (P.cellsOf f0.type))=some y0 ∧
   DataW.trod enc P w base spare held n f1.type ((cs.drop f1.offset).take (P.cellsOf f1.type))=some y1∧DataW.trod enc P w base spare held n f2.type ((cs.drop f2.offset).take (P.cellsOf f2.type))=some y2 ∧
   DataW.trod enc P w base spare held n f3.type ((cs.drop f3.offset).take (P.cellsOf f3.type))=some y3∧DataW.trod enc P w base spare held n f4.type ((cs.drop f4.offset).take (P.cellsOf f4.type))=some y4:=by
 obtain ⟨xs,n,_,rfl,hl,hlen,hf⟩:=DataW.trod_struct ht h;match xs,hlen with
 | [y0,y1,y2,y3,y4],_=>exact ⟨y0,y1,y2,y3,y4,n,trivial,hl,by simpa using hf 0 f0 rfl,by simpa using hf 1 f1 rfl,by simpa using hf 2 f2 rfl,by simpa using hf 3 f3 rfl,by simpa using hf 4 f4 rfl⟩
theorem row_of {α:Type} {Q:World→α→List Value→Prop} {Sz:α→Prop} (d:α) {size fuel:Nat} {t e:TypeId} {cs:List Value} {x:DataW H × List MemPlace} (ht:Tryz.prog.underlying t=some (.slice e)) (hc:Tryz.prog.cellsOf e=size) (h0:0<size)
  (h:DataW.trod enc Tryz.prog w base (fun _=>true) held fuel t cs=some x)
  (elem:∀n cs' y,cs'.length=size→DataW.trod enc Tryz.prog w base (fun _=>true) held n e cs'=some y→∃a,Q w a cs'∧Sz a) :
  ∃ao n c l,cs=[.slice ao n c]∧RAt Q size w (.slice ao n c) l∧(∀a∈l,Sz a)∧l.length≤maxLen:=by
 rcases open_slice ht h with ⟨rfl,_⟩ | ⟨a,len,cap,m,n,D,Pl,rfl,hb,hl,hm,hmm,_,hel⟩
 ·exact ⟨none,0,0,[],rfl,⟨none,0,rfl,.inl rfl⟩,by simp,by simp⟩
 ·rw [if_pos rfl] at hmm;subst hmm;rw [hc] at hel;haveI:Inhabited α:=⟨d⟩
  obtain ⟨f,hf⟩:=choose_lt (α:=α) (n:=len) (p:=fun i y=>∃cs',w.cells? base (a.add (i*size)) size=some cs'∧Q w y cs'∧Sz y) (fun i hi=>by
   obtain ⟨cs',h1,h2⟩:=hel i (by omega);obtain ⟨y,hy1,hy2⟩:=elem n cs' _ (World.cells?_some h1).2.1 h2;exact ⟨y,cs',h1,hy1,hy2⟩)
  have hlen:((List.range len).map f).length=len:=by simp
  refine ⟨some a,len,m,(List.range len).map f,rfl,⟨some a,m,by rw [hlen],?_⟩,fun y hy=>?_,by rw [hlen];omega⟩
  ·by_cases hl0:len=0
   ·exact .inl (by rw [hlen];exact hl0)
   ·obtain ⟨b,off,spot⟩:=a;obtain ⟨cs0,g1,_⟩:=hf 0 (by omega);obtain ⟨_,g2,g3⟩:=World.cells?_some g1;have g4:=g3 0 h0;have g5:0<cs0.length:=by omega
    rw [List.getElem?_eq_getElem g5] at g4;have hspot:spot=none:=by simpa [Addr.add] using World.cell?_spot g4
    subst hspot;refine .inr ⟨b,off,rfl,?_,fun j hj=>?_⟩
    ·rw [add_plain,add_plain] at g4;apply Classical.byContradiction
     intro hge;have hnone:w.heap[b]?=none:=by simpa using hge
     simp [World.cell?,hnone] at g4
    ·obtain ⟨cs',k1,k2,_⟩:=hf j (by rw [←hlen];exact hj);refine ⟨cs',by simpa using k2,fun i hi=>?_⟩;have:=(World.cells?_some k1).2.2 i hi;rw [add_plain,add_plain] at this;exact this
  ·obtain ⟨j,hj,rfl⟩:=List.mem_map.1 hy;obtain ⟨cs',_,_,hz⟩:=hf j (List.mem_range.1 hj);exact hz
theorem el_nat {n:Nat} {cs:List Value} {y:DataW H × List MemPlace} (hl:cs.length=1) (h:DataW.trod enc Tryz.prog w base (fun _=>true) held n 22 cs=some y):∃a,QStr w a cs∧a.size≤maxLen:=by
 obtain ⟨s,rfl,_,hs⟩:=DataW.trod_string Tryz.underlying22 h;exact ⟨s,rfl,hs⟩
theorem open_bnd {r:Reach} {b0:Nat} {v:Value} {d:DataW H} {p:List MemPlace} (hv:Value.okWide Tryz.prog w r b0 32 v) (h:DataW.Trod enc Tryz.prog w base (fun _=>true) held 32 v d p) :
  ∃(a b c d:ByteArray) (lo:Int) (vn:Bool) (va:ByteArray) (rn:Bool) (ra vl rd:ByteArray),
   v=.agg #[.string a,.string b,.string c,.string d,.int .i64 lo,.bool vn,.string va,.bool rn,.string ra,.string vl,.string rd]∧va.size≤9223372036854775807∧ra.size≤9223372036854775807:=by
 obtain ⟨cs,rfl,hsz⟩:=okWide_struct Tryz.underlying32 hv;obtain ⟨c0,c1,c2,c3,c4,c5,c6,c7,c8,c9,c10,rfl⟩:=array11 (hsz.trans zBnd);obtain ⟨fuel,hf⟩:=h;obtain ⟨y0,y1,y2,y3,y4,m,_,_,h0,h1,h2,h3,h4⟩:=trod_struct5 Tryz.underlying32 hf;simp only [Value.cells,zPed,zOpn,zNat,zi64,List.drop_succ_cons,List.drop_zero,List.take_succ_cons,List.take_zero] at h0 h1 h2 h3 h4;obtain ⟨_,_,_,m0,_,_,k0,k1,k2⟩:=trod_struct3 Tryz.underlying26 h0;obtain ⟨_,_,m1,_,_,o0,o1⟩:=trod_struct2 Tryz.underlying30 h2;simp only [zGrp,zNat,zInt,List.drop_succ_cons,List.drop_zero,List.take_succ_cons,List.take_zero] at k0 k1 k2 o0 o1;obtain ⟨_,_,m2,_,_,g0,g1⟩:=trod_struct2 Tryz.underlying24 k0;obtain ⟨_,_,m3,_,_,i0,i1⟩:=trod_struct2 Tryz.underlying28 o0;obtain ⟨_,_,m4,_,_,j0,j1⟩:=trod_struct2 Tryz.underlying28 o1;simp only [zNat,zB,List.drop_succ_cons,List.drop_zero,List.take_succ_cons,List.take_zero] at g0 g1 i0 i1 j0 j1;obtain ⟨a,ha,_,sa⟩:=DataW.trod_string Tryz.underlying22 g0;obtain ⟨b,hb,_,sb⟩:=DataW.trod_string Tryz.underlying22 g1;obtain ⟨c,hc,_,sc⟩:=DataW.trod_string Tryz.underlying22 k1;obtain ⟨d,hd,_,sd⟩:=DataW.trod_string Tryz.underlying22 k2;obtain ⟨lo,hlo,_⟩:=DataW.trod_int Tryz.underlying3 h1;obtain ⟨vn,hvn,_⟩:=DataW.trod_bool Tryz.underlying4 i0;obtain ⟨va,hva,_,sva⟩:=DataW.trod_string Tryz.underlying22 i1;obtain ⟨rn,hrn,_⟩:=DataW.trod_bool Tryz.underlying4 j0;obtain ⟨ra,hra,_,sra⟩:=DataW.trod_string Tryz.underlying22 j1;obtain ⟨vl,hvl,_,svl⟩:=DataW.trod_string Tryz.underlying22 h3;obtain ⟨rd,hrd,_,srd⟩:=DataW.trod_string Tryz.underlying22 h4;simp only [List.cons.injEq,and_true] at ha hb hc hd hlo hvn hva hrn hra hvl hrd;subst ha hb hc hd hlo hvn hva hrn hra hvl hrd;unfold maxLen at sva sra;exact ⟨a,b,c,d,lo,vn,va,rn,ra,vl,rd,rfl,sva,sra⟩
theorem open_tape {r:Reach} {b0:Nat} {v:Value} {d:DataW H} {p:List MemPlace} (hv:Value.okWide Tryz.prog w r b0 35 v) (h:DataW.Trod enc Tryz.prog w base (fun _=>true) held 35 v d p) :
  ∃(V:List ByteArray) (sd:ByteArray) (ti:Int) (st:Option Addr) (mt dt:Nat),v=.agg #[.slice st mt dt,.string sd,.int .i64 ti]∧(∀x∈V,x.size≤9223372036854775807)∧sd.size≤9223372036854775807∧V.length≤9223372036854775807∧SsAt w (.slice st mt dt) V:=by
 obtain ⟨cs,rfl,hsz⟩:=okWide_struct Tryz.underlying35 hv;obtain ⟨c0,c1,c2,rfl⟩:=array3 (hsz.trans zTape);obtain ⟨fuel,hf⟩:=h;obtain ⟨_,_,_,m2,_,_,a0,a1,a2⟩:=trod_struct3 Tryz.underlying35 hf;simp only [Value.cells,zNs,zStr,zi64,List.drop_succ_cons,List.drop_zero,List.take_succ_cons,List.take_zero] at a0 a1 a2;obtain ⟨sd,hsd,_,ssd⟩:=DataW.trod_string Tryz.underlying9 a1;obtain ⟨ti,hti,_⟩:=DataW.trod_int Tryz.underlying3 a2;obtain ⟨f1,f2,f3,TV,hTV,rTV,sTV,lTV⟩:=row_of (Q:=QStr) (Sz:=fun a=>a.size≤maxLen) ⟨#[]⟩ Tryz.underlying33 zNat (by decide) a0 (fun n cs' y hl h=>el_nat hl h);simp only [List.cons.injEq,and_true] at hsd hti hTV;subst hsd hti hTV;unfold maxLen at ssd sTV lTV;exact ⟨TV,sd,ti,_,_,_,rfl,sTV,ssd,lTV,rTV⟩
end
end
section
open Go.RowKit Go.Shelf
attribute [local go_sem] Oper.semAt_some
theorem wpListIn_append_str {F:Fence} {n':Nat} {P:Program} {ops:Array Oper} {rest:List Oper} {o:Oper} {a:Act} {Q:Exit→Act→World→Prop} {w:World} (hgd:o.guard=none) (sl x:Operand) (t u:TypeId)
  (ho:o.op=.call { callee:=.builtin .append,args:=#[sl,x],argTypes:=#[t,u] }) (v:Value) (s:ByteArray) (hs:a.eval sl=v) (hx:a.eval x=.string s) (v':Value) (w':World)
  (hr:(Builtin.append_ #[t,u] o.type #[v,.string s]).run P w=.ok v' w') (h:wpListIn F n' P ops Q rest (a.put o.dst v') w'):wpListIn F n' P ops Q (o :: rest) a w:=by
 refine wpListIn_plain hgd fun K hK=>?_
 unfold Oper.wpIn;refine ⟨?_,?_⟩
 ·simp [Oper.about,ho,resolve,Target.leads,Sem.run_pure]
 ·rw [Oper.semAt_plain F _ _ (by rw [ho];intro c hc';cases hc')];simp only [execOp,ho,resolve,invoke,builtin,Sem.run_bind,Sem.run_pure,Result.andThen_ok,List.map_toArray,List.map_cons,List.map_nil,hs,hx,hr];exact hK _ _ h
theorem row_strN {w:World} {b o c:Nat} {l:List UInt8} (h:Row w b o l) :
  (convert 191 22 (.slice (some ⟨b,o,none⟩) l.length c)).run Tryz.prog w=.ok (.string ⟨l.toArray⟩) w:=by
 have:=Lib.run_convert_whole (P:=Tryz.prog) w 191 5 22 Tryz.underlying191 Tryz.underlying5 Tryz.underlying22 b o ⟨l.toArray⟩ h.bytes c;simpa [ByteArray.size] using this
theorem strCells_u8s (s:ByteArray):Lib.strCells s=u8s s.data.toList:=rfl
def AtR (w:World) (gz gt ga:Nat) (seed:ByteArray) (ao:Option Addr) (m c p a z:Nat) (W:World):Prop:=
 Blk W gz 3 [.int .i64 (z:Int)]∧Blk W gt 35 [.slice ao m c,.string seed,.int .i64 (p:Int)]∧Blk W ga 3 [.int .i64 (a:Int)]∧Below w.heap.size w W
theorem AtR.own (w:World) (gz gt ga:Nat) (seed:ByteArray) (ao:Option Addr) (m c p a z B:Nat) (hB:w.heap.size≤B):OwnFrom B (fun (_:Nat)=>AtR w gz gt ga seed ao m c p a z):=
 fun s X Y row hs hg hr=>⟨hs.1.own hg (fun r h=>(hr r h).2),hs.2.1.own hg (fun r h=>(hr r h).2),hs.2.2.1.own hg (fun r h=>(hr r h).2),hs.2.2.2.grown hg hs.2.2.2.size (fun k h=>Nat.le_trans hB (hr k h).1)⟩
theorem AtR.after {w:World} {gz gt ga:Nat} {seed:ByteArray} {ao:Option Addr} {m c p a z:Nat} {A B:World} (h:AtR w gz gt ga seed ao m c p a z A) (hb:Below A.heap.size A B):AtR w gz gt ga seed ao m c p a z B:=
 ⟨h.1.after hb,h.2.1.after hb,h.2.2.1.after hb,bt h.2.2.2 hb⟩
def AtO (n₀ gb:Nat) (bl:Nat→ByteArray) (k:Nat) (W:World):Prop:=
 ∃v,Boxed W gb 191 v∧W.ownsRow n₀ 5 1 v (32*k) (u8s (bl k).data.toList)∧True
theorem AtO.own (n₀ gb:Nat) (bl:Nat→ByteArray) (B:Nat):OwnFrom B (AtO n₀ gb bl):=
 Own.from (holdsRow_own n₀ gb 191 5 1 (fun k=>32*k) (fun k=>u8s (bl k).data.toList) (fun _ _=>True)) _
theorem AtO.after {n₀ gb:Nat} {bl:Nat→ByteArray} {k:Nat} {A B:World} (h:AtO n₀ gb bl k A) (hb:Below A.heap.size A B):AtO n₀ gb bl k B:=by
 obtain ⟨v,h1,h2,h3⟩:=h;exact ⟨v,(hb.block _ h1.lt).trans h1,own_after h2 hb,h3⟩
theorem ownFrom_pure' {B:Nat} (P:Nat→Prop):OwnFrom B (fun k (_:World)=>P k):=fun _ _ _ _ hs _ _=>hs
theorem and_mask (b r:Nat) (hb:b<256) (hr:r≤7):bits .and .u8 (b:Int) ((255:Int) / 2^r)=((b%2^(8-r):Nat):Int):=by
 have h255:(255:Int) / 2^r=((2^(8-r)-1:Nat):Int):=by
  rcases (by omega:r=0∨r=1∨r=2∨r=3∨r=4∨r=5∨r=6∨r=7) with h | h | h | h | h | h | h | h <;> subst h <;> rfl
 have hlt:2^(8-r)-1<256:=by
  have:2^(8-r)≤2^8:=Nat.pow_le_pow_right (by decide) (by omega);omega
 rw [h255,u8_and_nat _ _ hb hlt,Nat.and_two_pow_sub_one_eq_mod]
theorem attempt_v (seed:ByteArray) (p a n:Nat) (ao:Option Addr) (m c:Nat) (w:World) (hk:seed.size≤1000) (h1:p≤2147483647) (h2:a<256) (h3:1≤n) (h4:n≤512) (ht:TabW w) :
  Calls Tryz.prog 221 #[.agg #[.slice ao m c,.string seed,.int .i64 (p:Int)],.int .i64 (a:Int),.int .i64 (n:Int)] w fun e w'=>e=.returned (.string (attT seed p a n))∧Below w.heap.size w w':=by
 obtain ⟨i0,hi0,hz00,hz01,hz02⟩:=info_parts info_u8;have HI0:=Lib.hid hi0;have HA0:=Lib.hid hz00;have HB0:=Lib.hid hz01;have HC0:=Lib.hid hz02;clear hi0 hz00 hz01 hz02;obtain ⟨z,hz⟩:∃z,z=(n+7) / 8:=⟨_,rfl⟩;have hz1:1≤z:=by omega
 have hz2:z≤64:=by omega
 have hz3:n≤8*z:=by omega
 have hz4:8*z<n+8:=by omega
 have e1:((n:Int)+7) / 8=(z:Int):=by omega
 have e2:((n:Int)+7).tdiv 8=(z:Int):=by rw [Int.tdiv_eq_ediv_of_nonneg (by omega)];exact e1
 have HAT:Hid (attT seed p a n=canonV ((⟨#[UInt8.ofNat (byt (blV seed p a ((z+31) / 32)) 0%2^(8-(8*z-n)))]⟩:ByteArray)++(blV seed p a ((z+31) / 32)).extract 1 z)):=by rw [Hid,hz];rfl
 have HT:=Lib.hid ht;clear hz ht;refine (callsIn_wide (n:=3)).1 ?_;refine callsIn_of_wp_marks Tryz.func221 rfl trivial ?_ rfl;simp only [Tryz.ntmps221,List.size_toArray,List.length_cons,List.length_nil,Nat.reduceAdd,Nat.reduceSub,Array.replicate_succ,Array.replicate_zero,List.push_toArray,List.append_toArray,List.nil_append,List.cons_append];gi_wp2_with fail
 refine ⟨trivial,?_⟩;refine (callsIn_wide.2 (pblocks_c ao m c seed p a _)).mono ?_;rintro e w' ⟨rfl,rfl⟩;gi_wp2_with fail
 obtain ⟨W0,hW0⟩:∃W,W=(((((w.alloc (.cells #[.slice ao m c,.string seed,.int .i64 (p:Int)] 35)).alloc (.cells #[.int .i64 (z:Int)] 3)).alloc (.cells #[.slice none 0 0] 191)).alloc (.cells #[.slice ao m c,.string seed,.int .i64 (p:Int)] 35)).alloc (.cells #[.int .i64 (a:Int)] 3)):=⟨_,rfl⟩;obtain ⟨ga,hga⟩:∃g,g=w.heap.size+1+1+1+1:=⟨_,rfl⟩;obtain ⟨gt,hgt⟩:∃g,g=w.heap.size+1+1+1:=⟨_,rfl⟩;obtain ⟨gb,hgb⟩:∃g,g=w.heap.size+1+1:=⟨_,rfl⟩;obtain ⟨gz,hgz⟩:∃g,g=w.heap.size+1:=⟨_,rfl⟩;have hsz:W0.heap.size=w.heap.size+1+1+1+1+1:=by rw [hW0];simp
 have bZ:Blk W0 gz 3 [.int .i64 (z:Int)]:=by
  have h:=(((Blk.new (w.alloc (.cells #[.slice ao m c,.string seed,.int .i64 (p:Int)] 35)) #[.int .i64 (z:Int)] 3).alloc (.cells #[.slice none 0 0] 191)).alloc (.cells #[.slice ao m c,.string seed,.int .i64 (p:Int)] 35)).alloc (.cells #[.int .i64 (a:Int)] 3);rw [World.size_alloc] at h;rw [hW0,hgz];exact h
 have bO:Boxed W0 gb 191 (.slice none 0 0):=by
  have h:=((Boxed.new ((w.alloc (.cells #[.slice ao m c,.string seed,.int .i64 (p:Int)] 35)).alloc (.cells #[.int .i64 (z:Int)] 3)) 191 (.slice none 0 0)).alloc (.cells #[.slice ao m c,.string seed,.int .i64 (p:Int)] 35)).alloc (.cells #[.int .i64 (a:Int)] 3);simp only [World.size_alloc] at h;rw [hW0,hgb];exact h
 have bT:Blk W0 gt 35 [.slice ao m c,.string seed,.int .i64 (p:Int)]:=by
  have h:=(Blk.new (((w.alloc (.cells #[.slice ao m c,.string seed,.int .i64 (p:Int)] 35)).alloc (.cells #[.int .i64 (z:Int)] 3)).alloc (.cells #[.slice none 0 0] 191)) #[.slice ao m c,.string seed,.int .i64 (p:Int)] 35).alloc (.cells #[.int .i64 (a:Int)] 3);simp only [World.size_alloc] at h;rw [hW0,hgt];exact h
 have bA:Blk W0 ga 3 [.int .i64 (a:Int)]:=by
  have h:=Blk.new ((((w.alloc (.cells #[.slice ao m c,.string seed,.int .i64 (p:Int)] 35)).alloc (.cells #[.int .i64 (z:Int)] 3)).alloc (.cells #[.slice none 0 0] 191)).alloc (.cells #[.slice ao m c,.string seed,.int .i64 (p:Int)] 35)) #[.int .i64 (a:Int)] 3;simp only [World.size_alloc] at h;rw [hW0,hga];exact h
 have hBW:Below w.heap.size w W0:=by rw [hW0];exact ba (ba (ba (ba (b1 w _) _) _) _) _
 rw [←hW0];clear hW0;have HG:Hid (w.heap.size≤gb∧gz≠gb∧gt≠gb∧ga≠gb∧w.heap.size≤W0.heap.size):=⟨by omega,by omega,by omega,by omega,by omega⟩;rw [←hga,←hgt,←hgb,←hgz];clear hga hgt hgb hgz hsz;have HBL:Hid (∀k,blV seed p a (k+1)=blV seed p a k++macV seed (nmV p a k)):=fun k=>rfl
 have HBS:Hid (∀k,(blV seed p a k).size=32*k):=blV_size seed p a;have HMS:Hid (∀k,(macV seed (nmV p a k)).size=32):=fun k=>macV_size _ _
 have HIT:Hid (∀(n l:Nat) (J Jx:Nat→World→Prop) (hJI:∀k A,J k A→k<2∧ItW gt ga seed p a A) (hJb:∀k A B,J k A→Below A.heap.size A B→J k B)
  (hY:∀k A,J k A→YieldAt Fence.wide (n-1) Tryz.prog l #[.string (macV seed (nmV p a k))] A fun e A'=>(e=.returned (.bool true)∧J (k+1) A')∨(e=.returned (.bool false)∧Jx (k+1) A'))
  (W:World) (h0:J 0 W),CallsIn Fence.wide n Tryz.prog 276 #[.func (.yield l) #[] #[],.pointer (some ⟨gt,0,none⟩),.pointer (some ⟨ga,0,none⟩)] W fun e W'=>(∃v,e=.returned v)∧∃k,Jx k W'):=fun n l J Jx q1 q2 q3 W q4=>blocks1_in n l gt ga seed p a 2 hk h1 h2 (by decide) J Jx q1 q2 q3 W q4
 have hB0:blV seed p a 0=⟨#[]⟩:=rfl;obtain ⟨bl,hbl⟩:∃f:Nat→ByteArray,f=blV seed p a:=⟨_,rfl⟩;obtain ⟨mv,hmv⟩:∃f:Nat→ByteArray,f=fun k=>macV seed (nmV p a k):=⟨_,rfl⟩
 have hmk:∀k,macV seed (nmV p a k)=mv k:=fun k=>by rw [hmv]
 simp only [←hbl,hmk] at HBL HBS HMS HIT hB0 HAT;clear hbl hmv hmk
 refine wpIn_range_until (n:=3) (out:=.exit 0) rfl (by omega) (gf:=276) (lb:=#[.pointer (some ⟨gt,0,none⟩),.pointer (some ⟨ga,0,none⟩)]) rfl trivial (enters_of Tryz.func276 (by kernel_rfl) rfl)
  (enc:=fun k=>#[.string (mv k)]) (fun _=>rfl)
  (fun k W=>(k<2∧(k=0∨32*k<z))∧(AtO w.heap.size gb bl k W∧AtR w gz gt ga seed ao m c p a z W))
  (fun k W=>(k≤2∧z≤32*k∧32*k<z+32)∧(AtO w.heap.size gb bl k W∧AtR w gz gt ga seed ao m c p a z W))
  (OwnFrom.and (ownFrom_pure' _) (OwnFrom.and (AtO.own _ _ _ _) (AtR.own _ _ _ _ _ _ _ _ _ _ _ _ HG.out.2.2.2.2)))
  (OwnFrom.and (ownFrom_pure' _) (OwnFrom.and (AtO.own _ _ _ _) (AtR.own _ _ _ _ _ _ _ _ _ _ _ _ HG.out.2.2.2.2)))
  (fun k A B h hb=>⟨h.1,h.2.1.after hb,h.2.2.after hb⟩)
  ⟨⟨by omega,.inl rfl⟩,⟨_,bO,by rw [hB0];exact World.ownsRow_nil _ _ _ _,trivial⟩,bZ,bT,bA,hBW⟩
  (fun l J Jx W hJI hJb hY h0=>HIT.out _ l J Jx (fun k A hJ=>⟨(hJI k A hJ).1.1,(hJI k A hJ).2.2.2.1.cell 1,(hJI k A hJ).2.2.2.1.cell 2,(hJI k A hJ).2.2.2.2.1.cell 0,(hJI k A hJ).2.2.2.1.lt,(hJI k A hJ).2.2.2.2.1.lt,HT.out.after (hJI k A hJ).2.2.2.2.2⟩) hJb hY W h0)
  (fun k=>{ tmps:=#[.agg #[.slice ao m c,.string seed,.int .i64 (p:Int)],.int .i64 (a:Int),.int .i64 (n:Int),.pointer (some ⟨w.heap.size,0,none⟩),undef,undef,.string { data:=#[] },.pointer (some ⟨gz,0,none⟩),.pointer (some ⟨gb,0,none⟩),.string (mv k),.int .i64 (n:Int),.int .i64 ((n:Int)+7),.int .i64 (z:Int),.agg #[.slice ao m c,.string seed,.int .i64 (p:Int)],.int .i64 (a:Int),.func (.func 276) #[] #[.pointer (some ⟨gt,0,none⟩),.pointer (some ⟨ga,0,none⟩)],.string (mv k),undef,undef,undef,undef,undef,undef,undef,undef,undef,undef,undef,undef,undef,undef,undef,undef,undef,undef,undef,undef,undef,undef,undef,undef,undef,undef,undef,undef,undef,undef,undef,undef,undef,undef,undef],defers:=[] }) ?assign ?body ?stop
 case assign =>
  intro l k W K hK;gi_wp2
  exact hK
 case body =>
  rintro l k W ⟨⟨hk2,hkz⟩,⟨v,hv,hrow,_⟩,hR⟩;have hc:=hv.cell;have hf:=hv.frozen;have hms:=HMS.out k;obtain ⟨v',w1,hr,hown',hgrow,_⟩:=Lib.run_append_own_string (P:=Tryz.prog) (w:=W) w.heap.size 191 9 191 5 i0 Tryz.underlying191 Tryz.underlying9 HI0.out HA0.out HB0.out HC0.out v (32*k) _ hrow (mv k) (by rw [hms];simp only [maxLen];omega) (by rw [hms];omega) hR.2.2.2.size;rw [strCells_u8s,hms] at hown'
  have HOW:Hid (u8s (bl k).data.toList++u8s (mv k).data.toList=u8s (bl (k+1)).data.toList):=by
   rw [Hid,HBL.out k,ByteArray.data_append,Array.toList_append,u8s,u8s,u8s,List.map_append]
  rw [HOW.out] at hown';obtain ⟨q,hq⟩:∃q,q=32*k+32:=⟨_,rfl⟩;rw [←hq] at hown';obtain ⟨q',hq'⟩:∃q',q=q'+1:=⟨q-1,by omega⟩;obtain ⟨g',cap',rfl⟩:∃g cap,v'=.slice (some ⟨g,0,none⟩) q cap:=by rw [hq'] at hown' ⊢;exact ownsRow_succ hown'
  have hv1:Boxed w1 gb 191 v:=hv.kept hgrow (hv.not_row (by decide) hrow);have hv2:=hv1.set (.slice (some ⟨g',0,none⟩) q cap');have hrow2:=hown'.kept (grownBy_setCell' w1 gb (.slice (some ⟨g',0,none⟩) q cap')) (.inr (hv1.not_row (by decide) hown').symm)
  have hcells:∀j o,v.ownBlock=some j→W.heap[j]?=some o→o.isCells=true:=fun j o ej hj=>by
   rcases hrow.2 with ⟨rfl,_⟩ | ⟨g,cap,cur,rfl,_,hgb,_⟩
   ·simp [Value.ownBlock] at ej
   ·obtain rfl:g=j:=by simpa [Value.ownBlock] using ej
    rw [hgb] at hj;cases hj;rfl
  have hnb:∀{g:Nat} {T:TypeId} {cs:List Value},Blk W g T cs→T≠5→some g≠v.ownBlock:=fun {g T cs} hb hT e=>by
   rcases hrow.2 with ⟨rfl,_⟩ | ⟨g2,cap,cur,rfl,_,hgb,_⟩
   ·simp [Value.ownBlock] at e
   ·obtain rfl:g=g2:=by simpa [Value.ownBlock] using e
    have h:=(show W.heap[g]?=_ from hb).symm.trans hgb;simp at h;exact hT h.2
  have hk2':KeepsOthers W (w1.setCell ⟨gb,0,none⟩ (.slice (some ⟨g',0,none⟩) q cap')):=(KeepsOthers.of_grownBy hgrow hcells).trans (KeepsOthers.setCell _ _ _)
  have hB1:Below w.heap.size w w1:=hR.2.2.2.grown hgrow hR.2.2.2.size (fun j ej=>by
   rcases hrow.2 with ⟨rfl,_⟩ | ⟨g,cap,cur,rfl,hb,_,_⟩
   ·simp [Value.ownBlock] at ej
   ·obtain rfl:g=j:=by simpa [Value.ownBlock] using ej
    exact hb)
  have hR2:AtR w gz gt ga seed ao m c p a z (w1.setCell ⟨gb,0,none⟩ (.slice (some ⟨g',0,none⟩) q cap')):=
   ⟨Blk.other ((hgrow.block _ hR.1.lt (hnb hR.1 (by decide))).trans hR.1) _ _ HG.out.2.1,Blk.other ((hgrow.block _ hR.2.1.lt (hnb hR.2.1 (by decide))).trans hR.2.1) _ _ HG.out.2.2.1,Blk.other ((hgrow.block _ hR.2.2.1.lt (hnb hR.2.2.1 (by decide))).trans hR.2.2.1) _ _ HG.out.2.2.2.1,hB1.setCell (p:=⟨gb,0,none⟩) HG.out.1 _⟩
  have hc1:=hv1.cell;have hf1:=hv1.frozen;have hc2:=hv2.cell;have hcz:=hR2.1.cell 0;have HRW:=Lib.hid hrow2;have HV2:=Lib.hid hv2;have HR2:=Lib.hid hR2;have HKO:=Lib.hid hk2';clear hv hrow hR hown' hgrow hv1 hv2 hrow2 hcells hnb hk2' hB1 hR2 hms HOW hq';have HQ:=Lib.hid hq;clear hq;by_cases hge:z≤q
  ·have hd:decide ((z:Int)≤(q:Int))=true:=decide_eq_true (by omega);gi_wp2_with (gi_at_builtin;refine wpListIn_append_str rfl (.tmp 17) (.tmp 18) 191 9 rfl v (mv k) rfl rfl _ _ hr ?_)
   exact ⟨rfl,HKO.out,⟨by omega,by have:=HQ.out;omega,by have:=HQ.out;omega⟩,⟨_,HV2.out,by have h:=HRW.out;rw [HQ.out] at h ⊢;exact h,trivial⟩,HR2.out⟩
  ·have hd:decide ((z:Int)≤(q:Int))=false:=decide_eq_false (by omega);gi_wp2_with (gi_at_builtin;refine wpListIn_append_str rfl (.tmp 17) (.tmp 18) 191 9 rfl v (mv k) rfl rfl _ _ hr ?_)
   exact ⟨HKO.out,⟨by have:=HQ.out;omega,.inr (by have:=HQ.out;omega)⟩,⟨_,HV2.out,by have h:=HRW.out;rw [HQ.out] at h ⊢;exact h,trivial⟩,HR2.out⟩
 case stop =>
  rintro D k W hD ⟨⟨hk2,hzk,hkz⟩,⟨v,hv,hrow,_⟩,hR⟩ hK;have hke:k=(z+31) / 32:=by omega
  rw [←hke] at HAT;have hts:=HBS.out k;obtain ⟨t,htt⟩:∃t,t=bl k:=⟨_,rfl⟩;rw [←htt] at HAT hts hrow;clear htt hke HBL HBS HMS HIT hB0 hk2 hkz bZ bO bT bA hBW;obtain ⟨q,hq⟩:∃q,q=32*k:=⟨_,rfl⟩;rw [←hq] at hts hrow hzk;clear hq;have hv0:=hv;rcases hrow.2 with ⟨rfl,h0⟩ | ⟨g',cap,cur,rfl,hbg,hg,hnc,hcm,hcs,htake⟩
  ·omega
  have hne:gb≠g':=fun e=>hv.not_row (by decide) hrow (by rw [e];rfl)
  have hblk:Blk W g' 5 cur.toList:=by show W.heap[g']?=some _;rw [Array.toArray_toList];exact hg
  have hr7:8*z-n≤7:=by omega
  obtain ⟨r,hr⟩:∃r,r=8*z-n:=⟨_,rfl⟩;rw [←hr] at hr7 HAT;obtain ⟨y,hy⟩:∃y,y=byt t 0:=⟨_,rfl⟩;have hc:=hv.cell;have hf:=hv.frozen;have hcz:=hR.1.cell 0;have z0:(0:Int)≤(z:Int):=by omega
  have z1:(z:Int)≤(cap:Int):=by omega
  have zd:decide ((0:Int)<(z:Int))=true:=decide_eq_true (by omega);have hcz2:(W.setCell ⟨gb,0,none⟩ (.slice (some ⟨g',0,none⟩) z cap)).cell? ⟨gz,0,none⟩=some (.int .i64 (z:Int)):=(hR.1.other ⟨gb,0,none⟩ (.slice (some ⟨g',0,none⟩) z cap) HG.out.2.1).cell 0;gi_wp2_with fail
  have hv2:=hv.set (.slice (some ⟨g',0,none⟩) z cap);have hb2:=hblk.other ⟨gb,0,none⟩ (.slice (some ⟨g',0,none⟩) z cap) (Ne.symm hne);have hz2':=hR.1.other ⟨gb,0,none⟩ (.slice (some ⟨g',0,none⟩) z cap) HG.out.2.1;have hB2:=hR.2.2.2.setCell (p:=⟨gb,0,none⟩) HG.out.1 (.slice (some ⟨g',0,none⟩) z cap);have hK2:=(KeepsOthers.setCell W ⟨gb,0,none⟩ (.slice (some ⟨g',0,none⟩) z cap)).same D _ hK rfl
  have hy0:cur.toList[0]?=some (.int .u8 (y:Int)):=by
   have h:(cur.toList.take (q*1))[0]?=(u8s t.data.toList)[0]?:=by rw [htake]
   rw [List.getElem?_take,if_pos (by omega)] at h;rw [h,u8s,List.getElem?_map,Array.getElem?_toList,Array.getElem?_eq_getElem (by show 0<t.size;omega),hy,byt,Array.getD_eq_getD_getElem?,Array.getElem?_eq_getElem (by show 0<t.size;omega)];rfl
  have hy256:y<256:=by rw [hy,byt];exact UInt8.toNat_lt _
  have hCr:∀j,1≤j→(hj:j<z)→cur.toList[j]?=some (u8v (t.data.getD j 0)):=fun j hj1 hj=>by
   have h:(cur.toList.take (q*1))[j]?=(u8s t.data.toList)[j]?:=by rw [htake]
   rw [List.getElem?_take,if_pos (by omega)] at h;rw [h,u8s,List.getElem?_map,Array.getElem?_toList,Array.getD_eq_getD_getElem?,Array.getElem?_eq_getElem (by show j<t.size;omega)];rfl
  have hlen:cur.toList.length=cap:=by rw [Array.length_toList];omega
  -- the bytes
  obtain ⟨tl,htl⟩:∃tl:List UInt8,tl=UInt8.ofNat (y%2^(8-r)) :: (t.extract 1 z).data.toList:=⟨_,rfl⟩
  have htll:tl.length=z:=by
   have h:(t.extract 1 z).data.toList.length=z-1:=by rw [Array.length_toList];show (t.extract 1 z).size=_;rw [ByteArray.size_extract];omega
   rw [htl,List.length_cons,h];omega
  have HAV:Hid (attT seed p a n=⟨(tl.dropWhile (·==0)).toArray⟩):=by
   rw [Hid,HAT.out,canonV];congr 3
   rw [htl,ByteArray.data_append,Array.toList_append,hy];rfl
  obtain ⟨mb,hmb⟩:∃mb,mb=y%2^(8-r):=⟨_,rfl⟩;have hmb256:mb<256:=by rw [hmb];exact Nat.lt_of_le_of_lt (Nat.mod_le _ _) hy256
  have HCC:Hid (∀j,j<z→(cur.toList.set 0 (.int .u8 (mb:Int)))[j]?=some (u8v (tl.getD j 0))):=fun j hj=>by
   by_cases h0:j=0
   ·subst h0;rw [List.getElem?_set_self (by omega),htl,←hmb];show some (Value.int .u8 (mb:Int))=some (Value.int .u8 ((UInt8.ofNat mb).toNat:Int));rw [UInt8.toNat_ofNat',Nat.mod_eq_of_lt (by omega)]
   ·rw [List.getElem?_set_ne (by omega),hCr j (by omega) hj,htl];obtain ⟨i,rfl⟩:∃i,j=i+1:=⟨j-1,by omega⟩;congr 2
    show _=((t.extract 1 z).data.toList).getD i 0
    rw [List.getD_eq_getElem?_getD,Array.getElem?_toList,ByteArray.data_extract,Array.getElem?_extract,if_pos (by
     show i<min z t.data.size-1;have h3:t.data.size=t.size:=rfl;omega),Array.getD_eq_getD_getElem?,Nat.add_comm]
  have hbits:bits .and .u8 (y:Int) ((255:Int) / 2^r)=(mb:Int):=by rw [hmb];exact and_mask y r hy256 hr7
  have er:(8:Int)*(z:Int)-(n:Int)=(r:Int):=by omega
  have er2:IntKind.i64.wrap ((8:Int)*(z:Int))=8*(z:Int):=IntWalk.i64_in _ (by omega);have er3:IntKind.i64.wrap (r:Int)=(r:Int):=IntWalk.i64_in _ (by omega);have r0:(0:Int)≤(r:Int):=by omega
  have HTL:=Lib.hid htll;have HLN:=Lib.hid hlen;have HHR:=Lib.hid hR.2.2.2;clear hv hblk hR hK hy htl hCr hmb hlen hv0 hg htake hcs hcm hnc hrow hc hf hcz hcz2 zd htll HAT hr;generalize W.setCell ⟨gb,0,none⟩ (.slice (some ⟨g',0,none⟩) z cap)=W2 at hv2 hb2 hz2' hB2 hK2 ⊢;have c8:=hv2.cell;have f8:=hv2.frozen;have cz:=hz2'.cell 0;have cb:=(hb2.cell 0).trans hy0;have fb:=hb2.free 0;have lb:=hb2.lt;have l8:=hv2.lt;have lz:=hz2'.lt;refine wpIn_wide.2 ?_;go_region;have hO3:Blk (W2.setCell ⟨g',0,none⟩ (.int .u8 (mb:Int))).drew gb 191 [.slice (some ⟨g',0,none⟩) z cap]:=(Blk.other (show Blk W2 gb 191 [_] from hv2) ⟨g',0,none⟩ (.int .u8 (mb:Int)) hne).drew;have hb3:Blk (W2.setCell ⟨g',0,none⟩ (.int .u8 (mb:Int))).drew g' 5 (cur.toList.set 0 (.int .u8 (mb:Int))):=(hb2.set 0 _).drew;have hB3:Below w.heap.size w (W2.setCell ⟨g',0,none⟩ (.int .u8 (mb:Int))).drew:=(hB2.setCell (p:=⟨g',0,none⟩) hbg _).drew;have hK3:(W2.setCell ⟨g',0,none⟩ (.int .u8 (mb:Int))).drew.heap[D]?=some (.deferred (some [])):=(KeepsOthers.setCell W2 ⟨g',0,none⟩ (.int .u8 (mb:Int))).same D _ hK2 rfl;have HHD:Hid (W0.heap.size≤D):=hD;clear c8 f8 cz cb fb lb l8 lz hv2 hb2 hz2' hB2 hK2 hD hy0 hbits er er2 er3;generalize (W2.setCell ⟨g',0,none⟩ (.int .u8 (mb:Int))).drew=W3 at hO3 hb3 hB3 hK3 ⊢;generalize cur.toList.set 0 (.int .u8 (mb:Int))=C at hb3 HCC;clear HLN;gi_wp2
  gi_loopw [39] (fun _ wr=>∃(j o rr c':Nat),j≤z∧Hid (j<z→o=j)∧Hid (rr+j=z)∧Hid (c'+j=cap)∧Blk wr gb 191 [.slice (some ⟨g',o,none⟩) rr c']∧Blk wr g' 5 C∧Hid ((tl.drop j).dropWhile (·==0)=tl.dropWhile (·==0))∧Below w.heap.size w wr∧wr.heap[D]?=some (.deferred (some []))) (fun _ wr=>match wr.cell? ⟨gb,0,none⟩ with | some (.slice _ m _)=>m | _=>0)
  case atStart=>exact ⟨0,0,z,cap,by omega,fun _=>rfl,rfl,rfl,hO3,hb3,rfl,hB3,hK3⟩
  case round =>
   clear hO3 hb3 hB3 hK3;obtain ⟨j,o,rr,c',hjz,HO,HRR,HC',hO,hb,HDW,hB,hK⟩:=hrel;obtain ⟨wp,hwp⟩:∃wp,wp=wr:=⟨_,rfl⟩;subst hwp;have c8:=hO.cell 0;have f8:=hO.free 0;have l8:=hO.lt;have lb:=hb.lt;have HDL:Hid ((tl.drop j).length=rr):=by rw [Hid,List.length_drop,HTL.out];have:=HRR.out;omega
   by_cases hlt:j<z
   ·obtain rfl:o=j:=HO.out hlt;have hrr:1≤rr:=by have:=HRR.out;omega
    have hrc:rr≤c':=by have:=HRR.out;have:=HC'.out;omega
    have hd0:decide ((0:Int)<(rr:Int))=true:=decide_eq_true (by omega);have hbc:wp.cell? ⟨g',o,none⟩=some (u8v (tl.getD o 0)):=(hb.cell o).trans (HCC.out o hlt)
    have HDC:Hid (tl.drop o=tl.getD o 0 :: tl.drop (o+1)):=by
     rw [Hid,List.drop_eq_getElem_cons (by rw [HTL.out];exact hlt),List.getD_eq_getElem?_getD,List.getElem?_eq_getElem (by rw [HTL.out];exact hlt)];rfl
    have hcv:=row_strN (w:=wp) (b:=g') (o:=o) (c:=c') (l:=tl.drop o) (fun i hi=>by
     have h:=(hb.cell (o+i)).trans (HCC.out (o+i) (by rw [List.length_drop,HTL.out] at hi;omega));rw [h,List.getElem_drop,List.getD_eq_getElem?_getD,List.getElem?_eq_getElem (by rw [List.length_drop] at hi;omega)];rfl)
    rw [HDL.out] at hcv;generalize tl.getD o 0=x at hbc HDC;unfold u8v at hbc;have q1:(0:Int)≤1:=by omega
    have q2:(1:Int)≤(rr:Int):=by omega
    have q3:(rr:Int)≤(c':Int):=by omega
    by_cases hx:x=0
    ·have hx0:((x.toNat:Int)==0)=true:=by rw [hx];rfl
     have HX:=Lib.hid hx
     have HDX:Hid ((tl.drop (o+1)).dropWhile (·==0)=tl.dropWhile (·==0)):=by
      have h:=HDW.out;rw [HDC.out,List.dropWhile_cons,if_pos (by rw [hx];rfl)] at h;exact h
     clear hx hcv;gi_wp2
     ·refine ⟨⟨o+1,by omega,o,fun h=>by have:=HRR.out;omega,rr-1,by rw [Hid];have:=HRR.out;omega,0,by rw [Hid];have:=HC'.out;omega,hO.set 0 _,hb.other _ _ (Ne.symm hne),HDX,hB.setCell (p:=⟨gb,0,none⟩) HG.out.1 _,(KeepsOthers.setCell wp ⟨gb,0,none⟩ _).same D _ hK rfl⟩,by omega⟩
     ·refine ⟨⟨o+1,by omega,o+1,fun _=>rfl,rr-1,by rw [Hid];have:=HRR.out;omega,c'-1,by rw [Hid];have:=HC'.out;omega,hO.set 0 _,hb.other _ _ (Ne.symm hne),HDX,hB.setCell (p:=⟨gb,0,none⟩) HG.out.1 _,(KeepsOthers.setCell wp ⟨gb,0,none⟩ _).same D _ hK rfl⟩,by omega⟩
    ·have hx0:((x.toNat:Int)==0)=false:=by
      rw [beq_eq_false_iff_ne];intro e;exact hx (UInt8.toNat_inj.1 (by show x.toNat=0;omega))
     have HX:=Lib.hid hx
     have HFIN:Hid (attT seed p a n=⟨(tl.drop o).toArray⟩):=by
      have h:=HDW.out;rw [Hid,HAV.out,←h];congr 2
      rw [HDC.out,List.dropWhile_cons,if_neg (by rw [beq_iff_eq];exact hx)]
     clear hx;gi_wp2
     refine ⟨by simp,.inl ⟨_,_,rfl,run_takeDeferred hK,?_⟩⟩;exact ⟨_,results_tmp rfl _ _ _,by rw [HFIN.out];rfl,hB.trans (belowK_b (w:=W0) HG.out.2.2.2.2 wp D _ _ HHD.out hK rfl rfl)⟩
   ·have hr0:rr=0:=by have:=HRR.out;omega
    have hcv:=row_strN (w:=wp) (b:=g') (o:=o) (c:=c') (l:=[]) (fun i hi=>absurd hi (Nat.not_lt_zero _));subst hr0;have hcv2:(convert 191 22 (.slice (some ⟨g',o,none⟩) 0 c')).run Tryz.prog wp=.ok (.string ⟨#[]⟩) wp:=hcv
    have HFIN:Hid (attT seed p a n=⟨#[]⟩):=by
     have h:=HDW.out;rw [List.drop_eq_nil_of_le (by rw [HTL.out];omega)] at h;rw [Hid,HAV.out,←h];rfl
    clear hcv;gi_wp2
    refine ⟨by simp,.inl ⟨_,_,rfl,run_takeDeferred hK,?_⟩⟩;exact ⟨_,results_tmp rfl _ _ _,by rw [HFIN.out];rfl,hB.trans (belowK_b (w:=W0) HG.out.2.2.2.2 wp D _ _ HHD.out hK rfl rfl)⟩
end
section
def laid3:List (String × DataW Unit):=[("math/bits.deBruijn32tab",Rows.laid_math_bits_deBruijn32tab),("math/bits.deBruijn64tab",Rows.laid_math_bits_deBruijn64tab),("internal/strconv.uint64pow10",Rows.laid_internal_strconv_uint64pow10)]
theorem door_met (os:Os) (args:Array Value):laidMetH Tryz.prog laid3 ((World.doorLaid Tryz.prog 24 os).forCall (fun _ _=>0) ⟨#[],args,[]⟩).memory:=
 laidMetH_of_parts3 (fuel:=8) (laidMet_of_run' 8 (by kernel_rfl) (by kernel_rfl)) (by kernel_rfl) (by kernel_rfl)
end
section
/- The attempts of the program: a function;the table that the row lists. -/
open Go.RowKit Go.Shelf
theorem laid_tail {P:Program} {x:String × DataW Unit} {r:List (String × DataW Unit)} {w:World} (h:laidMet P (x :: r) w):laidMet P r w:=by
 obtain ⟨ps,hv,hnd,hrows⟩:=h;obtain ⟨n,d⟩:=x;obtain ⟨g,t,cs,fuel,p,q,_,_,_,_,hq,rfl⟩:=hv;exact ⟨q,hq,List.Nodup.sublist (List.sublist_append_right _ _) hnd,fun b off hm=>hrows b off (List.mem_append_right _ hm)⟩
theorem tab_of_laid {W:World} (h:laidMetH Tryz.prog laid3 W):TabW W:=by
 rw [MakeChecks.laidMetH_plain _ _ _ (by kernel_rfl)] at h;have h2:laidMet Tryz.prog [("internal/strconv.uint64pow10",Lib.tabData .u64 Lib.pow10Tab)] W:=laid_tail (laid_tail h);have hs:(Tryz.prog.globalNamed "internal/strconv.uint64pow10").isSome=true:=by kernel_rfl
 have ht:((Tryz.prog.globalNamed "internal/strconv.uint64pow10").bind fun g=>(Tryz.prog.globals[g]?).map (·.type))=some 332:=by kernel_rfl
 obtain ⟨g,hg⟩:=Option.isSome_iff_exists.1 hs;rw [hg,Option.bind_some] at ht;exact Lib.tabIs_of_head (e:=55) (n:=20) hg ht Tryz.underlying332 Tryz.underlying55 (by kernel_rfl) (by kernel_rfl) h2
theorem canon_fact:∀(k:Nat) (s:ByteArray),s.size=k→s.size≤128→vldB (canonV s)=true∧(canonV s).size≤s.size
 | 0,s,h,_=>by
  obtain rfl:s=ByteArray.empty:=by apply ByteArray.ext;apply Array.eq_empty_of_size_eq_zero;exact h
  exact ⟨vldB_empty,Nat.le_refl _⟩
 | k+1,s,h,h2=>by
  have hp:0<s.size:=by omega
  by_cases h0:s[0].toNat=0
  ·rw [canon_zero s hp h0];have hs:(s.extract 1 s.size).size=k:=by rw [ByteArray.size_extract];omega
   obtain ⟨a,b⟩:=canon_fact k (s.extract 1 s.size) hs (by omega);exact ⟨a,by omega⟩
  ·rw [canon_stop s hp h0];refine ⟨?_,Nat.le_refl _⟩;rw [vldB_pos hp h2,bne_iff_ne];omega
def attN:Att:=fun sd p a k=>numb (attT sd p a k)
theorem att_num (sd:ByteArray) (p a n:Nat) (h2:n≤512):attT sd p a n=E (attN sd p a n)∧attN sd p a n<256^64:=by
 obtain ⟨v,hv⟩:∃v,v=((⟨#[UInt8.ofNat (byt (blV sd p a (((n+7) / 8+31) / 32)) 0%2^(8-(8*((n+7) / 8)-n)))]⟩:ByteArray)++(blV sd p a (((n+7) / 8+31) / 32)).extract 1 ((n+7) / 8)):=⟨_,rfl⟩;have hT:attT sd p a n=canonV v:=by rw [hv];rfl
 have hs:v.size≤64:=by
  rw [hv,ByteArray.size_append,ByteArray.size_extract];show 1+_≤64;omega
 obtain ⟨c1,c2⟩:=canon_fact v.size v rfl (by omega);rw [←hT] at c1 c2;obtain ⟨x,hx,e⟩:=numk (k:=64) (by omega) c1
 have he:attN sd p a n=x:=by
  show numb (attT sd p a n)=x;rw [e,numb_E]
 rw [he];exact ⟨e,hx⟩
theorem hatt (sd:ByteArray) (w:World) (hs:sd.size≤1000) (ht:TabW w):HAtt attN sd w:=fun _ p a k h1 h2 h3 h4=>⟨(att_num sd p a k h4).2,fun ao m c W hW=>by
 rw [←(att_num sd p a k h4).1];exact attempt_v sd p a k ao m c W hs h1 h2 h3 h4 (ht.after hW)⟩
end
section
open Go.RowKit Go.Shelf
theorem kfw_inv {a b c d:ByteArray} (h:kfw a b c d=true):a.size≤8∧b.size≤8∧c.size≤12∧d.size≤12:=by
 simp only [kfw,Bool.and_eq_true,decide_eq_true_eq] at h;exact ⟨h.1.1.1,h.1.1.2,h.1.2,h.2⟩
end
end Go.Proofs.YteahlbhjhjhljaaGreatDoor
