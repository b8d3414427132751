import Derived.Carry
import Derived.ChangeSlices
import Derived.WideKeyArgs
import Derived.Deep.Slices
import Derived.OpenShut
import Derived.Test.YtdgddpnjkinciaaGreatDoorSig5
set_option linter.all false
set_option maxRecDepth 100000
set_option maxHeartbeats 16000000
namespace Go.Proofs.YtdgddpnjkinciaaGreatDoor
section
/- A bounded integer,openings,a tape,numbers as arguments: opened into what their slices read. -/
open Go.RowKit Go.WideShapes Go.ChangeShapes Go.ChangeAt Go.Joins Go.Deep
open Go.ChangeMaps (open_string shut_string)
theorem laid_out:laidOutB Tryz.prog=true:=by kernel_rfl
theorem array3 {α:Type} {l:Array α} (h:l.size=3):∃a b c,l=#[a,b,c]:=by
 obtain⟨l⟩:=l;match l,h with
 | [a,b,c],_=>exact⟨a,b,c,rfl⟩
theorem array11 {α:Type} {l:Array α} (h:l.size=11):∃a b c d e f g i j k m,l=#[a,b,c,d,e,f,g,i,j,k,m]:=by
 obtain⟨l⟩:=l;match l,h with
 | [a,b,c,d,e,f,g,i,j,k,m],_=>exact⟨a,b,c,d,e,f,g,i,j,k,m,rfl⟩
theorem zNat:Tryz.prog.cellsOf 22=1:=by kernel_rfl
theorem zGrp:Tryz.prog.cellsOf 24=2:=by kernel_rfl
theorem zInt:Tryz.prog.cellsOf 28=2:=by kernel_rfl
theorem zPed:Tryz.prog.cellsOf 26=4:=by kernel_rfl
theorem zOpn:Tryz.prog.cellsOf 30=4:=by kernel_rfl
theorem zBnd:Tryz.prog.cellsOf 32=11:=by kernel_rfl
theorem zi64:Tryz.prog.cellsOf 3=1:=by kernel_rfl
theorem zB:Tryz.prog.cellsOf 4=1:=by kernel_rfl
theorem zNs:Tryz.prog.cellsOf 33=1:=by kernel_rfl
theorem zTape:Tryz.prog.cellsOf 35=3:=by kernel_rfl
theorem zStr:Tryz.prog.cellsOf 9=1:=by kernel_rfl
section
variable {H:Type} {enc:TypeId × Value→H} {w:World} {base:Nat} {held:Bool}
theorem trod_struct5 {P:Program} {spare:Nat→Bool} {t:TypeId} {f0 f1 f2 f3 f4:Field} {fuel:Nat} {cs:List Value} {x:DataW H × List MemPlace} (ht:P.underlying t=some (.struct #[f0,f1,f2,f3,f4])) (h:DataW.trod enc P w base spare held fuel t cs=some x) :
  ∃(y0 y1 y2 y3 y4:DataW H × List MemPlace) (n:Nat),True∧cs.length=P.cellsOf t∧DataW.trod enc P w base spare held n f0.type ((cs.drop f0.offset).take (P.cellsOf f0.type))=some y0 ∧
   DataW.trod enc P w base spare held n f1.type ((cs.drop f1.offset).take (P.cellsOf f1.type))=some y1∧DataW.trod enc P w base spare held n f2.type ((cs.drop f2.offset).take (P.cellsOf f2.type))=some y2 ∧
   DataW.trod enc P w base spare held n f3.type ((cs.drop f3.offset).take (P.cellsOf f3.type))=some y3∧DataW.trod enc P w base spare held n f4.type ((cs.drop f4.offset).take (P.cellsOf f4.type))=some y4:=by
 obtain⟨xs,n,_,rfl,hl,hb,hf⟩:=DataW.trod_struct ht h;match xs,hb with
 | [y0,y1,y2,y3,y4],_=>exact⟨y0,y1,y2,y3,y4,n,trivial,hl,by simpa using hf 0 f0 rfl,by simpa using hf 1 f1 rfl,by simpa using hf 2 f2 rfl,by simpa using hf 3 f3 rfl,by simpa using hf 4 f4 rfl⟩
theorem row_of {α:Type} {Q:World→α→List Value→Prop} {Sz:α→Prop} (d:α) {size fuel:Nat} {t e:TypeId} {cs:List Value} {x:DataW H × List MemPlace} (ht:Tryz.prog.underlying t=some (.slice e)) (hc:Tryz.prog.cellsOf e=size) (h0:0<size)
  (h:DataW.trod enc Tryz.prog w base (fun _=>true) held fuel t cs=some x)
  (elem:∀n cs' y,cs'.length=size→DataW.trod enc Tryz.prog w base (fun _=>true) held n e cs'=some y→∃a,Q w a cs'∧Sz a) :
  ∃ao n c l,cs=[.slice ao n c]∧RAt Q size w (.slice ao n c) l∧(∀a∈l,Sz a)∧l.length≤maxLen:=by
 rcases open_slice ht h with⟨rfl,_⟩ | ⟨a,len,cap,m,n,D,Pl,rfl,hb,hl,hm,hh,_,hk⟩
 ·exact⟨none,0,0,[],rfl,⟨none,0,rfl,.inl rfl⟩,by simp,by simp⟩
 ·rw[if_pos rfl]at hh;subst hh;rw[hc]at hk;haveI:Inhabited α:=⟨d⟩
  obtain⟨f,hf⟩:=choose_lt (α:=α) (n:=len) (p:=fun i y=>∃cs',w.cells? base (a.add (i*size)) size=some cs'∧Q w y cs'∧Sz y) (fun i hi=>by
   obtain⟨cs',h1,h2⟩:=hk i (by omega);obtain⟨y,hy1,hn⟩:=elem n cs' _ (World.cells?_some h1).2.1 h2;exact⟨y,cs',h1,hy1,hn⟩)
  have hd:((List.range len).map f).length=len:=by simp
  refine⟨some a,len,m,(List.range len).map f,rfl,⟨some a,m,by rw[hd],?_⟩,fun y hy=>?_,by rw[hd];omega⟩
  ·by_cases ho:len=0
   ·exact .inl (by rw[hd];exact ho)
   ·obtain⟨b,off,spot⟩:=a;obtain⟨cs0,g1,_⟩:=hf 0 (by omega);obtain⟨_,g2,g3⟩:=World.cells?_some g1;have g4:=g3 0 h0;have g5:0<cs0.length:=by omega
    rw[List.getElem?_eq_getElem g5]at g4;have he:spot=none:=by simpa [Addr.add] using World.cell?_spot g4
    subst he;refine .inr ⟨b,off,rfl,?_,fun j hj=>?_⟩
    ·rw[add_plain,add_plain]at g4;apply Classical.byContradiction
     intro hp;have hg:w.heap[b]?=none:=by simpa using hp
     simp[World.cell?,hg]at g4
    ·obtain⟨cs',k1,k2,_⟩:=hf j (by rw[←hd];exact hj);refine⟨cs',by simpa using k2,fun i hi=>?_⟩;have:=(World.cells?_some k1).2.2 i hi;rw[add_plain,add_plain]at this;exact this
  ·obtain⟨j,hj,rfl⟩:=List.mem_map.1 hy;obtain⟨cs',_,_,hz⟩:=hf j (List.mem_range.1 hj);exact hz
theorem el_nat {n:Nat} {cs:List Value} {y:DataW H × List MemPlace} (hl:cs.length=1) (h:DataW.trod enc Tryz.prog w base (fun _=>true) held n 22 cs=some y):∃a,QStr w a cs∧a.size≤maxLen:=by
 obtain⟨s,rfl,_,hs⟩:=DataW.trod_string Tryz.underlying22 h;exact⟨s,rfl,hs⟩
theorem open_bnd {r:Reach} {b0:Nat} {v:Value} {d:DataW H} {p:List MemPlace} (hv:Value.okWide Tryz.prog w r b0 32 v) (h:DataW.Trod enc Tryz.prog w base (fun _=>true) held 32 v d p) :
  ∃(a b c d:ByteArray) (lo:Int) (vn:Bool) (va:ByteArray) (rn:Bool) (ra vl rd:ByteArray),
   v=.agg #[.string a,.string b,.string c,.string d,.int .i64 lo,.bool vn,.string va,.bool rn,.string ra,.string vl,.string rd]∧va.size≤9223372036854775807∧ra.size≤9223372036854775807:=by
 obtain⟨cs,rfl,hm⟩:=okWide_struct Tryz.underlying32 hv;obtain⟨c0,c1,c2,c3,c4,c5,c6,c7,c8,c9,c10,rfl⟩:=array11 (hm.trans zBnd);obtain⟨fuel,hf⟩:=h;obtain⟨y0,y1,y2,y3,y4,m,_,_,h0,h1,h2,h3,h4⟩:=trod_struct5 Tryz.underlying32 hf;simp only[Value.cells,zPed,zOpn,zNat,zi64,List.drop_succ_cons,List.drop_zero,List.take_succ_cons,List.take_zero]at h0 h1 h2 h3 h4;obtain⟨_,_,_,m0,_,_,k0,k1,k2⟩:=trod_struct3 Tryz.underlying26 h0;obtain⟨_,_,m1,_,_,o0,o1⟩:=trod_struct2 Tryz.underlying30 h2;simp only[zGrp,zNat,zInt,List.drop_succ_cons,List.drop_zero,List.take_succ_cons,List.take_zero]at k0 k1 k2 o0 o1;obtain⟨_,_,m2,_,_,g0,g1⟩:=trod_struct2 Tryz.underlying24 k0;obtain⟨_,_,m3,_,_,i0,i1⟩:=trod_struct2 Tryz.underlying28 o0;obtain⟨_,_,m4,_,_,j0,j1⟩:=trod_struct2 Tryz.underlying28 o1;simp only[zNat,zB,List.drop_succ_cons,List.drop_zero,List.take_succ_cons,List.take_zero]at g0 g1 i0 i1 j0 j1;obtain⟨a,ha,_,sa⟩:=DataW.trod_string Tryz.underlying22 g0;obtain⟨b,hb,_,sb⟩:=DataW.trod_string Tryz.underlying22 g1;obtain⟨c,hc,_,sc⟩:=DataW.trod_string Tryz.underlying22 k1;obtain⟨d,hd,_,sd⟩:=DataW.trod_string Tryz.underlying22 k2;obtain⟨lo,he,_⟩:=DataW.trod_int Tryz.underlying3 h1;obtain⟨vn,hg,_⟩:=DataW.trod_bool Tryz.underlying4 i0;obtain⟨va,hh,_,sva⟩:=DataW.trod_string Tryz.underlying22 i1;obtain⟨rn,hi,_⟩:=DataW.trod_bool Tryz.underlying4 j0;obtain⟨ra,hj,_,sra⟩:=DataW.trod_string Tryz.underlying22 j1;obtain⟨vl,hk,_,svl⟩:=DataW.trod_string Tryz.underlying22 h3;obtain⟨rd,hl,_,srd⟩:=DataW.trod_string Tryz.underlying22 h4;simp only[List.cons.injEq,and_true]at ha hb hc hd he hg hh hi hj hk hl;subst ha hb hc hd he hg hh hi hj hk hl;unfold maxLen at sva sra;exact⟨a,b,c,d,lo,vn,va,rn,ra,vl,rd,rfl,sva,sra⟩
theorem open_tape {r:Reach} {b0:Nat} {v:Value} {d:DataW H} {p:List MemPlace} (hv:Value.okWide Tryz.prog w r b0 35 v) (h:DataW.Trod enc Tryz.prog w base (fun _=>true) held 35 v d p) :
  ∃(V:List ByteArray) (sd:ByteArray) (ti:Int) (st:Option Addr) (mt dt:Nat),v=.agg #[.slice st mt dt,.string sd,.int .i64 ti]∧(∀x∈V,x.size≤9223372036854775807)∧sd.size≤9223372036854775807∧V.length≤9223372036854775807∧SsAt w (.slice st mt dt) V:=by
 obtain⟨cs,rfl,he⟩:=okWide_struct Tryz.underlying35 hv;obtain⟨c0,c1,c2,rfl⟩:=array3 (he.trans zTape);obtain⟨fuel,hf⟩:=h;obtain⟨_,_,_,m2,_,_,a0,a1,a2⟩:=trod_struct3 Tryz.underlying35 hf;simp only[Value.cells,zNs,zStr,zi64,List.drop_succ_cons,List.drop_zero,List.take_succ_cons,List.take_zero]at a0 a1 a2;obtain⟨sd,hb,_,ssd⟩:=DataW.trod_string Tryz.underlying9 a1;obtain⟨ti,hc,_⟩:=DataW.trod_int Tryz.underlying3 a2;obtain⟨f1,f2,f3,TV,hd,rTV,sTV,lTV⟩:=row_of (Q:=QStr) (Sz:=fun a=>a.size≤maxLen) ⟨#[]⟩ Tryz.underlying33 zNat (by decide) a0 (fun n cs' y hl h=>el_nat hl h);simp only[List.cons.injEq,and_true]at hb hc hd;subst hb hc hd;unfold maxLen at ssd sTV lTV;exact⟨TV,sd,ti,_,_,_,rfl,sTV,ssd,lTV,rTV⟩
end
end
section
/- Arguments: a byte. -/
open Go.RowKit Go.WideShapes Go.ChangeShapes Go.ChangeAt Go.Joins Go.Deep
section
variable {H:Type} {enc:TypeId × Value→H} {w:World} {base:Nat} {held:Bool}
theorem open_byte {r:Reach} {b0:Nat} {v:Value} {d:DataW H} {p:List MemPlace} (hv:Value.okWide Tryz.prog w r b0 5 v) (h:DataW.Trod enc Tryz.prog w base (fun _=>true) held 5 v d p):∃k:Nat,v=.int .u8 (k:Int)∧k<256:=by
 obtain⟨n,rfl,_,_,wn⟩:=open_int Tryz.underlying5 hv h;obtain⟨h1,h2⟩:=bounds_u8 wn;exact⟨n.toNat,by rw[Int.toNat_of_nonneg h1],by omega⟩
end
end
section
open Go.RowKit Go.Shelf
theorem verify_num (N:NSta) (C K c:Nat) (F:List Nat) (Z:List Int) (v1 v2 v3 f rs:Value) (w:World) (hC:C<256^16) (hK:K<256^16) (hm:NOk N) (hS:NAt w v1 v2 v3 N) (hc:N.chk=0)
  (jB:∀w',Bw w w'→Calls Tryz.prog 30 #[.agg #[.string (E C),.string (E K)],.agg #[v1,v2,v3]] w' (BPost w' (N.lims C K)))
  (hO:SsAt w f (F.map E)) (hT:ZsAt w rs Z) (jT:F.length≤1000) (jC:∀x∈F,x<256^128) (jD:c<256^128) (jE:Z.length≤1000) (jF:∀z∈Z,z.natAbs<256^64) :
  Calls Tryz.prog 11 #[.agg #[.string (E C),.string (E K)],.agg #[v1,v2,v3],.agg #[f,.string (E c),rs]] w fun e w'=>e=.returned (.int .i64 (N.ver C K F c Z:Nat))∧Bw w w':=by
 obtain⟨r,hr⟩:∃r:Nat,r=N.ver C K F c Z:=⟨_,rfl⟩;have hW:=Kh hr;rw[←hr];clear hr;have jG:=Kh jB;have ji:=Kh hc;have HC:=Kh (lt128' hC (by decide));have jU:=Kh hC;have jV:=Kh hK;have jH:=Kh jC;have HP:=Kh jD;have jb:=Kh jF;obtain⟨a4,c4,jj⟩:=RAt.form hO;obtain⟨a5,c5,jI⟩:=hT.form;rw[List.length_map]at jj;obtain⟨nF,jk⟩:∃n,n=F.length:=⟨_,rfl⟩;obtain⟨nZ,jl⟩:∃n,n=Z.length:=⟨_,rfl⟩;have Ha:=Kh jk;have HK:=Kh jl;rw[←jk]at jj jT;rw[←jl]at jI jE;subst jj jI;obtain⟨a1,c1,a2,c2,a3,c3,rfl,rfl,rfl⟩:=hS.forms;obtain⟨n1,HQ⟩:∃n,n=N.grps.length:=⟨_,rfl⟩;obtain⟨n2,HR⟩:∃n,n=N.vars.length:=⟨_,rfl⟩;obtain⟨n3,HS⟩:∃n,n=N.eqs.length:=⟨_,rfl⟩;have jJ:=Kh HQ;have jm:=Kh HR;have jK:=Kh HS;have l1:n1≤10:=by rw[HQ];exact hm.ng
 have l2:n2≤12:=by rw[HR];exact hm.nv
 have l3:n3≤12:=by rw[HS];exact hm.ne
 have HM:=Kh hm;rw[←HQ,←HR,←HS]at hS ⊢;rw[←HQ,←HR,←HS]at jG;obtain⟨hR,hP,hF,ho⟩:=blk3 w #[.string (E C),.string (E K)] #[.slice a1 n1 c1,.slice a2 n2 c2,.slice a3 n3 c3] #[.slice a4 nF c4,.string (E c),.slice a5 nZ c5] 52 43 54;replace hS:=hS.after ho;replace hO:=SsAt.after hO ho;replace hT:=hT.after ho;clear hm HQ HR HS hC hK hc jB jC jD jF jk jl;obtain⟨Hd,He,Hf,Hg⟩:=hR.x2;obtain⟨he,hf,hg,hh,hi,hl⟩:=hP.x3;go_enter Tryz.func11,Tryz.ntmps11
 go_wp2_with fail
 refine (jG.out _ ho).mono ?_;rintro e w2 ⟨lv,rfl,hX,Hm⟩;clear Hd He Hf Hg;clear he hf hg hh hi hl;replace hR:=hR.after Hm;replace hP:=hP.after Hm;replace hF:=hF.after Hm;replace hS:=hS.after Hm;replace hO:=SsAt.after hO Hm;replace hT:=hT.after Hm;replace ho:=bt ho Hm;clear Hm;obtain⟨a6,c6,rfl⟩:=hX.form;have jL:Hid ((N.lims C K).length=n2):=by rw[Hid,NSta.lims,List.length_map,jm.out]
 rw[jL.out]at hX ⊢;have h0:=hF.lt;obtain⟨hE,hH,hI,hJ,hL,hM⟩:=hF.x3;go_wp2;clear hE hH hI hJ hL hM;clear h0;go_loopw [33] (fun i wr=>∃k:Nat,k≤nF∧i=.int .i64 k∧Bw w2 wr) (fun i _=>nF-(intOf i).toNat)
 case atStart=>exact⟨0,by omega,rfl,Br⟩
 case round =>
  obtain⟨k,hk,rfl,hb⟩:=hrel;obtain⟨wp,jW⟩:∃wp,wp=wr:=⟨_,rfl⟩;subst jW;replace hR:=hR.after hb;replace hP:=hP.after hb;replace hF:=hF.after hb;replace hS:=hS.after hb;replace hO:=SsAt.after hO hb;replace hT:=hT.after hb;replace hX:=hX.after hb;replace ho:=bt ho hb;by_cases hlt:k<nF
  ·have hn:k<F.length:=by rw[←Ha.out];exact hlt
   have jn:k<(F.map E).length:=by simpa using hn
   have hY:=Kh (jH.out _ (Gm hn));obtain⟨b,o,rfl,jc,x1⟩:=SsAt.at_ hO jn;simp only[List.getElem_map]at x1;generalize (F[k]'hn)=s1 at x1 hY;have jo:(0:Int)≤(k:Int):=by omega
   have jp:(k:Int)<(nF:Int):=by omega
   go_wp2_with fail
   refine (validE_c s1 _ hY.out).mono ?_;rintro e w' ⟨rfl,rfl⟩;go_wp2;go_roundw
   case rel=>exact⟨k+1,by omega,by go_num,hb⟩
   case measure=>simp[intOf];omega
  ·clear hb;have h0:=hF.lt;obtain⟨hE,hH,hI,hJ,hL,hM⟩:=hF.x3;go_wp2_with fail
   refine (validE_c c _ HP.out).mono ?_;rintro e w' ⟨rfl,rfl⟩;go_wp2_with fail
   refine (svalidV_c (Z.map zI) _ true _ (by rw[List.length_map,←HK.out];exact jE) (fun x hx=>by obtain⟨z,hz,rfl⟩:=List.mem_map.1 hx;exact Nat.le_trans ((E_size_le _ 64).2 (jb.out z hz)) (by decide)) hT (by rw[List.all_map,List.all_eq_true];intro z hz;exact ivB_I z (lt64 (jb.out z hz)))).mono ?_;rintro e w5 ⟨rfl,Hh⟩;clear hE hH hI hJ hL hM;replace hR:=hR.after Hh;replace hP:=hP.after Hh;replace hF:=hF.after Hh;replace hS:=hS.after Hh;replace hO:=SsAt.after hO Hh;replace hT:=hT.after Hh;replace hX:=hX.after Hh;replace ho:=bt ho Hh;clear Hh h0;have h0:=hF.lt;have Hn:=hP.lt;have Hq:=hR.lt;by_cases jq:nF=n3∧nZ=n2
   ·obtain⟨e1,e2⟩:=jq;have Hb:Hid (F.length=N.eqs.length):=by rw[Hid,←Ha.out,←jK.out];exact e1
    have Ho:Hid (Z.length=N.vars.length):=by rw[Hid,←HK.out,←jm.out];exact e2
    subst e1 e2;rcases Nat.lt_or_ge c C with jr | js
    ·have jM:=cmp_neg c C jr;have HT:¬ 0≤cmpN c C:=by omega
     have jd:=Kh jr;clear jr;obtain⟨hE,hH,hI,hJ,hL,hM⟩:=hF.x3;obtain⟨he,hf,hg,hh,hi,hl⟩:=hP.x3;obtain⟨Hd,He,Hf,Hg⟩:=hR.x2;go_wp2_with fail
     refine (cmp_c c C _ HP.out HC.out).mono ?_;rintro e w' ⟨rfl,rfl⟩;go_wp2;clear hE hH hI hJ hL hM;clear he hf hg hh hi hl;clear Hd He Hf Hg;clear jM HT;go_loopw [79] (fun i wr=>∃k:Nat,k≤nZ∧i=.int .i64 k∧Hid (∀j,j<k→blJ N C K Z j=true)∧Bw w5 wr) (fun i _=>nZ-(intOf i).toNat)
     case atStart=>exact⟨0,by omega,rfl,fun j h=>absurd h (Nat.not_lt_zero _),Br⟩
     case round =>
      obtain⟨k,hk,rfl,HA,hb⟩:=hrel;obtain⟨wq,jX⟩:∃wp,wp=wr:=⟨_,rfl⟩;subst jX;replace hR:=hR.after hb;replace hP:=hP.after hb;replace hF:=hF.after hb;replace hS:=hS.after hb;replace hO:=SsAt.after hO hb;replace hT:=hT.after hb;replace hX:=hX.after hb;replace ho:=bt ho hb;clear h0 Hn Hq;have h0:=hF.lt;have Hn:=hP.lt;have Hq:=hR.lt;by_cases hlt:k<nZ
      ·have hn:k<N.vars.length:=by rw[←Ho.out,←HK.out];exact hlt
       have je:k<Z.length:=by rw[←HK.out];exact hlt
       have jN:k<(N.lims C K).length:=by rw[jL.out];exact hlt
       have jf:=Kh (blJ_at N C K Z k hn je);have jt:=Kh (lim_lt HM.out jU.out jV.out (Gm hn));have jO:=Kh (lt64 (jb.out _ (Gm je)));obtain⟨b,o,rfl,jc,x1⟩:=hS.vat hn;obtain⟨b',o',rfl,hp,y1,y2⟩:=hT.at_ je;obtain⟨b6,rfl,HU,z1,z2⟩:=hX.at_ jN;rw[lims_at N C K k hn jN]at z1 z2;generalize (N.vars[k]'hn)=vb at x1 z1 z2 jf jt;generalize (Z[k]'je)=zz at y1 y2 jf jO;generalize (lim N.ord C K vb).1=la at z1;generalize (lim N.ord C K vb).2=lb at z2 jf jt;have jo:(0:Int)≤(k:Int):=by omega
       have jp:(k:Int)<(nZ:Int):=by omega
       obtain⟨hV,h4⟩:=blk1 wq #[.string (E vb)] 81;have hd:=hF.after h4;have y1':=(h4.cell (p:=⟨b',o'+k*2,none⟩) hp).trans y1;have y2':=(h4.cell (p:=⟨b',o'+k*2+1,none⟩) hp).trans y2;have z2':=(h4.cell (p:=⟨b6,k*2+1,none⟩) HU).trans z2;have g1:=gcl (a:=⟨b',o'+k*2,none⟩) (Nl hp h4.size) y1';have g2:=gcl (a:=⟨b',o'+k*2+1,none⟩) (Nl hp h4.size) y2';have g3:=gcl (a:=⟨b6,k*2+1,none⟩) (Nl HU h4.size) z2'
       have Hi:Hid (∀w,Calls Tryz.prog 39 #[.agg #[.string (E vb)],.agg #[.bool (sg (zz)),.string (E (zz).natAbs)],.string (E lb)] w fun e w'=>e=.returned (.bool (blJ N C K Z k))∧Bw w w'):=fun w=>by
        rw[jf.out];exact below_c vb zz lb w jO.out (Nl jt.out (by decide))
       cases hZ:blJ N C K Z k
       ·have h3:Hid (r=2):=by rw[Hid,hW.out,ver_2b Hb.out Ho.out jd.out (ra_false hn hZ)]
        rw[hZ]at Hi;clear hZ;go_upto_region 19 with fail
        generalize wq.alloc (.cells #[.string (E vb)] 81)=wv at hV h4 hd y1' y2' z2' g1 g2 g3 ⊢;replace hV:Blk wv wq.heap.size 81 [.string (E vb)]:=hV;obtain⟨ju,jv⟩:=hV.x1;obtain⟨hq,ht,hu,hv,hw,hy⟩:=hd.x3;have jw:=hV.gcell 0;have hA:=hd.gcell 0;have hB:=hd.gcell 1;have hD:=hd.gcell 2;go_wp2_with fail
        refine wp_region_gw (by kernel_rfl) (by kernel_rfl) ?_;repeat (go_big_quiet_step (first | (go_at_call 39;exact gw_of (Hi.out _))))
        refine wpQuiet_nil ?_;rintro w7 ⟨xw7,rfl⟩;have h5:=gw_below xw7;generalize gw xw7=w7 at h5;go_wp2;go_ret
        exact⟨by rw[h3.out];rfl,bt (bt ho h4) h5⟩
       ·have HX:Hid (∀j,j<k+1→blJ N C K Z j=true):=fun j hj=>by
         by_cases e:j=k
         ·rw[e];exact hZ
         ·exact HA.out j (by omega)
        rw[hZ]at Hi;clear hZ;go_upto_region 19 with fail
        generalize wq.alloc (.cells #[.string (E vb)] 81)=wv at hV h4 hd y1' y2' z2' g1 g2 g3 ⊢;replace hV:Blk wv wq.heap.size 81 [.string (E vb)]:=hV;obtain⟨ju,jv⟩:=hV.x1;obtain⟨hq,ht,hu,hv,hw,hy⟩:=hd.x3;have jw:=hV.gcell 0;have hA:=hd.gcell 0;have hB:=hd.gcell 1;have hD:=hd.gcell 2;go_wp2_with fail
        refine wp_region_gw (by kernel_rfl) (by kernel_rfl) ?_;repeat (go_big_quiet_step (first | (go_at_call 39;exact gw_of (Hi.out _))))
        refine wpQuiet_nil ?_;rintro w7 ⟨xw7,rfl⟩;have h5:=gw_below xw7;generalize gw xw7=w7 at h5;go_wp2;go_roundw
        case rel=>exact⟨k+1,by omega,by go_num,HX,bt (bt hb h4) h5⟩
        case measure=>simp[intOf];omega
      ·have jx:Hid (ra N.vars.length (blJ N C K Z)=true):=ra_true fun j hj=>HA.out j (by have:=Ho.out;have:=HK.out;omega)
       clear hb HA;obtain⟨he,hf,hg,hh,hi,hl⟩:=hP.x3;go_wp2;clear he hf hg hh hi hl;go_loopw [101] (fun i wr=>∃k:Nat,k≤nF∧i=.int .i64 k∧Hid (∀j,j<k→hsJ N F j=true)∧Bw wq wr) (fun i _=>nF-(intOf i).toNat)
       case atStart=>exact⟨0,by omega,rfl,fun j h=>absurd h (Nat.not_lt_zero _),Br⟩
       case round =>
        clear hlt hk;obtain⟨k,hk,rfl,HA,hb⟩:=hrel;obtain⟨wt,jY⟩:∃wp,wp=wr:=⟨_,rfl⟩;subst jY;replace hR:=hR.after hb;replace hP:=hP.after hb;replace hF:=hF.after hb;replace hS:=hS.after hb;replace hO:=SsAt.after hO hb;replace hT:=hT.after hb;replace hX:=hX.after hb;replace ho:=bt ho hb;clear h0 Hn Hq;have h0:=hF.lt;have Hn:=hP.lt;have Hq:=hR.lt;by_cases hlt:k<nF
        ·have hn:k<N.eqs.length:=by rw[←Hb.out,←Ha.out];exact hlt
         have Hj:k<F.length:=by rw[←Ha.out];exact hlt
         have Hr:k<(F.map E).length:=by simpa using Hj
         have hY:=Kh (HM.out.e _ (Gm hn));have h6:=Kh (chk_elem ji.out k hn hY.out.1);have jg:=Kh (hsJ_at N F k hn Hj hY.out.1);have jP:=Kh (jH.out _ (Gm Hj));obtain⟨b,o,tv,rfl,jc,x1,x2,x3,HL⟩:=hS.eat hn;obtain⟨b',o',rfl,hp,y1⟩:=SsAt.at_ hO Hr;simp only[List.getElem_map]at y1;generalize (N.eqs[k]'hn)=q at x1 x2 x3 HL hY h6 jg;have h7:=hY.out.1;have jy:q.grp<n1:=by rw[jJ.out];exact h7
         have Hk:=Kh (HM.out.g _ (Gm h7));obtain⟨bg,og_,rfl,HN,z1,z2⟩:=hS.gat h7;generalize (N.grps[q.grp]'h7)=gg at z1 z2 Hk h6 jg;clear h7;obtain⟨p,qq⟩:=gg;simp only[]at z1 z2;generalize (F[k]'Hj)=ff at y1 jg jP;obtain⟨qg,HV⟩:∃g,g=q.grp:=⟨_,rfl⟩;obtain⟨qt,HW⟩:∃g,g=q.tgt:=⟨_,rfl⟩;rw[←HV]at x1 z1 z2 jy;rw[←HW]at x2;clear HV HW;obtain⟨to_,tc,rfl⟩:=HL.form;generalize q.trms.length=n4 at x3;have jo:(0:Int)≤(k:Int):=by omega
         have jp:(k:Int)<(nF:Int):=by omega
         have jZ:(0:Int)≤(qg:Int):=by omega
         have j0:(qg:Int)<(n1:Int):=by omega
         obtain⟨hQ,hN⟩:=blk1 wt #[.int .i64 (qg:Int),.string (E qt),.slice to_ n4 tc] 87;have hd:=hF.after hN;have Hc:=hP.after hN;have y1':=(hN.cell (p:=⟨b',o'+k,none⟩) hp).trans y1;have z1':=(hN.cell (p:=⟨bg,og_+qg*2,none⟩) HN).trans z1;have z2':=(hN.cell (p:=⟨bg,og_+qg*2+1,none⟩) HN).trans z2;have g1:=gcl (a:=⟨b',o'+k,none⟩) (Nl hp hN.size) y1';have g2:=gcl (a:=⟨bg,og_+qg*2,none⟩) (Nl HN hN.size) z1';have g3:=gcl (a:=⟨bg,og_+qg*2+1,none⟩) (Nl HN hN.size) z2'
         have Hi:Hid (∀w,Calls Tryz.prog 40 #[.agg #[.string (E p),.string (E qq)],.string (E ff)] w fun e w'=>e=.returned (.bool (hsJ N F k))∧Bw w w'):=fun w=>by
          rw[jg.out];exact pHas_c p qq ff w Hk.out.1 (lt128 Hk.out.2) h6.out.1 jP.out
         cases hZ:hsJ N F k
         ·have h3:Hid (r=13):=by rw[Hid,hW.out,ver_13 Hb.out Ho.out jd.out jx.out (ra_false hn hZ)]
          rw[hZ]at Hi;clear hZ;go_upto_region 25 with fail
          generalize wt.alloc (.cells #[.int .i64 (qg:Int),.string (E qt),.slice to_ n4 tc] 87)=wv at hQ hN hd Hc y1' z1' z2' g1 g2 g3 ⊢;replace hQ:Blk wv wt.heap.size 87 [.int .i64 (qg:Int),.string (E qt),.slice to_ n4 tc]:=hQ;obtain⟨Hs,Ht,Hu,Hv,Hw,Hx⟩:=hQ.x3;obtain⟨hq,ht,hu,hv,hw,hy⟩:=hd.x3;obtain⟨HY,HZ,H0,H1,H2,H3⟩:=Hc.x3;have Hy:=hQ.gcell 0;have Hz:=hQ.gcell 1;have HB:=hQ.gcell 2;have hA:=hd.gcell 0;have hB:=hd.gcell 1;have hD:=hd.gcell 2;have H4:=Hc.gcell 0;have H5:=Hc.gcell 1;have H6:=Hc.gcell 2;go_wp2_with fail
          refine wp_region_gw (by kernel_rfl) (by kernel_rfl) ?_;repeat (go_big_quiet_step (first | (go_at_call 40;exact gw_of (Hi.out _))))
          refine wpQuiet_nil ?_;rintro w7 ⟨xw7,rfl⟩;have h5:=gw_below xw7;generalize gw xw7=w7 at h5;go_wp2;go_ret
          exact⟨by rw[h3.out];rfl,bt (bt ho hN) h5⟩
         ·have HX:Hid (∀j,j<k+1→hsJ N F j=true):=fun j hj=>by
           by_cases e:j=k
           ·rw[e];exact hZ
           ·exact HA.out j (by omega)
          rw[hZ]at Hi;clear hZ;go_upto_region 25 with fail
          generalize wt.alloc (.cells #[.int .i64 (qg:Int),.string (E qt),.slice to_ n4 tc] 87)=wv at hQ hN hd Hc y1' z1' z2' g1 g2 g3 ⊢;replace hQ:Blk wv wt.heap.size 87 [.int .i64 (qg:Int),.string (E qt),.slice to_ n4 tc]:=hQ;obtain⟨Hs,Ht,Hu,Hv,Hw,Hx⟩:=hQ.x3;obtain⟨hq,ht,hu,hv,hw,hy⟩:=hd.x3;obtain⟨HY,HZ,H0,H1,H2,H3⟩:=Hc.x3;have Hy:=hQ.gcell 0;have Hz:=hQ.gcell 1;have HB:=hQ.gcell 2;have hA:=hd.gcell 0;have hB:=hd.gcell 1;have hD:=hd.gcell 2;have H4:=Hc.gcell 0;have H5:=Hc.gcell 1;have H6:=Hc.gcell 2;go_wp2_with fail
          refine wp_region_gw (by kernel_rfl) (by kernel_rfl) ?_;repeat (go_big_quiet_step (first | (go_at_call 40;exact gw_of (Hi.out _))))
          refine wpQuiet_nil ?_;rintro w7 ⟨xw7,rfl⟩;have h5:=gw_below xw7;generalize gw xw7=w7 at h5;go_wp2;go_roundw
          case rel=>exact⟨k+1,by omega,by go_num,HX,bt (bt hb hN) h5⟩
          case measure=>simp[intOf];omega
        ·have jz:Hid (ra N.eqs.length (hsJ N F)=true):=ra_true fun j hj=>HA.out j (by have:=Hb.out;have:=Ha.out;omega)
         clear hb HA;have H7:=Kh (Images_c N Z _ _ _ _ wt HM.out hS hT jb.out Ho.out ji.out);obtain⟨he,hf,hg,hh,hi,hl⟩:=hP.x3;obtain⟨hE,hH,hI,hJ,hL,hM⟩:=hF.x3;go_wp2_with fail
         refine H7.out.mono ?_;rintro e w8 ⟨iv,rfl,jQ,Hl⟩;clear he hf hg hh hi hl;clear hE hH hI hJ hL hM;replace hR:=hR.after Hl;replace hP:=hP.after Hl;replace hF:=hF.after Hl;replace hS:=hS.after Hl;replace hO:=SsAt.after hO Hl;replace hT:=hT.after Hl;replace hX:=hX.after Hl;replace ho:=bt ho Hl;clear Hl h0 Hn Hq H7;have H8:=jQ.ss;clear jQ;obtain⟨a7,c7,rfl⟩:=RAt.form H8;have jR:Hid (((N.imgs Z).map E).length=nF):=by rw[Hid,List.length_map,NSta.imgs,List.length_map,←Hb.out,←Ha.out]
         rw[jR.out]at H8 ⊢;have h0:=hF.lt;have Hn:=hP.lt;have Hq:=hR.lt;obtain⟨he,hf,hg,hh,hi,hl⟩:=hP.x3;go_wp2;clear he hf hg hh hi hl;go_loopw [133] (fun i wr=>∃k:Nat,k≤nF∧i=.int .i64 k∧Hid (∀j,j<k→imJ N F c Z j=true)∧Bw w8 wr) (fun i _=>nF-(intOf i).toNat)
         case atStart=>exact⟨0,by omega,rfl,fun j h=>absurd h (Nat.not_lt_zero _),Br⟩
         case round =>
          clear hlt hk;obtain⟨k,hk,rfl,HA,hb⟩:=hrel;obtain⟨wu,j1⟩:∃wp,wp=wr:=⟨_,rfl⟩;subst j1;replace hP:=hP.after hb;replace hF:=hF.after hb;replace hS:=hS.after hb;replace hO:=SsAt.after hO hb;replace ho:=bt ho hb;replace H8:=SsAt.after H8 hb;clear h0 Hn Hq;have h0:=hF.lt;have Hn:=hP.lt;by_cases hlt:k<nF
          ·have hn:k<N.eqs.length:=by rw[←Hb.out,←Ha.out];exact hlt
           have Hj:k<F.length:=by rw[←Ha.out];exact hlt
           have Hr:k<(F.map E).length:=by simpa using Hj
           have j2:k<((N.imgs Z).map E).length:=by rw[jR.out];exact hlt
           have hY:=Kh (HM.out.e _ (Gm hn));have h6:=Kh (chk_elem ji.out k hn hY.out.1);have HO:Hid (hsJ N F k=true):=ra_at jz.out hn;rw[hsJ_at N F k hn Hj hY.out.1]at HO;have h8:=Kh (imJ_at N F c Z k hn Hj hY.out.1);obtain⟨b,o,tv,rfl,jc,x1,x2,x3,HL⟩:=hS.eat hn;obtain⟨b',o',rfl,hp,y1⟩:=SsAt.at_ hO Hr;obtain⟨b7,o7,rfl,HD,i1⟩:=SsAt.at_ H8 j2;simp only[List.getElem_map]at y1;rw[show ((N.imgs Z).map E)[k]=E (imgV N Z (N.eqs[k]'hn)) by simp[NSta.imgs]]at i1;generalize (N.eqs[k]'hn)=q at x1 x2 x3 HL hY h6 HO h8 i1;have h7:=hY.out.1;have jy:q.grp<n1:=by rw[jJ.out];exact h7
           have Hk:=Kh (HM.out.g _ (Gm h7));obtain⟨bg,og_,rfl,HN,z1,z2⟩:=hS.gat h7;generalize (N.grps[q.grp]'h7)=gg at z1 z2 Hk h6 HO h8;clear h7;obtain⟨p,qq⟩:=gg;simp only[]at z1 z2 HO h8;generalize (F[k]'Hj)=ff at y1 HO h8;generalize imgV N Z q=iq at i1 h8;have jh:=Kh (has_powN c (grp_gt h6.out.1) h6.out.2.1);have jA:=Kh (fun w=>pexpN_c p qq q.tgt c w Hk.out.1 (lt128 Hk.out.2) h6.out.1 h6.out.2.1 HP.out);obtain⟨qg,HV⟩:∃g,g=q.grp:=⟨_,rfl⟩;obtain⟨qt,HW⟩:∃g,g=q.tgt:=⟨_,rfl⟩;rw[←HV]at x1 z1 z2 jy;rw[←HW]at x2 jA jh h8;clear HV HW;simp only[]at jh h8;generalize powI qt (c:Int) p=pv at jh jA h8;have jS:=Kh (fun w=>pmul_c p qq ff pv w Hk.out.1 (lt128 Hk.out.2) h6.out.1 HO.out jh.out);generalize ff*pv%p=yv at jS h8;obtain⟨to_,tc,rfl⟩:=HL.form;generalize q.trms.length=n4 at x3;have j3:=Kh (fun w=>ifromS_c c w HP.out);have jo:(0:Int)≤(k:Int):=by omega
           have jp:(k:Int)<(nF:Int):=by omega
           have jZ:(0:Int)≤(qg:Int):=by omega
           have j0:(qg:Int)<(n1:Int):=by omega
           obtain⟨hQ,hG,hN⟩:=blk2 wu #[.int .i64 (qg:Int),.string (E qt),.slice to_ n4 tc] #[.string (E p),.string (E qq)] 87 24;have hd:=hF.after hN;have y1':=(hN.cell (p:=⟨b',o'+k,none⟩) hp).trans y1;have i1':=(hN.cell (p:=⟨b7,o7+k,none⟩) HD).trans i1;have h9:=Nl hp hN.size;have hU:=Nl HD hN.size;clear HL;obtain⟨he,hf,hg,hh,hi,hl⟩:=hP.x3;go_upto_region 35 with fail
           clear he hf hg hh hi hl;generalize (wu.alloc (.cells #[.int .i64 (qg:Int),.string (E qt),.slice to_ n4 tc] 87)).alloc (.cells #[.string (E p),.string (E qq)] 24)=wv at hQ hG hN hd y1' i1' h9 hU ⊢;replace hQ:Blk wv wu.heap.size 87 [.int .i64 (qg:Int),.string (E qt),.slice to_ n4 tc]:=hQ;replace hG:Blk wv (wu.heap.size+1) 24 [.string (E p),.string (E qq)]:=hG;clear x1 x2 x3 y1 i1 z1 z2 jc hp HD HN;obtain⟨Hs,Ht,Hu,Hv,Hw,Hx⟩:=hQ.x3;obtain⟨hq,ht,hu,hv,hw,hy⟩:=hd.x3;obtain⟨HE,HF,HG,HH⟩:=hG.x2;have Hy:=hQ.gcell 0;have Hz:=hQ.gcell 1;have HB:=hQ.gcell 2;have hA:=hd.gcell 0;have hB:=hd.gcell 1;have hD:=hd.gcell 2;have HI:=hG.gcell 0;have HJ:=hG.gcell 1;go_wp2_with fail
           refine wp_region_gw (by kernel_rfl) (by kernel_rfl) ?_;repeat (go_big_quiet_step (first | (go_at_call 42;exact gw_of (j3.out _)) | (go_at_call 41;exact gw_of (jA.out _))))
           refine wpQuiet_nil ?_;rintro w9 ⟨xw9,rfl⟩;have hb9:=gw_below xw9;generalize gw xw9=w9 at hb9;clear Hs Ht Hu Hv Hw Hx;clear hq ht hu hv hw hy;clear HE HF HG HH;clear Hy Hz HB;clear hA hB hD;clear HI HJ;replace hd:=hd.after hb9;replace hG:=hG.after hb9;replace y1':=(hb9.cell (p:=⟨b',o'+k,none⟩) h9).trans y1';replace i1':=(hb9.cell (p:=⟨b7,o7+k,none⟩) hU).trans i1';replace h9:=Nl h9 hb9.size;replace hU:=Nl hU hb9.size;have H9:=bt hN hb9;clear hQ hb9 hN;have g1:=gcl (a:=⟨b',o'+k,none⟩) h9 y1';obtain⟨hq,ht,hu,hv,hw,hy⟩:=hd.x3;obtain⟨HE,HF,HG,HH⟩:=hG.x2;have hA:=hd.gcell 0;have hB:=hd.gcell 1;have hD:=hd.gcell 2;have HI:=hG.gcell 0;have HJ:=hG.gcell 1;go_wp2_with fail
           refine wp_region_gw (by kernel_rfl) (by kernel_rfl) ?_;repeat (go_big_quiet_step (first | (go_at_call 43;exact gw_of (jS.out _))))
           refine wpQuiet_nil ?_;rintro wz ⟨xwz,rfl⟩;have ja:=gw_below xwz;generalize gw xwz=wz at ja;clear hq ht hu hv hw hy;clear HE HF HG HH;clear hA hB hD;clear HI HJ;replace i1':=(ja.cell (p:=⟨b7,o7+k,none⟩) hU).trans i1';replace hU:=Nl hU ja.size;clear g1 y1' hd hG;by_cases Hp:yv=iq
           ·have h1:=eqT Hp;have h2:=eqE Hp
            have HX:Hid (∀j,j<k+1→imJ N F c Z j=true):=fun j hj=>by
             by_cases e:j=k
             ·rw[e,h8.out];exact Dt Hp
             ·exact HA.out j (by omega)
            clear Hp;go_wp2;go_roundw
            case rel=>exact⟨k+1,by omega,by go_num,HX,bt (bt hb H9) ja⟩
            case measure=>simp[intOf];omega
           ·have h1:=eqF Hp;have h2:=neE Hp;have h3:Hid (r=16):=by rw[Hid,hW.out,ver_16 Hb.out Ho.out jd.out jx.out jz.out (ra_false hn (by rw[h8.out];exact decide_eq_false Hp))]
            clear Hp;go_wp2;go_ret
            exact⟨by rw[h3.out];rfl,bt (bt ho H9) ja⟩
          ·have j4:Hid (ra N.eqs.length (imJ N F c Z)=true):=ra_true fun j hj=>HA.out j (by have:=Hb.out;have:=Ha.out;omega)
           have h3:Hid (r=0):=by rw[Hid,hW.out,ver_0 Hb.out Ho.out jd.out jx.out jz.out j4.out]
           go_wp2;go_ret
           exact⟨by rw[h3.out];rfl,ho⟩
    ·have jM:=cmp_nneg c C js;have HT:0≤cmpN c C:=by omega
     have h3:Hid (r=2):=by rw[Hid,hW.out,ver_2 Hb.out Ho.out js]
     clear js;obtain⟨hE,hH,hI,hJ,hL,hM⟩:=hF.x3;obtain⟨he,hf,hg,hh,hi,hl⟩:=hP.x3;obtain⟨Hd,He,Hf,Hg⟩:=hR.x2;go_wp2_with fail
     refine (cmp_c c C _ HP.out HC.out).mono ?_;rintro e w' ⟨rfl,rfl⟩;go_wp2;go_ret
     exact⟨by rw[h3.out];rfl,ho⟩
   ·have h3:Hid (r=6):=by
     rw[Hid,hW.out,ver_6];rw[←Ha.out,←jK.out,←HK.out,←jm.out];omega
    by_cases h1:nF=n3
    ·have h2:((nZ:Int) != (n2:Int))=true:=by rw[bne_iff_ne];omega
     have j5:((nZ:Int)==(n2:Int))=false:=by rw[beq_eq_false_iff_ne];omega
     subst h1;clear jq;obtain⟨hE,hH,hI,hJ,hL,hM⟩:=hF.x3;obtain⟨he,hf,hg,hh,hi,hl⟩:=hP.x3;go_wp2;go_ret
     exact⟨by rw[h3.out];rfl,ho⟩
    ·have h2:((nF:Int) != (n3:Int))=true:=by rw[bne_iff_ne];omega
     have j5:((nF:Int)==(n3:Int))=false:=by rw[beq_eq_false_iff_ne];omega
     clear jq h1;obtain⟨hE,hH,hI,hJ,hL,hM⟩:=hF.x3;obtain⟨he,hf,hg,hh,hi,hl⟩:=hP.x3;go_wp2;go_ret
     exact⟨by rw[h3.out];rfl,ho⟩
end
section
open Go.RowKit Go.Shelf
end
section
/- Differences of two proofs,in bytes: both sides return the same error,or there are numbers. -/
open Go.RowKit Go.Shelf
theorem numk {s:ByteArray} {k:Nat} (h:s.size≤k) (hv:vldB s=true):∃n,n<256^k∧s=E n:=by
 obtain⟨n,_,rfl⟩:=of_vldB hv;exact⟨n,lt_of_size h,rfl⟩
end
section
open Go.RowKit Go.Shelf
end
section
open Go.RowKit Go.Shelf
end
section
open Go.RowKit
theorem idx_cgd (l:List ByteArray) (p:ByteArray→Bool) (v:Value) (w:World) (hn:l.length≤1000) (hR:SsAt w v l)
  (hf:∀k (hk:k<l.length) (w':World),Bw w w'→Calls Tryz.prog 181 #[.string (l[k]'hk)] w' fun e w''=>e=.returned (.bool (p (l[k]'hk)))∧Bw w' w'') :
  Calls Tryz.prog 204 #[v,.func (.func 181) #[] #[]] w (IPost (l.any p) w):=by
 obtain⟨ao,c,rfl⟩:=RAt.form hR;obtain⟨n,hd⟩:∃n,n=l.length:=⟨_,rfl⟩;have HN:=Kh hd;rw[←hd]at hR hn ⊢;clear hd;have HF:=Kh hf;clear hf;go_enter Tryz.func204,Tryz.ntmps204
 go_wp2;go_loopw [8] (fun i wr=>∃k:Nat,k≤n∧i=.int .i64 k∧Hid ((l.take k).any p=false)∧Bw w wr) (fun i _=>n-(intOf i).toNat)
 case atStart=>exact⟨0,by omega,rfl,rfl,Br⟩
 case round =>
  obtain⟨k,hk,rfl,HA,hc⟩:=hrel;obtain⟨wp,hg⟩:∃wp,wp=wr:=⟨_,rfl⟩;subst hg;replace hR:=SsAt.after hR hc;by_cases hlt:k<n
  ·have hb:k<l.length:=by rw[←HN.out];exact hlt
   have HT:=Kh (any_take p l k hb);have HB:Hid (p (l[k]'hb)=true→l.any p=true):=any_hit p l k hb;obtain⟨b,o,rfl,hi,x1⟩:=SsAt.at_ hR hb;have HC:=Kh (HF.out k hb _ hc);generalize p (l[k]'hb)=pk at HT HB HC;generalize (l[k]'hb)=x at x1 HC;have hh:(0:Int)≤(k:Int):=by omega
   have hj:(k:Int)<(n:Int):=by omega
   clear hR;cases pk
   ·have HX:Hid ((l.take (k+1)).any p=false):=by rw[Hid,HT.out,HA.out];rfl
    clear HT HB;go_wp2_with fail
    refine (HC.out).mono ?_;rintro e w2 ⟨rfl,he⟩;go_wp2;go_roundw
    case rel=>exact⟨k+1,by omega,by go_num,HX,bt hc he⟩
    case measure=>simp[intOf];omega
   ·have HX:Hid (l.any p=true):=HB.out rfl;clear HT HB;go_wp2_with fail
    refine (HC.out).mono ?_;rintro e w2 ⟨rfl,he⟩;go_wp2;go_ret
    exact⟨(k:Int),rfl,by rw[HX.out];exact Dt hh,bt hc he⟩
  ·have HX:Hid (l.any p=false):=any_end p l k (by rw[←HN.out];omega) HA.out;go_wp2;go_ret
   exact⟨-1,rfl,by rw[HX.out];rfl,hc⟩
theorem cont_cgd (l:List ByteArray) (p:ByteArray→Bool) (b:Bool) (v:Value) (w:World) (hn:l.length≤1000) (hR:SsAt w v l) (hb:l.any p=b)
  (hf:∀k (hk:k<l.length) (w':World),Bw w w'→Calls Tryz.prog 181 #[.string (l[k]'hk)] w' fun e w''=>e=.returned (.bool (p (l[k]'hk)))∧Bw w' w'') :
  Calls Tryz.prog 180 #[v,.func (.func 181) #[] #[]] w fun e w'=>e=.returned (.bool b)∧Bw w w':=by
 have HE:=Kh (idx_cgd l p v w hn hR hf);rw[hb]at HE;obtain⟨ao,c,rfl⟩:=RAt.form hR;generalize l.length=n at HE;clear hn hR hf hb;go_enter Tryz.func180,Tryz.ntmps180
 go_wp2_with fail
 refine HE.out.mono ?_;rintro e w1 ⟨i,rfl,hi,hc⟩;have HI:=Kh hi;clear hi;cases b
 ·have hi:decide (0≤i)=false:=HI.out;go_wp2;go_ret
  exact⟨rfl,hc⟩
 ·have hi:decide (0≤i)=true:=HI.out;go_wp2;go_ret
  exact⟨rfl,hc⟩
end
section
open Go.RowKit Go.Shelf
theorem ss_nil (w:World):SsAt w (.slice none 0 0) []:=⟨none,0,rfl,.inl rfl⟩
def FarS (u:Value) (g:Nat):Prop:=∀b o n c,u=.slice (some ⟨b,o,none⟩) n c→n≠0→b≠g
def TFar (t:Value) (g:Nat):Prop:=∀u x y,t=.agg #[u,x,y]→∀b,b<g→FarS u b
theorem TFar.zero (g:Nat) (x y:Value):TFar (.agg #[.slice none 0 0,x,y]) g:=fun u x' y' h b hb b' o n c e _=>by
 injection h with h
 have h:=congrArg (fun a=>a[0]?) h;simp at h;subst h;cases e
theorem TFar.of {u x y:Value} {g:Nat} (hf:∀b,b<g→FarS u b):TFar (.agg #[u,x,y]) g:=fun u' x' y' h b hb=>by
 injection h with h
 have h:=congrArg (fun a=>a[0]?) h;simp at h;subst h;exact hf b hb
theorem SsAt.set_other {w:World} {g n c g2 i:Nat} {x:Value} {V:List ByteArray} (h:SsAt w (.slice (some ⟨g,0,none⟩) n c) V) (hb:g≠g2):SsAt (w.setCell ⟨g2,i,none⟩ x) (.slice (some ⟨g,0,none⟩) n c) V:=by
 obtain⟨ao,c',e,h⟩:=h;refine⟨ao,c',e,?_⟩;rcases h with h | ⟨b,o,h1,h2,h3⟩
 ·exact .inl h
 ·subst h1;injection e with e1 e2 e3
  injection e1 with e1
  injection e1 with e4 e5 e6
  refine .inr ⟨b,o,rfl,by simpa using h2,fun j hj=>?_⟩;obtain⟨cs,hq,hc⟩:=h3 j hj;refine⟨cs,hq,fun i2 hi=>?_⟩;rw[←hc i2 hi];exact World.cell?_of_block (heap_setCell_other w ⟨g2,i,none⟩ b x (fun e=>hb (by rw[e4];exact e)))
theorem SsAt.set_far {w:World} {g i:Nat} {v x:Value} {V:List ByteArray} (h:SsAt w v V) (hf:FarS v g):SsAt (w.setCell ⟨g,i,none⟩ x) v V:=by
 obtain⟨ao,c',rfl,h⟩:=h;refine⟨ao,c',rfl,?_⟩;by_cases h0:V.length=0
 ·exact .inl h0
 rcases h with h | ⟨b,o,rfl,h2,h3⟩
 ·exact .inl h
 ·refine .inr ⟨b,o,rfl,by simpa using h2,fun j hj=>?_⟩;obtain⟨cs,hq,hc⟩:=h3 j hj;refine⟨cs,hq,fun i2 hi=>?_⟩;rw[←hc i2 hi];exact World.cell?_of_block (heap_setCell_other w ⟨g,i,none⟩ b x (fun e=>hf _ _ _ _ rfl h0 e))
theorem SsAt.grown {w w':World} {row:Option Nat} {v:Value} {V:List ByteArray} (h:SsAt w v V) (hg:w.grownBy w' row) (hf:∀g,row=some g→FarS v g):SsAt w' v V:=by
 obtain⟨ao,c',rfl,h⟩:=h;refine⟨ao,c',rfl,?_⟩;by_cases h0:V.length=0
 ·exact .inl h0
 rcases h with h | ⟨b,o,rfl,h2,h3⟩
 ·exact .inl h
 ·refine .inr ⟨b,o,rfl,Nl h2 hg.size,fun j hj=>?_⟩;obtain⟨cs,hq,hc⟩:=h3 j hj;refine⟨cs,hq,fun i hi=>?_⟩;rw[←hc i hi];exact World.cell?_of_block (hg.block b h2 (fun e=>hf b e.symm _ _ _ _ rfl h0 rfl))
theorem blk5 (w:World) (A B C D F:Array Value) (TA TB TC TD TF:TypeId) :
  Blk (((((w.alloc (.cells A TA)).alloc (.cells B TB)).alloc (.cells C TC)).alloc (.cells D TD)).alloc (.cells F TF)) w.heap.size TA A.toList ∧
  Blk (((((w.alloc (.cells A TA)).alloc (.cells B TB)).alloc (.cells C TC)).alloc (.cells D TD)).alloc (.cells F TF)) (w.heap.size+1) TB B.toList ∧
  Blk (((((w.alloc (.cells A TA)).alloc (.cells B TB)).alloc (.cells C TC)).alloc (.cells D TD)).alloc (.cells F TF)) (w.heap.size+1+1) TC C.toList ∧
  Blk (((((w.alloc (.cells A TA)).alloc (.cells B TB)).alloc (.cells C TC)).alloc (.cells D TD)).alloc (.cells F TF)) (w.heap.size+1+1+1) TD D.toList ∧
  Blk (((((w.alloc (.cells A TA)).alloc (.cells B TB)).alloc (.cells C TC)).alloc (.cells D TD)).alloc (.cells F TF)) (w.heap.size+1+1+1+1) TF F.toList ∧
  Bw w (((((w.alloc (.cells A TA)).alloc (.cells B TB)).alloc (.cells C TC)).alloc (.cells D TD)).alloc (.cells F TF)):=by
 refine⟨((((Blk.new w A TA).alloc _).alloc _).alloc _).alloc _,(((blkN (by simp)).alloc _).alloc _).alloc _,((blkN (by simp)).alloc _).alloc _,(blkN (by simp)).alloc _,blkN (by simp),ba (ba (b3 w _ _ _) _) _⟩
end
end Go.Proofs.YtdgddpnjkinciaaGreatDoor
