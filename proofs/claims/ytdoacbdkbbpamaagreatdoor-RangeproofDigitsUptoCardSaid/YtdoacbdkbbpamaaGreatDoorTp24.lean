/- pedersen.tape,rangeproof.tape: whether a tape is well-formed. -/
import Derived.Test.YtdoacbdkbbpamaaGreatDoorWt27
import Derived.Test.YtdoacbdkbbpamaaGreatDoorCo4
import Derived.Test.YtdoacbdkbbpamaaGreatDoorLg4
import Derived.Test.YtdoacbdkbbpamaaGreatDoorFs5
import Derived.Test.YtdoacbdkbbpamaaGreatDoorHol
import Derived.Test.YtdoacbdkbbpamaaGreatDoorCmt2
set_option linter.unusedVariables false
set_option linter.unusedSimpArgs false
set_option maxRecDepth 100000
set_option maxHeartbeats 16000000
namespace Go.Proofs.YtdoacbdkbbpamaaGreatDoor
section
/- What Prepare returns: parts,openings,tape. -/
open Go.RowKit Go.Shelf
theorem info_opening:(Tryz.prog.info? 39).map (fun i=>(i.zero,i.size,i.bytes))=some (some (.agg #[.bool false,.string { data:=#[] },.bool false,.string { data:=#[] }]),4,48):=by kernel_rfl
structure PrR where
 err:Nat
 parts:List Nat
 ops:List (Nat × Nat)
 tp:Tp
def nop (x:Nat × Nat):Opn:=⟨false,E x.1,false,E x.2⟩
def prC (att:Att) (rd:Nat) (T:Tp) (j:Nat):Nat × Nat:=coin att (T.on j) rd
def prP (att:Att) (p g h rd:Nat) (X:List Nat) (T:Tp) (k:Nat):List Nat:=(List.range k).map fun j=>cmtN p g h (X.getD j 0:Nat) ((prC att rd T j).2:Nat)
def prO (att:Att) (rd:Nat) (X:List Nat) (T:Tp) (k:Nat):List (Nat × Nat):=(List.range k).map fun j=>(X.getD j 0,(prC att rd T j).2)
theorem prP_snoc (att:Att) (p g h rd:Nat) (X:List Nat) (T:Tp) (k:Nat):prP att p g h rd X T (k+1)=prP att p g h rd X T k++[cmtN p g h (X.getD k 0:Nat) ((prC att rd T k).2:Nat)]:=by unfold prP;rw [List.range_succ,List.map_append];rfl
theorem prO_snoc (att:Att) (rd:Nat) (X:List Nat) (T:Tp) (k:Nat):prO att rd X T (k+1)=prO att rd X T k++[(X.getD k 0,(prC att rd T k).2)]:=by unfold prO;rw [List.range_succ,List.map_append];rfl
theorem prP_len (att:Att) (p g h rd:Nat) (X:List Nat) (T:Tp) (k:Nat):(prP att p g h rd X T k).length=k:=by unfold prP;simp
theorem prO_len (att:Att) (rd:Nat) (X:List Nat) (T:Tp) (k:Nat):(prO att rd X T k).length=k:=by unfold prO;simp
theorem prC_lt {att:Att} {rd:Nat} {T:Tp} {j:Nat} (h:(prC att rd T j).1=0):(prC att rd T j).2<rd:=by
 unfold prC at *;unfold coin at *;split at h
 ·simp at h
 ·rename_i h1;split at h
  ·simp at h
  ·rename_i h2;rw [if_neg h1,if_neg h2];exact coinD_lt h
def OOwn (w:World) (base:Nat) (v:Value) (L:List (Nat × Nat)):Prop:=w.ownsRow base 39 4 v L.length ((L.map nop).flatMap opc)
theorem OOwn.os {w:World} {base:Nat} {v:Value} {L:List (Nat × Nat)} (h:OOwn w base v L):OsAt w v (L.map nop):=os_own (L.map nop) (by simp) h
def PrPost (w:World) (R:PrR) (e:Ending) (w':World):Prop:=∃u v t,e=.returned (.tuple #[u,v,t,.int .i64 (R.err:Int)])∧NOwn w' w.heap.size u R.parts∧OOwn w' w.heap.size v R.ops∧TAt w' t R.tp∧Below w.heap.size w w'
def PrPostF (w:World) (R:PrR) (e:Ending) (w':World):Prop:=∃u v t,e=.returned (.tuple #[u,v,t,.int .i64 (R.err:Int)])∧NOwn w' w.heap.size u R.parts∧OOwn w' w.heap.size v R.ops∧TAt w' t R.tp∧TFar t w.heap.size∧Below w.heap.size w w'
theorem PrPostF.of {w w':World} {R:PrR} {e:Ending} (h:PrPostF w R e w'):PrPost w R e w':=by
 obtain ⟨u,v,t,h1,h2,h3,h4,_,h6⟩:=h;exact ⟨u,v,t,h1,h2,h3,h4,h6⟩
theorem PrPostF.err {w w':World} {k:Nat} (h:Below w.heap.size w w'):PrPostF w ⟨k,[],[],Tp.nil⟩ (.returned (.tuple #[.slice none 0 0,.slice none 0 0,.agg #[.slice none 0 0,.string ⟨#[]⟩,.int .i64 0],.int .i64 (k:Int)])) w':=
 ⟨_,_,_,rfl,World.ownsRow_nil _ _ _ _,World.ownsRow_nil _ _ _ _,⟨_,rfl,ss_nil _⟩,TFar.zero _ _ _,h⟩
theorem PrPost.err {w w':World} {k:Nat} (h:Below w.heap.size w w'):PrPost w ⟨k,[],[],Tp.nil⟩ (.returned (.tuple #[.slice none 0 0,.slice none 0 0,.agg #[.slice none 0 0,.string ⟨#[]⟩,.int .i64 0],.int .i64 (k:Int)])) w':=
 ⟨_,_,_,rfl,World.ownsRow_nil _ _ _ _,World.ownsRow_nil _ _ _ _,⟨_,rfl,ss_nil _⟩,h⟩
theorem blk4 (w:World) (A B C D:Array Value) (TA TB TC TD:TypeId):Blk ((((w.alloc (.cells A TA)).alloc (.cells B TB)).alloc (.cells C TC)).alloc (.cells D TD)) w.heap.size TA A.toList∧Blk ((((w.alloc (.cells A TA)).alloc (.cells B TB)).alloc (.cells C TC)).alloc (.cells D TD)) (w.heap.size+1) TB B.toList∧Blk ((((w.alloc (.cells A TA)).alloc (.cells B TB)).alloc (.cells C TC)).alloc (.cells D TD)) (w.heap.size+2) TC C.toList∧Blk ((((w.alloc (.cells A TA)).alloc (.cells B TB)).alloc (.cells C TC)).alloc (.cells D TD)) (w.heap.size+3) TD D.toList∧Below w.heap.size w ((((w.alloc (.cells A TA)).alloc (.cells B TB)).alloc (.cells C TC)).alloc (.cells D TD)):=by
 refine ⟨(blk3a w A B C TA TB TC).alloc _,(blk3b w A B C TA TB TC).alloc _,(blk3c w A B C TA TB TC).alloc _,?_,ba (b3 w _ _ _) _⟩;have h:=Blk.new (((w.alloc (.cells A TA)).alloc (.cells B TB)).alloc (.cells C TC)) D TD;simp only [World.size_alloc] at h;exact h
end
section
open Go.RowKit Go.Shelf
theorem ptape_c (T:Tp) (v:Value) (w:World) (hok:T.Ok) (hV:SsAt w v T.vals) :
  Calls Tryz.prog 106 #[.agg #[v,.string T.seed,.int .i64 T.pos]] w fun e w'=>e=.returned (.bool T.good)∧Below w.heap.size w w':=by
 obtain ⟨V,sd,ti⟩:=T;have hn:V.length≤100:=hok.n;have hs:∀x∈V,x.size≤100:=hok.s;have HG:Hid (Tp.good ⟨V,sd,ti⟩=(V.all vldB&&(decide (0≤ti)&&decide (ti≤2147483647)))):=rfl;simp only [] at hV ⊢;generalize Tp.good ⟨V,sd,ti⟩=tg at HG ⊢;clear hok;have HVA:Hid (∀k (h:k<V.length) (w:World),Calls Tryz.prog 59 #[.string (V[k]'h)] w fun e w'=>e=.returned (.bool (vldB (V[k]'h)))∧w=w'):=fun k h w=>valid_c _ w (by have:=hs _ (List.getElem_mem h);omega)
 obtain ⟨ao,c,rfl⟩:=RAt.form hV;obtain ⟨n,hn'⟩:∃n,n=V.length:=⟨_,rfl⟩;have HN:=Lib.hid hn';rw [←hn'] at hV hn ⊢;clear hn' hs;have hP:=Blk.new w #[.slice ao n c,.string sd,.int .i64 ti] 42;have hBW:=b1 w (.cells #[.slice ao n c,.string sd,.int .i64 ti] 42);obtain ⟨hPc0,hPf0,hPc1,hPf1,hPc2,hPf2⟩:=hP.x3;go_enter Tryz.func106,Tryz.ntmps106
 go_upto_region 2 with fail
 clear hPc0 hPf0 hPc1 hPf1 hPc2 hPf2;replace hV:=SsAt.after hV hBW;generalize w.alloc (.cells #[.slice ao n c,.string sd,.int .i64 ti] 42)=w1 at hP hBW hV ⊢;obtain ⟨g0,hg0⟩:∃g,w.heap.size=g:=⟨_,rfl⟩;rw [hg0] at hP ⊢;replace hP:Blk w1 g0 42 [.slice ao n c,.string sd,.int .i64 ti]:=hP;have HG0:=Lib.hid hg0;clear hg0;go_loopw [8] (fun i wr=>∃k:Nat,k≤n∧i=.int .i64 k∧Hid (∀j (h:j<V.length),j<k→vldB (V[j]'h)=true)∧Below w1.heap.size w1 wr) (fun i _=>n-(intOf i).toNat)
 case atStart=>exact ⟨0,by omega,rfl,fun j _ h=>absurd h (Nat.not_lt_zero _),Below.refl _ _⟩
 case round =>
  obtain ⟨k,hk,rfl,HA,hbr⟩:=hrel;obtain ⟨wp,hwp⟩:∃wp,wp=wr:=⟨_,rfl⟩;subst hwp;have hV1:=SsAt.after hV hbr;have hP1:=hP.after hbr;by_cases hlt:k<n
  ·have hkl:k<V.length:=by rw [←HN.out];exact hlt
   obtain ⟨b,o,rfl,hbl,x1⟩:=SsAt.at_ hV1 hkl;have HV:=Lib.hid (HVA.out k hkl)
   have HX:Hid (vldB (V[k]'hkl)=true→∀j (h:j<V.length),j<k+1→vldB (V[j]'h)=true):=fun hv j h hj=>by
    by_cases e:j=k
    ·subst e;exact hv
    ·exact HA.out j h (by omega)
   have HXF:Hid (vldB (V[k]'hkl)=false→tg=false):=fun hv=>by
    rw [HG.out];cases h:V.all vldB with
    | false=>rfl
    | true=>have:=List.all_eq_true.1 h _ (List.getElem_mem hkl);rw [hv] at this;cases this
   generalize vldB (V[k]'hkl)=bl at HV HX HXF;generalize (V[k]'hkl)=x at x1 HV;have h0k:(0:Int)≤(k:Int):=by omega
   have h1k:(k:Int)<(n:Int):=by omega
   cases bl
   ·have HXG:=Lib.hid (HXF.out rfl);clear HX HXF;have hbrr:=hbr;obtain ⟨hP1c0,hP1f0,hP1c1,hP1f1,hP1c2,hP1f2⟩:=hP1.x3;go_wp2_with fail
    refine (HV.out _).mono ?_;rintro e w2 ⟨rfl,rfl⟩;go_wp2;go_ret
    rw [HXG.out];exact ⟨rfl,bt hBW hbr⟩
   ·have HX2:=Lib.hid (HX.out rfl);clear HX;obtain ⟨hP1c0,hP1f0,hP1c1,hP1f1,hP1c2,hP1f2⟩:=hP1.x3;go_wp2_with fail
    refine (HV.out _).mono ?_;rintro e w2 ⟨rfl,rfl⟩;go_wp2;go_roundw
    case rel=>exact ⟨k+1,by omega,by go_num,HX2,hbr⟩
    case measure=>simp [intOf];omega
  ·have HT:Hid (V.all vldB=true):=by
    rw [Hid,List.all_eq_true];intro x hx;obtain ⟨j,hj,rfl⟩:=List.mem_iff_getElem.1 hx;exact HA.out j hj (by rw [←HN.out] at hj;omega)
   obtain ⟨t1,ht1⟩:∃t:Bool,t=decide (0≤ti):=⟨_,rfl⟩;obtain ⟨t2,ht2⟩:∃t:Bool,t=decide (ti≤2147483647):=⟨_,rfl⟩;have HT1:=Lib.hid ht1;have HT2:=Lib.hid ht2;obtain ⟨hP1c0,hP1f0,hP1c1,hP1f1,hP1c2,hP1f2⟩:=hP1.x3;cases t1
   ·have d1:=HT1.out.symm;clear ht1 ht2;go_wp2;go_ret
    rw [show tg=false by rw [HG.out,HT.out,←HT1.out];rfl];exact ⟨rfl,bt hBW hbr⟩
   ·have d1:=HT1.out.symm;have d2:=ht2.symm;clear ht1 ht2;go_wp2;go_ret
    rw [show tg=t2 by rw [HG.out,HT.out,←HT1.out,←HT2.out];rfl];exact ⟨rfl,bt hBW hbr⟩
theorem rgtape_c (T:Tp) (v:Value) (w:World) (hok:T.Ok) (hV:SsAt w v T.vals) :
  Calls Tryz.prog 30 #[.agg #[v,.string T.seed,.int .i64 T.pos]] w fun e w'=>e=.returned (.bool T.good)∧Below w.heap.size w w':=by
 obtain ⟨V,sd,ti⟩:=T;have hn:V.length≤100:=hok.n;have hs:∀x∈V,x.size≤100:=hok.s;have HG:Hid (Tp.good ⟨V,sd,ti⟩=(V.all vldB&&(decide (0≤ti)&&decide (ti≤2147483647)))):=rfl;simp only [] at hV ⊢;generalize Tp.good ⟨V,sd,ti⟩=tg at HG ⊢;clear hok;have HVA:Hid (∀k (h:k<V.length) (w:World),Calls Tryz.prog 59 #[.string (V[k]'h)] w fun e w'=>e=.returned (.bool (vldB (V[k]'h)))∧w=w'):=fun k h w=>valid_c _ w (by have:=hs _ (List.getElem_mem h);omega)
 obtain ⟨ao,c,rfl⟩:=RAt.form hV;obtain ⟨n,hn'⟩:∃n,n=V.length:=⟨_,rfl⟩;have HN:=Lib.hid hn';rw [←hn'] at hV hn ⊢;clear hn' hs;have hP:=Blk.new w #[.slice ao n c,.string sd,.int .i64 ti] 42;have hBW:=b1 w (.cells #[.slice ao n c,.string sd,.int .i64 ti] 42);obtain ⟨hPc0,hPf0,hPc1,hPf1,hPc2,hPf2⟩:=hP.x3;go_enter Tryz.func30,Tryz.ntmps30
 go_upto_region 2 with fail
 clear hPc0 hPf0 hPc1 hPf1 hPc2 hPf2;replace hV:=SsAt.after hV hBW;generalize w.alloc (.cells #[.slice ao n c,.string sd,.int .i64 ti] 42)=w1 at hP hBW hV ⊢;obtain ⟨g0,hg0⟩:∃g,w.heap.size=g:=⟨_,rfl⟩;rw [hg0] at hP ⊢;replace hP:Blk w1 g0 42 [.slice ao n c,.string sd,.int .i64 ti]:=hP;have HG0:=Lib.hid hg0;clear hg0;go_loopw [8] (fun i wr=>∃k:Nat,k≤n∧i=.int .i64 k∧Hid (∀j (h:j<V.length),j<k→vldB (V[j]'h)=true)∧Below w1.heap.size w1 wr) (fun i _=>n-(intOf i).toNat)
 case atStart=>exact ⟨0,by omega,rfl,fun j _ h=>absurd h (Nat.not_lt_zero _),Below.refl _ _⟩
 case round =>
  obtain ⟨k,hk,rfl,HA,hbr⟩:=hrel;obtain ⟨wp,hwp⟩:∃wp,wp=wr:=⟨_,rfl⟩;subst hwp;have hV1:=SsAt.after hV hbr;have hP1:=hP.after hbr;by_cases hlt:k<n
  ·have hkl:k<V.length:=by rw [←HN.out];exact hlt
   obtain ⟨b,o,rfl,hbl,x1⟩:=SsAt.at_ hV1 hkl;have HV:=Lib.hid (HVA.out k hkl)
   have HX:Hid (vldB (V[k]'hkl)=true→∀j (h:j<V.length),j<k+1→vldB (V[j]'h)=true):=fun hv j h hj=>by
    by_cases e:j=k
    ·subst e;exact hv
    ·exact HA.out j h (by omega)
   have HXF:Hid (vldB (V[k]'hkl)=false→tg=false):=fun hv=>by
    rw [HG.out];cases h:V.all vldB with
    | false=>rfl
    | true=>have:=List.all_eq_true.1 h _ (List.getElem_mem hkl);rw [hv] at this;cases this
   generalize vldB (V[k]'hkl)=bl at HV HX HXF;generalize (V[k]'hkl)=x at x1 HV;have h0k:(0:Int)≤(k:Int):=by omega
   have h1k:(k:Int)<(n:Int):=by omega
   cases bl
   ·have HXG:=Lib.hid (HXF.out rfl);clear HX HXF;have hbrr:=hbr;obtain ⟨hP1c0,hP1f0,hP1c1,hP1f1,hP1c2,hP1f2⟩:=hP1.x3;go_wp2_with fail
    refine (HV.out _).mono ?_;rintro e w2 ⟨rfl,rfl⟩;go_wp2;go_ret
    rw [HXG.out];exact ⟨rfl,bt hBW hbr⟩
   ·have HX2:=Lib.hid (HX.out rfl);clear HX;obtain ⟨hP1c0,hP1f0,hP1c1,hP1f1,hP1c2,hP1f2⟩:=hP1.x3;go_wp2_with fail
    refine (HV.out _).mono ?_;rintro e w2 ⟨rfl,rfl⟩;go_wp2;go_roundw
    case rel=>exact ⟨k+1,by omega,by go_num,HX2,hbr⟩
    case measure=>simp [intOf];omega
  ·have HT:Hid (V.all vldB=true):=by
    rw [Hid,List.all_eq_true];intro x hx;obtain ⟨j,hj,rfl⟩:=List.mem_iff_getElem.1 hx;exact HA.out j hj (by rw [←HN.out] at hj;omega)
   obtain ⟨t1,ht1⟩:∃t:Bool,t=decide (0≤ti):=⟨_,rfl⟩;obtain ⟨t2,ht2⟩:∃t:Bool,t=decide (ti≤2147483647):=⟨_,rfl⟩;have HT1:=Lib.hid ht1;have HT2:=Lib.hid ht2;obtain ⟨hP1c0,hP1f0,hP1c1,hP1f1,hP1c2,hP1f2⟩:=hP1.x3;cases t1
   ·have d1:=HT1.out.symm;clear ht1 ht2;go_wp2;go_ret
    rw [show tg=false by rw [HG.out,HT.out,←HT1.out];rfl];exact ⟨rfl,bt hBW hbr⟩
   ·have d1:=HT1.out.symm;have d2:=ht2.symm;clear ht1 ht2;go_wp2;go_ret
    rw [show tg=t2 by rw [HG.out,HT.out,←HT1.out,←HT2.out];rfl];exact ⟨rfl,bt hBW hbr⟩
end
end Go.Proofs.YtdoacbdkbbpamaaGreatDoor
