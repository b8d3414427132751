/- The small tests of the layer's laws: integers,tapes,runs. -/
import Derived.Test.YtcfjcenmcpankaaGreatDoorIdx
import Derived.Test.YtcfjcenmcpankaaGreatDoorLd16
set_option linter.unusedVariables false
set_option linter.unusedSimpArgs false
set_option maxRecDepth 100000
set_option maxHeartbeats 16000000
namespace Go.Proofs.YtcfjcenmcpankaaGreatDoor
section
open Go.RowKit
theorem idx_lst (l:List ByteArray) (p:ByteArray→Bool) (v:Value) (w:World) (hn:l.length≤1000) (hR:SsAt w v l)
  (hf:∀k (hk:k<l.length) (w':World),Below w.heap.size w w'→Calls Tryz.prog 91 #[.string (l[k]'hk)] w' fun e w''=>e=.returned (.bool (p (l[k]'hk)))∧Below w'.heap.size w' w'') :
  Calls Tryz.prog 60 #[v,.func (.func 91) #[] #[]] w (IPost (l.any p) w):=by
 obtain ⟨ao,c,rfl⟩:=RAt.form hR;obtain ⟨n,hn'⟩:∃n,n=l.length:=⟨_,rfl⟩;have HN:=Lib.hid hn';rw [←hn'] at hR hn ⊢;clear hn';have HF:=Lib.hid hf;clear hf;go_enter Tryz.func60,Tryz.ntmps60
 go_wp2;go_loopw [8] (fun i wr=>∃k:Nat,k≤n∧i=.int .i64 k∧Hid ((l.take k).any p=false)∧Below w.heap.size w wr) (fun i _=>n-(intOf i).toNat)
 case atStart=>exact ⟨0,by omega,rfl,rfl,Below.refl _ _⟩
 case round =>
  obtain ⟨k,hk,rfl,HA,hbr⟩:=hrel;obtain ⟨wp,hwp⟩:∃wp,wp=wr:=⟨_,rfl⟩;subst hwp;replace hR:=SsAt.after hR hbr;by_cases hlt:k<n
  ·have hkl:k<l.length:=by rw [←HN.out];exact hlt
   have HT:=Lib.hid (any_take p l k hkl);have HB:Hid (p (l[k]'hkl)=true→l.any p=true):=any_hit p l k hkl;obtain ⟨b,o,rfl,hbl,x1⟩:=SsAt.at_ hR hkl;have HC:=Lib.hid (HF.out k hkl _ hbr);generalize p (l[k]'hkl)=pk at HT HB HC;generalize (l[k]'hkl)=x at x1 HC;have h0k:(0:Int)≤(k:Int):=by omega
   have h1k:(k:Int)<(n:Int):=by omega
   clear hR;cases pk
   ·have HX:Hid ((l.take (k+1)).any p=false):=by rw [Hid,HT.out,HA.out];rfl
    clear HT HB;go_wp2_with fail
    refine (HC.out).mono ?_;rintro e w2 ⟨rfl,hb2⟩;go_wp2;go_roundw
    case rel=>exact ⟨k+1,by omega,by go_num,HX,bt hbr hb2⟩
    case measure=>simp [intOf];omega
   ·have HX:Hid (l.any p=true):=HB.out rfl;clear HT HB;go_wp2_with fail
    refine (HC.out).mono ?_;rintro e w2 ⟨rfl,hb2⟩;go_wp2;go_ret
    exact ⟨(k:Int),rfl,by rw [HX.out];exact decide_eq_true h0k,bt hbr hb2⟩
  ·have HX:Hid (l.any p=false):=any_end p l k (by rw [←HN.out];omega) HA.out;go_wp2;go_ret
   exact ⟨-1,rfl,by rw [HX.out];rfl,hbr⟩
theorem cont_lst (l:List ByteArray) (p:ByteArray→Bool) (b:Bool) (v:Value) (w:World) (hn:l.length≤1000) (hR:SsAt w v l) (hb:l.any p=b)
  (hf:∀k (hk:k<l.length) (w':World),Below w.heap.size w w'→Calls Tryz.prog 91 #[.string (l[k]'hk)] w' fun e w''=>e=.returned (.bool (p (l[k]'hk)))∧Below w'.heap.size w' w'') :
  Calls Tryz.prog 21 #[v,.func (.func 91) #[] #[]] w fun e w'=>e=.returned (.bool b)∧Below w.heap.size w w':=by
 have HE:=Lib.hid (idx_lst l p v w hn hR hf);rw [hb] at HE;obtain ⟨ao,c,rfl⟩:=RAt.form hR;generalize l.length=n at HE;clear hn hR hf hb;go_enter Tryz.func21,Tryz.ntmps21
 go_wp2_with fail
 refine HE.out.mono ?_;rintro e w1 ⟨i,rfl,hi,hb1⟩;have HI:=Lib.hid hi;clear hi;cases b
 ·have hi:decide (0≤i)=false:=HI.out;go_wp2;go_ret
  exact ⟨rfl,hb1⟩
 ·have hi:decide (0≤i)=true:=HI.out;go_wp2;go_ret
  exact ⟨rfl,hb1⟩
theorem idx_lsh (l:List (Bool × ByteArray)) (p:(Bool × ByteArray)→Bool) (v:Value) (w:World) (hn:l.length≤1000) (hR:IsAt w v l)
  (hf:∀k (hk:k<l.length) (w':World),Below w.heap.size w w'→Calls Tryz.prog 59 #[.agg #[.bool (l[k]'hk).1,.string (l[k]'hk).2]] w' fun e w''=>e=.returned (.bool (p (l[k]'hk)))∧Below w'.heap.size w' w'') :
  Calls Tryz.prog 108 #[v,.func (.func 59) #[] #[]] w (IPost (l.any p) w):=by
 obtain ⟨ao,c,rfl⟩:=RAt.form hR;obtain ⟨n,hn'⟩:∃n,n=l.length:=⟨_,rfl⟩;have HN:=Lib.hid hn';rw [←hn'] at hR hn ⊢;clear hn';have HF:=Lib.hid hf;clear hf;go_enter Tryz.func108,Tryz.ntmps108
 go_wp2;go_loopw [8] (fun i wr=>∃k:Nat,k≤n∧i=.int .i64 k∧Hid ((l.take k).any p=false)∧Below w.heap.size w wr) (fun i _=>n-(intOf i).toNat)
 case atStart=>exact ⟨0,by omega,rfl,rfl,Below.refl _ _⟩
 case round =>
  obtain ⟨k,hk,rfl,HA,hbr⟩:=hrel;obtain ⟨wp,hwp⟩:∃wp,wp=wr:=⟨_,rfl⟩;subst hwp;replace hR:=IsAt.after hR hbr;by_cases hlt:k<n
  ·have hkl:k<l.length:=by rw [←HN.out];exact hlt
   have HT:=Lib.hid (any_take p l k hkl);have HB:Hid (p (l[k]'hkl)=true→l.any p=true):=any_hit p l k hkl;obtain ⟨b,o,rfl,hbl,x1,x2⟩:=IsAt.at_ hR hkl;have HC:=Lib.hid (HF.out k hkl _ hbr);generalize p (l[k]'hkl)=pk at HT HB HC;generalize (l[k]'hkl)=x at x1 x2 HC;obtain ⟨y1,y2⟩:=x;simp only [] at x1 x2 HC;have h0k:(0:Int)≤(k:Int):=by omega
   have h1k:(k:Int)<(n:Int):=by omega
   clear hR;cases pk
   ·have HX:Hid ((l.take (k+1)).any p=false):=by rw [Hid,HT.out,HA.out];rfl
    clear HT HB;go_wp2_with fail
    refine (HC.out).mono ?_;rintro e w2 ⟨rfl,hb2⟩;go_wp2;go_roundw
    case rel=>exact ⟨k+1,by omega,by go_num,HX,bt hbr hb2⟩
    case measure=>simp [intOf];omega
   ·have HX:Hid (l.any p=true):=HB.out rfl;clear HT HB;go_wp2_with fail
    refine (HC.out).mono ?_;rintro e w2 ⟨rfl,hb2⟩;go_wp2;go_ret
    exact ⟨(k:Int),rfl,by rw [HX.out];exact decide_eq_true h0k,bt hbr hb2⟩
  ·have HX:Hid (l.any p=false):=any_end p l k (by rw [←HN.out];omega) HA.out;go_wp2;go_ret
   exact ⟨-1,rfl,by rw [HX.out];rfl,hbr⟩
theorem cont_lsh (l:List (Bool × ByteArray)) (p:(Bool × ByteArray)→Bool) (b:Bool) (v:Value) (w:World) (hn:l.length≤1000) (hR:IsAt w v l) (hb:l.any p=b)
  (hf:∀k (hk:k<l.length) (w':World),Below w.heap.size w w'→Calls Tryz.prog 59 #[.agg #[.bool (l[k]'hk).1,.string (l[k]'hk).2]] w' fun e w''=>e=.returned (.bool (p (l[k]'hk)))∧Below w'.heap.size w' w'') :
  Calls Tryz.prog 58 #[v,.func (.func 59) #[] #[]] w fun e w'=>e=.returned (.bool b)∧Below w.heap.size w w':=by
 have HE:=Lib.hid (idx_lsh l p v w hn hR hf);rw [hb] at HE;obtain ⟨ao,c,rfl⟩:=RAt.form hR;generalize l.length=n at HE;clear hn hR hf hb;go_enter Tryz.func58,Tryz.ntmps58
 go_wp2_with fail
 refine HE.out.mono ?_;rintro e w1 ⟨i,rfl,hi,hb1⟩;have HI:=Lib.hid hi;clear hi;cases b
 ·have hi:decide (0≤i)=false:=HI.out;go_wp2;go_ret
  exact ⟨rfl,hb1⟩
 ·have hi:decide (0≤i)=true:=HI.out;go_wp2;go_ret
  exact ⟨rfl,hb1⟩
end
section
/- Proofs and runs as arguments. -/
open Go.RowKit Go.WideShapes Go.ChangeShapes Go.ChangeAt Go.Joins Go.Deep
open Go.ChangeMaps (open_string shut_string)
theorem array6 {α:Type} {l:Array α} (h:l.size=6):∃a b c d e f,l=#[a,b,c,d,e,f]:=by
 obtain ⟨l⟩:=l;match l,h with
 | [a,b,c,d,e,f],_=>exact ⟨a,b,c,d,e,f,rfl⟩
theorem zPrf:Tryz.prog.cellsOf 52=3:=by kernel_rfl
theorem zRun:Tryz.prog.cellsOf 43=6:=by kernel_rfl
section
variable {H:Type} {enc:TypeId × Value→H} {w:World} {base:Nat} {held:Bool}
theorem open_run {r:Reach} {b0:Nat} {v:Value} {d:DataW H} {p:List MemPlace} (hv:Value.okWide Tryz.prog w r b0 43 v) (h:DataW.Trod enc Tryz.prog w base (fun _=>true) held 43 v d p) :
  ∃(W M:List (Bool × ByteArray)) (ch:ByteArray) (V:List ByteArray) (sd:ByteArray) (i:Int) (s1 s2 s3:Option Addr) (m1 m2 m3 d1 d2 d3:Nat),v=.agg #[.slice s1 m1 d1,.slice s2 m2 d2,.string ch,.slice s3 m3 d3,.string sd,.int .i64 i] ∧
   (∀x∈W,x.2.size≤9223372036854775807)∧(∀x∈M,x.2.size≤9223372036854775807)∧ch.size≤9223372036854775807∧(∀x∈V,x.size≤9223372036854775807)∧sd.size≤9223372036854775807 ∧
   IsAt w (.slice s1 m1 d1) W∧IsAt w (.slice s2 m2 d2) M∧SsAt w (.slice s3 m3 d3) V:=by
 obtain ⟨cs,rfl,hsz⟩:=okWide_struct Tryz.underlying43 hv;obtain ⟨c0,c1,c2,c3,c4,c5,rfl⟩:=array6 (hsz.trans zRun);obtain ⟨fuel,hf⟩:=h;obtain ⟨_,_,_,_,m1,_,_,t0,t1,t2,t3⟩:=trod_struct4 Tryz.underlying43 hf;obtain ⟨_,_,_,m2,_,_,u0,u1,u2⟩:=trod_struct3 Tryz.underlying41 t3;simp only [Value.cells,zNs,zNat,zZs,zStr,zTape,zi64,List.drop_succ_cons,List.drop_zero,List.take_succ_cons,List.take_zero,Nat.reduceAdd] at t0 t1 t2 u0 u1 u2;obtain ⟨g1,g2,g3,W,hW,rW,sW,_⟩:=row_of (Q:=QInt) (Sz:=fun a=>a.2.size≤maxLen) (false,⟨#[]⟩) Tryz.underlying39 zInt (by decide) t0 (fun n cs' y hl h=>el_int hl h);obtain ⟨k1,k2,k3,M,hM,rM,sM,_⟩:=row_of (Q:=QInt) (Sz:=fun a=>a.2.size≤maxLen) (false,⟨#[]⟩) Tryz.underlying39 zInt (by decide) t1 (fun n cs' y hl h=>el_int hl h);obtain ⟨s,hs,_,hz⟩:=DataW.trod_string Tryz.underlying22 t2;obtain ⟨q1,q2,q3,V,hV,rV,sV,_⟩:=row_of (Q:=QStr) (Sz:=fun a=>a.size≤maxLen) ⟨#[]⟩ Tryz.underlying32 zNat (by decide) u0 (fun n cs' y hl h=>el_nat hl h);obtain ⟨sd,hsd,_,hzd⟩:=DataW.trod_string Tryz.underlying9 u1;obtain ⟨i,hi,_⟩:=DataW.trod_int Tryz.underlying3 u2;simp only [List.cons.injEq,and_true] at hW hM hs hV hsd hi;subst hW hM hs hV hsd hi;unfold maxLen at sW sM hz sV hzd;exact ⟨W,M,s,V,sd,i,_,_,_,_,_,_,_,_,_,rfl,sW,sM,hz,sV,hzd,rW,rM,rV⟩
end
end
section
open Go.RowKit Go.Shelf
def lgB (k:Int) (s:ByteArray):Bool:=decide (k<(s.size:Int))
def shB (l:List (Bool × ByteArray)):Bool:=decide (l.length≤10)&&!(l.any fun x=>lgB 60 x.2)
def stB (V:List ByteArray) (sd:ByteArray):Bool:=decide (V.length≤80)&&decide (sd.size≤100)&&!(V.any (lgB 60))
theorem lsh1_c (b:Bool) (s:ByteArray) (w:World) (hs:s.size≤9223372036854775807) :
  Calls Tryz.prog 59 #[.agg #[.bool b,.string s]] w fun e w'=>e=.returned (.bool (lgB 60 s))∧Below w.heap.size w w':=by
 obtain ⟨r,hr⟩:∃r,r=lgB 60 s:=⟨_,rfl⟩;rw [←hr];have e1:decide ((60:Int)<(s.size:Int))=r:=hr.symm;clear hr;have hP:=Blk.new w #[.bool b,.string s] 72;have hBW:=b1 w (.cells #[.bool b,.string s] 72);obtain ⟨hPc0,hPf0,hPc1,hPf1⟩:=hP.x2;go_enter Tryz.func59,Tryz.ntmps59
 go_wp2;go_ret
 exact ⟨rfl,hBW⟩
theorem lst1_c (s:ByteArray) (w:World) (hs:s.size≤9223372036854775807) :
  Calls Tryz.prog 91 #[.string s] w fun e w'=>e=.returned (.bool (lgB 60 s))∧Below w.heap.size w w':=by
 obtain ⟨r,hr⟩:∃r,r=lgB 60 s:=⟨_,rfl⟩;rw [←hr];have e1:decide ((60:Int)<(s.size:Int))=r:=hr.symm;clear hr;go_enter Tryz.func91,Tryz.ntmps91
 go_wp2;go_ret
 exact ⟨rfl,Below.refl _ _⟩
theorem short_c (l:List (Bool × ByteArray)) (v:Value) (w:World) (hz:∀x∈l,x.2.size≤9223372036854775807) (hR:IsAt w v l) :
  Calls Tryz.prog 20 #[v] w fun e w'=>e=.returned (.bool (shB l))∧Below w.heap.size w w':=by
 obtain ⟨r,hr⟩:∃r,r=l.any fun x=>lgB 60 x.2:=⟨_,rfl⟩
 have HQ:Hid (shB l=(decide (l.length≤10)&&!r)):=by rw [hr];rfl
 have HC:Hid (l.length≤10→Calls Tryz.prog 58 #[v,.func (.func 59) #[] #[]] w fun e w'=>e=.returned (.bool r)∧Below w.heap.size w w'):=fun h=>by
  rw [hr];exact cont_lsh l (fun x=>lgB 60 x.2) _ v w (by omega) hR rfl (fun k hk w2 _=>lsh1_c _ _ w2 (hz _ (List.getElem_mem hk)))
 obtain ⟨ao,c,rfl⟩:=RAt.form hR;generalize shB l=g at HQ ⊢;generalize l.length=n at HQ HC ⊢;clear hz hR hr;by_cases h:n≤10
 ·have HX:Hid (g=!r):=by rw [Hid,HQ.out,decide_eq_true h];rfl
  have HD:=Lib.hid (HC.out h);have e1:decide ((n:Int)≤10)=true:=decide_eq_true (by omega);clear h HC HQ;go_enter Tryz.func20,Tryz.ntmps20
  go_wp2_with fail
  refine HD.out.mono ?_;rintro e w2 ⟨rfl,hb⟩;go_wp2;go_ret
  exact ⟨by rw [HX.out];rfl,hb⟩
 ·have HX:Hid (g=false):=by rw [Hid,HQ.out,decide_eq_false h];rfl
  have e1:decide ((n:Int)≤10)=false:=decide_eq_false (by omega);clear h HC HQ;go_enter Tryz.func20,Tryz.ntmps20
  go_wp2;go_ret
  exact ⟨by rw [HX.out];rfl,Below.refl _ _⟩
theorem shortTape_c (V:List ByteArray) (sd:ByteArray) (p:Int) (v:Value) (w:World) (hs:sd.size≤9223372036854775807) (hz:∀x∈V,x.size≤9223372036854775807) (hR:SsAt w v V) :
  Calls Tryz.prog 38 #[.agg #[v,.string sd,.int .i64 p]] w fun e w'=>e=.returned (.bool (stB V sd))∧Below w.heap.size w w':=by
 obtain ⟨r,hr⟩:∃r,r=V.any (lgB 60):=⟨_,rfl⟩;have HQ:Hid (stB V sd=(decide (V.length≤80)&&decide (sd.size≤100)&&!r)):=by rw [hr];rfl
 have HC:Hid (V.length≤80→∀w',Below w.heap.size w w'→Calls Tryz.prog 21 #[v,.func (.func 91) #[] #[]] w' fun e w''=>e=.returned (.bool r)∧Below w'.heap.size w' w''):=fun h w' hb=>by
  rw [hr];exact cont_lst V (lgB 60) _ v w' (by omega) (SsAt.after hR hb) rfl (fun k hk w2 _=>lst1_c _ w2 (hz _ (List.getElem_mem hk)))
 obtain ⟨ao,c,rfl⟩:=RAt.form hR;generalize stB V sd=g at HQ ⊢;generalize V.length=n at HQ HC ⊢;clear hz hR hr;have hP:=Blk.new w #[.slice ao n c,.string sd,.int .i64 p] 41;have hBW:=b1 w (.cells #[.slice ao n c,.string sd,.int .i64 p] 41);by_cases h:n≤80
 ·by_cases h2:sd.size≤100
  ·have HX:Hid (g=!r):=by rw [Hid,HQ.out,decide_eq_true h,decide_eq_true h2];rfl
   have HD:=Lib.hid (HC.out h);have e1:decide ((n:Int)≤80)=true:=decide_eq_true (by omega);have e2:decide ((sd.size:Int)≤100)=true:=decide_eq_true (by omega);clear h h2 HC HQ;obtain ⟨hPc0,hPf0,hPc1,hPf1,hPc2,hPf2⟩:=hP.x3;go_enter Tryz.func38,Tryz.ntmps38
   go_wp2_with fail
   refine (HD.out _ hBW).mono ?_;rintro e w2 ⟨rfl,hb⟩;go_wp2;go_ret
   exact ⟨by rw [HX.out];rfl,bt hBW hb⟩
  ·have HX:Hid (g=false):=by rw [Hid,HQ.out,decide_eq_false h2];simp
   have e1:decide ((n:Int)≤80)=true:=decide_eq_true (by omega);have e2:decide ((sd.size:Int)≤100)=false:=decide_eq_false (by omega);clear h h2 HC HQ;obtain ⟨hPc0,hPf0,hPc1,hPf1,hPc2,hPf2⟩:=hP.x3;go_enter Tryz.func38,Tryz.ntmps38
   go_wp2;go_ret
   exact ⟨by rw [HX.out];rfl,hBW⟩
 ·have HX:Hid (g=false):=by rw [Hid,HQ.out,decide_eq_false h];rfl
  have e1:decide ((n:Int)≤80)=false:=decide_eq_false (by omega);clear h HC HQ;obtain ⟨hPc0,hPf0,hPc1,hPf1,hPc2,hPf2⟩:=hP.x3;go_enter Tryz.func38,Tryz.ntmps38
  go_wp2;go_ret
  exact ⟨by rw [HX.out];rfl,hBW⟩
def smB (W M:List (Bool × ByteArray)) (ch:ByteArray) (V:List ByteArray) (sd:ByteArray):Bool:=shB W&&(shB M&&(decide (ch.size≤20)&&stB V sd))
theorem smallR_c (W M:List (Bool × ByteArray)) (ch:ByteArray) (V:List ByteArray) (sd:ByteArray) (p:Int) (vw vm vt:Value) (w:World) (hw:∀x∈W,x.2.size≤9223372036854775807) (hm:∀x∈M,x.2.size≤9223372036854775807) (hc:ch.size≤9223372036854775807) (hs:sd.size≤9223372036854775807) (hv:∀x∈V,x.size≤9223372036854775807)
  (hW:IsAt w vw W) (hM:IsAt w vm M) (hV:SsAt w vt V) :
  Calls Tryz.prog 16 #[.agg #[vw,vm,.string ch,vt,.string sd,.int .i64 p]] w fun e w'=>e=.returned (.bool (smB W M ch V sd))∧Below w.heap.size w w':=by
 have HA:Hid (∀w',Below w.heap.size w w'→Calls Tryz.prog 20 #[vw] w' fun e w''=>e=.returned (.bool (shB W))∧Below w'.heap.size w' w''):=fun w' hb=>short_c W vw w' hw (IsAt.after hW hb)
 have HB:Hid (∀w',Below w.heap.size w w'→Calls Tryz.prog 20 #[vm] w' fun e w''=>e=.returned (.bool (shB M))∧Below w'.heap.size w' w''):=fun w' hb=>short_c M vm w' hm (IsAt.after hM hb)
 have HT:Hid (∀w',Below w.heap.size w w'→Calls Tryz.prog 38 #[.agg #[vt,.string sd,.int .i64 p]] w' fun e w''=>e=.returned (.bool (stB V sd))∧Below w'.heap.size w' w''):=fun w' hb=>shortTape_c V sd p vt w' hs hv (SsAt.after hV hb)
 have HQ:Hid (smB W M ch V sd=(shB W&&(shB M&&(decide (ch.size≤20)&&stB V sd)))):=rfl;obtain ⟨ao,c1,rfl⟩:=RAt.form hW;obtain ⟨bo,c2,rfl⟩:=RAt.form hM;obtain ⟨co,c3,rfl⟩:=RAt.form hV;generalize smB W M ch V sd=g at HQ ⊢;generalize shB W=a at HA HQ;generalize shB M=b at HB HQ;generalize stB V sd=t at HT HQ;generalize W.length=m1 at HA ⊢;generalize M.length=m2 at HB ⊢;generalize V.length=m3 at HT ⊢;clear hw hm hs hv hW hM hV;have hP:=Blk.new w #[.slice ao m1 c1,.slice bo m2 c2,.string ch,.slice co m3 c3,.string sd,.int .i64 p] 43;have hBW:=b1 w (.cells #[.slice ao m1 c1,.slice bo m2 c2,.string ch,.slice co m3 c3,.string sd,.int .i64 p] 43);cases a
 ·have HX:Hid (g=false):=by rw [Hid,HQ.out];rfl
  clear HQ;obtain ⟨hPc0,hPf0,hPc1,hPf1,hPc2,hPf2,hPc3,hPf3,hPc4,hPf4,hPc5,hPf5⟩:=hP.x6;go_enter Tryz.func16,Tryz.ntmps16
  go_wp2_with fail
  refine (HA.out _ hBW).mono ?_;rintro e w2 ⟨rfl,hb⟩;clear hPc0 hPf0 hPc1 hPf1 hPc2 hPf2 hPc3 hPf3 hPc4 hPf4 hPc5 hPf5;replace hP:=hP.after hb;replace hBW:=bt hBW hb;clear hb;obtain ⟨hPc0,hPf0,hPc1,hPf1,hPc2,hPf2,hPc3,hPf3,hPc4,hPf4,hPc5,hPf5⟩:=hP.x6;go_wp2;go_ret
  exact ⟨by rw [HX.out];rfl,hBW⟩
 ·cases b
  ·have HX:Hid (g=false):=by rw [Hid,HQ.out];rfl
   clear HQ;obtain ⟨hPc0,hPf0,hPc1,hPf1,hPc2,hPf2,hPc3,hPf3,hPc4,hPf4,hPc5,hPf5⟩:=hP.x6;go_enter Tryz.func16,Tryz.ntmps16
   go_wp2_with fail
   refine (HA.out _ hBW).mono ?_;rintro e w2 ⟨rfl,hb⟩;clear hPc0 hPf0 hPc1 hPf1 hPc2 hPf2 hPc3 hPf3 hPc4 hPf4 hPc5 hPf5;replace hP:=hP.after hb;replace hBW:=bt hBW hb;clear hb;obtain ⟨hPc0,hPf0,hPc1,hPf1,hPc2,hPf2,hPc3,hPf3,hPc4,hPf4,hPc5,hPf5⟩:=hP.x6;go_wp2_with fail
   refine (HB.out _ hBW).mono ?_;rintro e w2 ⟨rfl,hb⟩;clear hPc0 hPf0 hPc1 hPf1 hPc2 hPf2 hPc3 hPf3 hPc4 hPf4 hPc5 hPf5;replace hP:=hP.after hb;replace hBW:=bt hBW hb;clear hb;obtain ⟨hPc0,hPf0,hPc1,hPf1,hPc2,hPf2,hPc3,hPf3,hPc4,hPf4,hPc5,hPf5⟩:=hP.x6;go_wp2;go_ret
   exact ⟨by rw [HX.out];rfl,hBW⟩
  ·by_cases h:ch.size≤20
   ·have HX:Hid (g=t):=by rw [Hid,HQ.out,decide_eq_true h];rfl
    have e1:decide ((ch.size:Int)≤20)=true:=decide_eq_true (by omega);clear HQ;obtain ⟨hPc0,hPf0,hPc1,hPf1,hPc2,hPf2,hPc3,hPf3,hPc4,hPf4,hPc5,hPf5⟩:=hP.x6;go_enter Tryz.func16,Tryz.ntmps16
    go_wp2_with fail
    refine (HA.out _ hBW).mono ?_;rintro e w2 ⟨rfl,hb⟩;clear hPc0 hPf0 hPc1 hPf1 hPc2 hPf2 hPc3 hPf3 hPc4 hPf4 hPc5 hPf5;replace hP:=hP.after hb;replace hBW:=bt hBW hb;clear hb;obtain ⟨hPc0,hPf0,hPc1,hPf1,hPc2,hPf2,hPc3,hPf3,hPc4,hPf4,hPc5,hPf5⟩:=hP.x6;go_wp2_with fail
    refine (HB.out _ hBW).mono ?_;rintro e w2 ⟨rfl,hb⟩;clear hPc0 hPf0 hPc1 hPf1 hPc2 hPf2 hPc3 hPf3 hPc4 hPf4 hPc5 hPf5;replace hP:=hP.after hb;replace hBW:=bt hBW hb;clear hb;obtain ⟨hPc0,hPf0,hPc1,hPf1,hPc2,hPf2,hPc3,hPf3,hPc4,hPf4,hPc5,hPf5⟩:=hP.x6;go_wp2_with fail
    refine (HT.out _ hBW).mono ?_;rintro e w2 ⟨rfl,hb⟩;clear hPc0 hPf0 hPc1 hPf1 hPc2 hPf2 hPc3 hPf3 hPc4 hPf4 hPc5 hPf5;replace hP:=hP.after hb;replace hBW:=bt hBW hb;clear hb;obtain ⟨hPc0,hPf0,hPc1,hPf1,hPc2,hPf2,hPc3,hPf3,hPc4,hPf4,hPc5,hPf5⟩:=hP.x6;go_wp2;go_ret
    exact ⟨by rw [HX.out];rfl,hBW⟩
   ·have HX:Hid (g=false):=by rw [Hid,HQ.out,decide_eq_false h];rfl
    have e1:decide ((ch.size:Int)≤20)=false:=decide_eq_false (by omega);clear HQ;obtain ⟨hPc0,hPf0,hPc1,hPf1,hPc2,hPf2,hPc3,hPf3,hPc4,hPf4,hPc5,hPf5⟩:=hP.x6;go_enter Tryz.func16,Tryz.ntmps16
    go_wp2_with fail
    refine (HA.out _ hBW).mono ?_;rintro e w2 ⟨rfl,hb⟩;clear hPc0 hPf0 hPc1 hPf1 hPc2 hPf2 hPc3 hPf3 hPc4 hPf4 hPc5 hPf5;replace hP:=hP.after hb;replace hBW:=bt hBW hb;clear hb;obtain ⟨hPc0,hPf0,hPc1,hPf1,hPc2,hPf2,hPc3,hPf3,hPc4,hPf4,hPc5,hPf5⟩:=hP.x6;go_wp2_with fail
    refine (HB.out _ hBW).mono ?_;rintro e w2 ⟨rfl,hb⟩;clear hPc0 hPf0 hPc1 hPf1 hPc2 hPf2 hPc3 hPf3 hPc4 hPf4 hPc5 hPf5;replace hP:=hP.after hb;replace hBW:=bt hBW hb;clear hb;obtain ⟨hPc0,hPf0,hPc1,hPf1,hPc2,hPf2,hPc3,hPf3,hPc4,hPf4,hPc5,hPf5⟩:=hP.x6;go_wp2;go_ret
    exact ⟨by rw [HX.out];rfl,hBW⟩
end
end Go.Proofs.YtcfjcenmcpankaaGreatDoor
