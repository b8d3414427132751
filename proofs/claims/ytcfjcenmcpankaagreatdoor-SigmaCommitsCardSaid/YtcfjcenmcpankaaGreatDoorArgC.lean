/- A tape as an argument. -/
import Derived.Test.YtcfjcenmcpankaaGreatDoorLs16
set_option linter.unusedVariables false
set_option linter.unusedSimpArgs false
set_option maxRecDepth 100000
set_option maxHeartbeats 16000000
namespace Go.Proofs.YtcfjcenmcpankaaGreatDoor
open Go.RowKit Go.WideShapes Go.ChangeShapes Go.ChangeAt Go.Joins Go.Deep
open Go.ChangeMaps (open_string shut_string)
section
variable {H:Type} {enc:TypeId × Value→H} {w:World} {base:Nat} {held:Bool}
theorem open_tape {r:Reach} {b0:Nat} {v:Value} {d:DataW H} {p:List MemPlace} (hv:Value.okWide Tryz.prog w r b0 41 v) (h:DataW.Trod enc Tryz.prog w base (fun _=>true) held 41 v d p) :
  ∃(V:List ByteArray) (sd:ByteArray) (i:Int) (s1:Option Addr) (m1 d1:Nat),v=.agg #[.slice s1 m1 d1,.string sd,.int .i64 i]∧(∀x∈V,x.size≤9223372036854775807)∧sd.size≤9223372036854775807∧SsAt w (.slice s1 m1 d1) V:=by
 obtain ⟨cs,rfl,hsz⟩:=okWide_struct Tryz.underlying41 hv;obtain ⟨c0,c1,c2,rfl⟩:=array3 (hsz.trans zTape);obtain ⟨fuel,hf⟩:=h;obtain ⟨_,_,_,m2,_,_,u0,u1,u2⟩:=trod_struct3 Tryz.underlying41 hf;simp only [Value.cells,zNs,zNat,zZs,zStr,zTape,zi64,List.drop_succ_cons,List.drop_zero,List.take_succ_cons,List.take_zero,Nat.reduceAdd] at u0 u1 u2;obtain ⟨q1,q2,q3,V,hV,rV,sV,_⟩:=row_of (Q:=QStr) (Sz:=fun a=>a.size≤maxLen) ⟨#[]⟩ Tryz.underlying32 zNat (by decide) u0 (fun n cs' y hl h=>el_nat hl h);obtain ⟨sd,hsd,_,hzd⟩:=DataW.trod_string Tryz.underlying9 u1;obtain ⟨i,hi,_⟩:=DataW.trod_int Tryz.underlying3 u2;simp only [List.cons.injEq,and_true] at hV hsd hi;subst hV hsd hi;unfold maxLen at sV hzd;exact ⟨V,sd,i,_,_,_,rfl,sV,hzd,rV⟩
end
end Go.Proofs.YtcfjcenmcpankaaGreatDoor
