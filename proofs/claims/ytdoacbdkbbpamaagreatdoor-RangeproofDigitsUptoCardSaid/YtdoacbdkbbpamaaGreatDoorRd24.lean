/- pedersen.reduced: an opening modulo the order. -/
import Derived.Test.YtdoacbdkbbpamaaGreatDoorRinv
import Derived.Test.YtdoacbdkbbpamaaGreatDoorFs5
import Derived.Test.YtdoacbdkbbpamaaGreatDoorCmt2
set_option linter.unusedVariables false
set_option linter.unusedSimpArgs false
set_option maxRecDepth 100000
set_option maxHeartbeats 16000000
namespace Go.Proofs.YtdoacbdkbbpamaaGreatDoor
section
/- Regions that draw their order,by what holds of each operation that is done and of the world: for regions that append and store. -/
open Go.RowKit
abbrev RVB:=List Bool→Nat→Value→World→Prop
def stB (S:List Nat) (done:Array Bool):List Bool:=S.map fun s=>done.getD s false
theorem stB_set {S:List Nat} {done:Array Bool} {i:Nat} (hi:i<done.size) (h:i ∉ S):stB S (done.setIfInBounds i true)=stB S done:=by
 unfold stB;refine List.map_congr_left fun s hs=>?_
 have hne:¬ s=i:=fun e=>h (by rw [←e];exact hs)
 rw [getD_set _ _ _ hi,if_neg hne]
theorem stB_none (S:List Nat) (n:Nat):stB S (Array.replicate n false)=S.map fun _=>false:=by
 unfold stB;refine List.map_congr_left fun s _=>?_
 rw [Array.getD_eq_getD_getElem?,Array.getElem?_replicate];split <;> rfl
theorem stB_all {S:List Nat} {done:Array Bool} {n:Nat} (hd:∀i,i<n→done.getD i false=true) (hS:(S.all fun s=>decide (s<n))=true):stB S done=S.map fun _=>true:=by
 unfold stB;refine List.map_congr_left fun s hs=>?_
 rw [List.all_eq_true] at hS;exact hd s (of_decide_eq_true (hS s hs))
structure RInvB (ops:Array Oper) (V:RVB) (S:List Nat) (B:Nat) (F:List Bool→World→Prop) (w0:World) (a0:Act) (done:Array Bool) (a:Act) (w:World):Prop where
 sz:done.size=ops.size
 df:a.defers=a0.defers
 ts:a.tmps.size=a0.tmps.size
 bw:Below B w0 w
 ex:F (stB S done) w
 un:∀k,(∀i o,ops[i]?=some o→done.getD i false=true→o.dst≠some k)→a.tmps[k]?=a0.tmps[k]?
 pr:∀i o,ops[i]?=some o→done.getD i false=true→∀e∈o.after,Region.binds .any e=true→done.getD e.on false=true
 dn:∀i o d,ops[i]?=some o→done.getD i false=true→o.dst=some d→∃v,a.tmps[d]?=some v∧V (stB S done) i v w
theorem RInvB.put {ops:Array Oper} {V:RVB} {S:List Nat} {B:Nat} {F:List Bool→World→Prop} {w0 w w':World} {a0 a:Act} {done:Array Bool} {i d:Nat} {o:Oper} {v:Value} (h:RInvB ops V S B F w0 a0 done a w) (hs:slotsB ops a0.tmps.size=true) (ho:ops[i]?=some o) (hd:o.dst=some d) (hpre:∀e∈o.after,Region.binds .any e=true→done.getD e.on false=true) 
  (hb:Below B w0 w') (hF:F (stB S (done.setIfInBounds i true)) w') (hk:∀j q,ops[j]?=some q→j≠i→done.getD j false=true→∀u,V (stB S done) j u w→V (stB S (done.setIfInBounds i true)) j u w') (hv:V (stB S (done.setIfInBounds i true)) i v w'):RInvB ops V S B F w0 a0 (done.setIfInBounds i true) (a.put o.dst v) w':=by
 have hi:i<done.size:=by rw [h.sz];exact (Array.getElem?_eq_some_iff.1 ho).1
 have hdl:d<a.tmps.size:=by rw [h.ts];exact slots_lt hs ho hd
 have e1:(a.put o.dst v).tmps=a.tmps.setIfInBounds d v:=by rw [hd];rfl
 refine ⟨by rw [Array.size_setIfInBounds];exact h.sz,by rw [hd];exact h.df,by rw [e1,Array.size_setIfInBounds];exact h.ts,hb,hF,fun k hk=>?_,fun j q hq hdn e he hbi=>by
  rw [getD_set _ _ _ hi] at hdn ⊢;split
  ·rfl
  ·rename_i hne;by_cases hji:j=i
   ·subst hji;rw [ho] at hq;injection hq with hq;subst hq
    exact hpre e he hbi
   ·rw [if_neg hji] at hdn;exact h.pr j q hq hdn e he hbi,fun j q e hq hdn he=>?_⟩
 ·have hne:d≠k:=fun e=>hk i o ho (by rw [getD_set _ _ _ hi,if_pos rfl]) (by rw [hd,e])
  rw [e1,Array.getElem?_setIfInBounds,if_neg hne];exact h.un k fun j q hq hdn=>hk j q hq (by rw [getD_set _ _ _ hi];split <;> first | rfl | exact hdn)
 ·rw [e1,Array.getElem?_setIfInBounds];by_cases hji:j=i
  ·subst hji;rw [ho] at hq;injection hq with hq;subst hq
   rw [hd] at he;injection he with he;subst he
   rw [if_pos rfl,if_pos hdl];exact ⟨v,rfl,hv⟩
  ·have hne:d≠e:=fun x=>hji (slots_ne hs hq (by rw [he,x]) ho hd)
   rw [getD_set _ _ _ hi,if_neg hji] at hdn;rw [if_neg hne];obtain ⟨u,h1,h2⟩:=h.dn j q e hq hdn he;exact ⟨u,h1,hk j q hq hji hdn u h2⟩
theorem RInvB.skip {ops:Array Oper} {V:RVB} {S:List Nat} {B:Nat} {F:List Bool→World→Prop} {w0 w w':World} {a0 a:Act} {done:Array Bool} {i:Nat} {o:Oper} {v:Value} (h:RInvB ops V S B F w0 a0 done a w) (ho:ops[i]?=some o) (hd:o.dst=none) (hpre:∀e∈o.after,Region.binds .any e=true→done.getD e.on false=true) 
  (hb:Below B w0 w') (hF:F (stB S (done.setIfInBounds i true)) w') (hk:∀j q,ops[j]?=some q→j≠i→done.getD j false=true→∀d u,q.dst=some d→a.tmps[d]?=some u→V (stB S done) j u w→V (stB S (done.setIfInBounds i true)) j u w'):RInvB ops V S B F w0 a0 (done.setIfInBounds i true) (a.put o.dst v) w':=by
 have hi:i<done.size:=by rw [h.sz];exact (Array.getElem?_eq_some_iff.1 ho).1
 have e1:(a.put o.dst v)=a:=by rw [hd];rfl
 rw [e1]
 refine ⟨by rw [Array.size_setIfInBounds];exact h.sz,h.df,h.ts,hb,hF,fun k hk=>h.un k fun j q hq hdn=>hk j q hq (by rw [getD_set _ _ _ hi];split <;> first | rfl | exact hdn),fun j q hq hdn e he hbi=>by
  rw [getD_set _ _ _ hi] at hdn ⊢;split
  ·rfl
  ·rename_i hne;by_cases hji:j=i
   ·subst hji;rw [ho] at hq;injection hq with hq;subst hq
    exact hpre e he hbi
   ·rw [if_neg hji] at hdn;exact h.pr j q hq hdn e he hbi,fun j q e hq hdn he=>?_⟩
 by_cases hji:j=i
 ·subst hji;rw [ho] at hq;injection hq with hq;subst hq
  rw [hd] at he;cases he
 ·rw [getD_set _ _ _ hi,if_neg hji] at hdn;obtain ⟨u,h1,h2⟩:=h.dn j q e hq hdn he;exact ⟨u,h1,hk j q hq hji hdn e u he h1 h2⟩
theorem wp_region_invB {P:Program} {id:Nat} {ops:Array Oper} {Q:Exit→Act→World→Prop} {a:Act} {w:World} (V:RVB) (S:List Nat) (B:Nat) (F:List Bool→World→Prop) (n:Nat) (hF0:F (S.map fun _=>false) w.drew) (hm:P.follows .mixedOrders=true) (hn:a.tmps.size=n) (hsl:slotsB ops n=true)
  (hs:slotsB ops a.tmps.size=true→∀done a' w' i o,RInvB ops V S B F w a done a' w'→ops[i]?=some o→done.getD i false=false→(∀e∈o.after,Region.binds .any e=true→done.getD e.on false=true)→wpOp P ops Q i (RInvB ops V S B F w a (done.setIfInBounds i true)) a' w')
  (he:∀done a' w',RInvB ops V S B F w a done a' w'→(∀i,i<ops.size→done.getD i false=true)→Q .normal a' w') (hac:backB ops=true):(Code.region id ops true).wp P Q a w:=by
 refine wp_region_any hm ?_;refine wpAny_inv (RInvB ops V S B F w a) (fun _ _ _ h=>h.sz) (fun done a' w' i hI hi=>?_) (fun done a' w' hI hr=>he done a' w' hI (back_done hac done hI.sz hr)) _ _ _ _ ?_ ?_
 ·obtain ⟨hun,o,ho,h⟩:=mem_ready.1 hi;refine hs (by rw [hn];exact hsl) done a' w' i o hI ho ?_ h;rw [Array.getD_eq_getD_getElem?] at hun ⊢;cases hx:done[i]? with
  | none=>rfl
  | some b=>rw [hx] at hun;exact hun
 ·refine ⟨by simp,rfl,rfl,(Below.refl _ _).drew,by rw [stB_none];exact hF0,fun _ _=>rfl,fun i o ho hd=>?_,fun i o d ho hd _=>?_⟩
  ·rw [Array.getD_eq_getD_getElem?] at hd;simp only [Array.getElem?_replicate] at hd;split at hd <;> simp at hd
  rw [Array.getD_eq_getD_getElem?] at hd;simp only [Array.getElem?_replicate] at hd;split at hd <;> simp at hd
 ·simp
theorem RInvB.all {ops:Array Oper} {V:RVB} {S:List Nat} {B:Nat} {F:List Bool→World→Prop} {w0 w:World} {a0 a:Act} {done:Array Bool} (h:RInvB ops V S B F w0 a0 done a w) (hd:∀i,i<ops.size→done.getD i false=true) :
  ∃f:Nat→Value,a=putAll ops f a0 ops.size∧∀i o d,ops[i]?=some o→o.dst=some d→V (stB S done) i (f i) w:=by
 refine ⟨slotF ops a,?_,fun i o d ho hod=>?_⟩
 ·have ht:a.tmps=(putAll ops (slotF ops a) a0 ops.size).tmps:=by
   apply Array.ext_getElem?
   intro k;obtain ⟨_,h2,h3,_⟩:=putAll_at (ops:=ops) (a:=a0) (a':=a) h.ts ops.size k;by_cases he:∃i,i<ops.size∧(ops[i]?).bind (·.dst)=some k
   ·exact (h2 he).symm
   ·rw [h3 fun i hi e=>he ⟨i,hi,e⟩];refine h.un k fun i o ho _ e=>he ⟨i,(Array.getElem?_eq_some_iff.1 ho).1,by rw [ho];exact e⟩
  have hf:=(putAll_at (ops:=ops) (a:=a0) (a':=a) h.ts ops.size 0).2.2.2;generalize putAll ops (slotF ops a) a0 ops.size=b at ht hf ⊢;obtain ⟨bt1,bd1⟩:=b;obtain ⟨at1,ad1⟩:=a;have:=h.df;simp only [] at ht hf this ⊢;subst ht;rw [hf,this]
 ·obtain ⟨v,h1,h2⟩:=h.dn i o d ho (hd i (Array.getElem?_eq_some_iff.1 ho).1) hod;have e0:slotF ops a i=v:=by unfold slotF;simp only [ho,Option.bind_some,hod,Array.getD_eq_getD_getElem?,h1,Option.getD_some]
  rw [e0];exact h2
theorem RInvB.op {P:Program} {ops:Array Oper} {V:RVB} {S:List Nat} {B:Nat} {F:List Bool→World→Prop} {Q:Exit→Act→World→Prop} {w0 w:World} {a0 a:Act} {done:Array Bool} {i d:Nat} {o:Oper} (h:RInvB ops V S B F w0 a0 done a w) (hs:slotsB ops a0.tmps.size=true) (hst:∀b j u w w',Below w.heap.size w w'→V b j u w→V b j u w')
  (hFt:∀b w w',Below w.heap.size w w'→F b w→F b w') (hw0:B≤w.heap.size) (ho:ops[i]?=some o) (hd:o.dst=some d) (hgd:o.guard=none) (hS:i ∉ S) (hpre:∀e∈o.after,Region.binds .any e=true→done.getD e.on false=true) 
  (hwp:Oper.wp P o a w (fun a' w'=>∃v,a'=a.put o.dst v∧Below w.heap.size w w'∧V (stB S done) i v w') Q):wpOp P ops Q i (RInvB ops V S B F w0 a0 (done.setIfInBounds i true)) a w:=by
 refine wpOp_step ho fun K' hK=>?_
 have hw:Region.wanted o (yielded ops a.tmps)=true:=by simp [Region.wanted,hgd]
 rw [if_pos hw];refine Oper.wp_mono (fun a' w' hx=>hK a' w' ?_) hwp;obtain ⟨v,rfl,hb,hv⟩:=hx;have hi:i<done.size:=by rw [h.sz];exact (Array.getElem?_eq_some_iff.1 ho).1
 have e:stB S (done.setIfInBounds i true)=stB S done:=stB_set hi hS;exact h.put hs ho hd hpre (h.bw.trans (hb.mono hw0)) (by rw [e];exact hFt _ _ _ hb h.ex) (fun j q _ _ _ u hu=>by rw [e];exact hst _ _ _ _ _ hb hu) (by rw [e];exact hv)
theorem RInvB.keep {ops:Array Oper} {V:RVB} {S:List Nat} {B:Nat} {F:List Bool→World→Prop} {w0 w:World} {a0 a:Act} {done:Array Bool} (h:RInvB ops V S B F w0 a0 done a w) (k:Nat) (v:Value) (hv:a0.tmps[k]?=some v) (hk:((List.range ops.size).all fun i=>(ops[i]?).bind (·.dst) != some k)=true):a.tmps[k]?=some v:=by
 rw [h.un k fun i o ho _ e=>?_,hv];rw [List.all_eq_true] at hk;have:=hk i (List.mem_range.2 (Array.getElem?_eq_some_iff.1 ho).1);rw [ho,Option.bind_some,e] at this;simp at this
end
section
/- Regions that draw their order,by what holds of each operation that is done,of the slots and of the world: for regions that make boxes,too. -/
open Go.RowKit
structure RInvC (ops:Array Oper) (V:RVB) (S:List Nat) (B:Nat) (F:List Bool→Array Value→World→Prop) (w0:World) (a0:Act) (done:Array Bool) (a:Act) (w:World):Prop where
 sz:done.size=ops.size
 df:a.defers=a0.defers
 ts:a.tmps.size=a0.tmps.size
 bw:Below B w0 w
 ex:F (stB S done) a.tmps w
 un:∀k,(∀i o,ops[i]?=some o→done.getD i false=true→o.dst≠some k)→a.tmps[k]?=a0.tmps[k]?
 pr:∀i o,ops[i]?=some o→done.getD i false=true→∀e∈o.after,Region.binds .any e=true→done.getD e.on false=true
 dn:∀i o d,ops[i]?=some o→done.getD i false=true→o.dst=some d→∃v,a.tmps[d]?=some v∧V (stB S done) i v w
theorem RInvC.put {ops:Array Oper} {V:RVB} {S:List Nat} {B:Nat} {F:List Bool→Array Value→World→Prop} {w0 w w':World} {a0 a:Act} {done:Array Bool} {i d:Nat} {o:Oper} {v:Value} (h:RInvC ops V S B F w0 a0 done a w) (hs:slotsB ops a0.tmps.size=true) (ho:ops[i]?=some o) (hd:o.dst=some d) (hpre:∀e∈o.after,Region.binds .any e=true→done.getD e.on false=true) 
  (hb:Below B w0 w') (hF:F (stB S (done.setIfInBounds i true)) (a.tmps.setIfInBounds d v) w') (hk:∀j q,ops[j]?=some q→j≠i→done.getD j false=true→∀u,V (stB S done) j u w→V (stB S (done.setIfInBounds i true)) j u w') (hv:V (stB S (done.setIfInBounds i true)) i v w'):RInvC ops V S B F w0 a0 (done.setIfInBounds i true) (a.put o.dst v) w':=by
 have hi:i<done.size:=by rw [h.sz];exact (Array.getElem?_eq_some_iff.1 ho).1
 have hdl:d<a.tmps.size:=by rw [h.ts];exact slots_lt hs ho hd
 have e1:(a.put o.dst v).tmps=a.tmps.setIfInBounds d v:=by rw [hd];rfl
 refine ⟨by rw [Array.size_setIfInBounds];exact h.sz,by rw [hd];exact h.df,by rw [e1,Array.size_setIfInBounds];exact h.ts,hb,by rw [e1];exact hF,fun k hk=>?_,fun j q hq hdn e he hbi=>by
  rw [getD_set _ _ _ hi] at hdn ⊢;split
  ·rfl
  ·rename_i hne;by_cases hji:j=i
   ·subst hji;rw [ho] at hq;injection hq with hq;subst hq
    exact hpre e he hbi
   ·rw [if_neg hji] at hdn;exact h.pr j q hq hdn e he hbi,fun j q e hq hdn he=>?_⟩
 ·have hne:d≠k:=fun e=>hk i o ho (by rw [getD_set _ _ _ hi,if_pos rfl]) (by rw [hd,e])
  rw [e1,Array.getElem?_setIfInBounds,if_neg hne];exact h.un k fun j q hq hdn=>hk j q hq (by rw [getD_set _ _ _ hi];split <;> first | rfl | exact hdn)
 ·rw [e1,Array.getElem?_setIfInBounds];by_cases hji:j=i
  ·subst hji;rw [ho] at hq;injection hq with hq;subst hq
   rw [hd] at he;injection he with he;subst he
   rw [if_pos rfl,if_pos hdl];exact ⟨v,rfl,hv⟩
  ·have hne:d≠e:=fun x=>hji (slots_ne hs hq (by rw [he,x]) ho hd)
   rw [getD_set _ _ _ hi,if_neg hji] at hdn;rw [if_neg hne];obtain ⟨u,h1,h2⟩:=h.dn j q e hq hdn he;exact ⟨u,h1,hk j q hq hji hdn u h2⟩
theorem RInvC.skip {ops:Array Oper} {V:RVB} {S:List Nat} {B:Nat} {F:List Bool→Array Value→World→Prop} {w0 w w':World} {a0 a:Act} {done:Array Bool} {i:Nat} {o:Oper} {v:Value} (h:RInvC ops V S B F w0 a0 done a w) (ho:ops[i]?=some o) (hd:o.dst=none) (hpre:∀e∈o.after,Region.binds .any e=true→done.getD e.on false=true) 
  (hb:Below B w0 w') (hF:F (stB S (done.setIfInBounds i true)) a.tmps w') (hk:∀j q,ops[j]?=some q→j≠i→done.getD j false=true→∀d u,q.dst=some d→a.tmps[d]?=some u→V (stB S done) j u w→V (stB S (done.setIfInBounds i true)) j u w'):RInvC ops V S B F w0 a0 (done.setIfInBounds i true) (a.put o.dst v) w':=by
 have hi:i<done.size:=by rw [h.sz];exact (Array.getElem?_eq_some_iff.1 ho).1
 have e1:(a.put o.dst v)=a:=by rw [hd];rfl
 rw [e1]
 refine ⟨by rw [Array.size_setIfInBounds];exact h.sz,h.df,h.ts,hb,hF,fun k hk=>h.un k fun j q hq hdn=>hk j q hq (by rw [getD_set _ _ _ hi];split <;> first | rfl | exact hdn),fun j q hq hdn e he hbi=>by
  rw [getD_set _ _ _ hi] at hdn ⊢;split
  ·rfl
  ·rename_i hne;by_cases hji:j=i
   ·subst hji;rw [ho] at hq;injection hq with hq;subst hq
    exact hpre e he hbi
   ·rw [if_neg hji] at hdn;exact h.pr j q hq hdn e he hbi,fun j q e hq hdn he=>?_⟩
 by_cases hji:j=i
 ·subst hji;rw [ho] at hq;injection hq with hq;subst hq
  rw [hd] at he;cases he
 ·rw [getD_set _ _ _ hi,if_neg hji] at hdn;obtain ⟨u,h1,h2⟩:=h.dn j q e hq hdn he;exact ⟨u,h1,hk j q hq hji hdn e u he h1 h2⟩
theorem wp_region_invC {P:Program} {id:Nat} {ops:Array Oper} {Q:Exit→Act→World→Prop} {a:Act} {w:World} (V:RVB) (S:List Nat) (B:Nat) (F:List Bool→Array Value→World→Prop) (n:Nat) (hF0:F (S.map fun _=>false) a.tmps w.drew) (hm:P.follows .mixedOrders=true) (hn:a.tmps.size=n) (hsl:slotsB ops n=true)
  (hs:slotsB ops a.tmps.size=true→∀done a' w' i o,RInvC ops V S B F w a done a' w'→ops[i]?=some o→done.getD i false=false→(∀e∈o.after,Region.binds .any e=true→done.getD e.on false=true)→wpOp P ops Q i (RInvC ops V S B F w a (done.setIfInBounds i true)) a' w')
  (he:∀done a' w',RInvC ops V S B F w a done a' w'→(∀i,i<ops.size→done.getD i false=true)→Q .normal a' w') (hac:backB ops=true):(Code.region id ops true).wp P Q a w:=by
 refine wp_region_any hm ?_;refine wpAny_inv (RInvC ops V S B F w a) (fun _ _ _ h=>h.sz) (fun done a' w' i hI hi=>?_) (fun done a' w' hI hr=>he done a' w' hI (back_done hac done hI.sz hr)) _ _ _ _ ?_ ?_
 ·obtain ⟨hun,o,ho,h⟩:=mem_ready.1 hi;refine hs (by rw [hn];exact hsl) done a' w' i o hI ho ?_ h;rw [Array.getD_eq_getD_getElem?] at hun ⊢;cases hx:done[i]? with
  | none=>rfl
  | some b=>rw [hx] at hun;exact hun
 ·refine ⟨by simp,rfl,rfl,(Below.refl _ _).drew,by rw [stB_none];exact hF0,fun _ _=>rfl,fun i o ho hd=>?_,fun i o d ho hd _=>?_⟩
  ·rw [Array.getD_eq_getD_getElem?] at hd;simp only [Array.getElem?_replicate] at hd;split at hd <;> simp at hd
  rw [Array.getD_eq_getD_getElem?] at hd;simp only [Array.getElem?_replicate] at hd;split at hd <;> simp at hd
 ·simp
theorem RInvC.all {ops:Array Oper} {V:RVB} {S:List Nat} {B:Nat} {F:List Bool→Array Value→World→Prop} {w0 w:World} {a0 a:Act} {done:Array Bool} (h:RInvC ops V S B F w0 a0 done a w) (hd:∀i,i<ops.size→done.getD i false=true) :
  ∃f:Nat→Value,a=putAll ops f a0 ops.size∧∀i o d,ops[i]?=some o→o.dst=some d→V (stB S done) i (f i) w:=by
 refine ⟨slotF ops a,?_,fun i o d ho hod=>?_⟩
 ·have ht:a.tmps=(putAll ops (slotF ops a) a0 ops.size).tmps:=by
   apply Array.ext_getElem?
   intro k;obtain ⟨_,h2,h3,_⟩:=putAll_at (ops:=ops) (a:=a0) (a':=a) h.ts ops.size k;by_cases he:∃i,i<ops.size∧(ops[i]?).bind (·.dst)=some k
   ·exact (h2 he).symm
   ·rw [h3 fun i hi e=>he ⟨i,hi,e⟩];refine h.un k fun i o ho _ e=>he ⟨i,(Array.getElem?_eq_some_iff.1 ho).1,by rw [ho];exact e⟩
  have hf:=(putAll_at (ops:=ops) (a:=a0) (a':=a) h.ts ops.size 0).2.2.2;generalize putAll ops (slotF ops a) a0 ops.size=b at ht hf ⊢;obtain ⟨bt1,bd1⟩:=b;obtain ⟨at1,ad1⟩:=a;have:=h.df;simp only [] at ht hf this ⊢;subst ht;rw [hf,this]
 ·obtain ⟨v,h1,h2⟩:=h.dn i o d ho (hd i (Array.getElem?_eq_some_iff.1 ho).1) hod;have e0:slotF ops a i=v:=by unfold slotF;simp only [ho,Option.bind_some,hod,Array.getD_eq_getD_getElem?,h1,Option.getD_some]
  rw [e0];exact h2
theorem RInvC.op {P:Program} {ops:Array Oper} {V:RVB} {S:List Nat} {B:Nat} {F:List Bool→Array Value→World→Prop} {Q:Exit→Act→World→Prop} {w0 w:World} {a0 a:Act} {done:Array Bool} {i d:Nat} {o:Oper} (h:RInvC ops V S B F w0 a0 done a w) (hs:slotsB ops a0.tmps.size=true) (hst:∀b j u w w',Below w.heap.size w w'→V b j u w→V b j u w')
  (hFt:∀b t w w',Below w.heap.size w w'→F b t w→F b t w') (D:List Nat) (hFp:∀b (t:Array Value) d v w,d ∉ D→F b t w→F b (t.setIfInBounds d v) w) (hDd:d ∉ D) (hw0:B≤w.heap.size) (ho:ops[i]?=some o) (hd:o.dst=some d) (hgd:o.guard=none) (hS:i ∉ S) (hpre:∀e∈o.after,Region.binds .any e=true→done.getD e.on false=true) 
  (hwp:Oper.wp P o a w (fun a' w'=>∃v,a'=a.put o.dst v∧Below w.heap.size w w'∧V (stB S done) i v w') Q):wpOp P ops Q i (RInvC ops V S B F w0 a0 (done.setIfInBounds i true)) a w:=by
 refine wpOp_step ho fun K' hK=>?_
 have hw:Region.wanted o (yielded ops a.tmps)=true:=by simp [Region.wanted,hgd]
 rw [if_pos hw];refine Oper.wp_mono (fun a' w' hx=>hK a' w' ?_) hwp;obtain ⟨v,rfl,hb,hv⟩:=hx;have hi:i<done.size:=by rw [h.sz];exact (Array.getElem?_eq_some_iff.1 ho).1
 have e:stB S (done.setIfInBounds i true)=stB S done:=stB_set hi hS;exact h.put hs ho hd hpre (h.bw.trans (hb.mono hw0)) (by rw [e];exact hFp _ _ _ _ _ hDd (hFt _ _ _ _ hb h.ex)) (fun j q _ _ _ u hu=>by rw [e];exact hst _ _ _ _ _ hb hu) (by rw [e];exact hv)
theorem RInvC.keep {ops:Array Oper} {V:RVB} {S:List Nat} {B:Nat} {F:List Bool→Array Value→World→Prop} {w0 w:World} {a0 a:Act} {done:Array Bool} (h:RInvC ops V S B F w0 a0 done a w) (k:Nat) (v:Value) (hv:a0.tmps[k]?=some v) (hk:((List.range ops.size).all fun i=>(ops[i]?).bind (·.dst) != some k)=true):a.tmps[k]?=some v:=by
 rw [h.un k fun i o ho _ e=>?_,hv];rw [List.all_eq_true] at hk;have:=hk i (List.mem_range.2 (Array.getElem?_eq_some_iff.1 ho).1);rw [ho,Option.bind_some,e] at this;simp at this
end
section
open Go.RowKit Go.Shelf
theorem pred1_c (z:Int) (p q g h gk:Nat) (w:World) (hB:Blk w gk 35 [.string (E p),.string (E q),.string (E g),.string (E h)]) (hz:z.natAbs<256^8) (hq:q<256^8) (h0:0<q) :
  Calls Tryz.prog 134 #[.agg #[.bool (sg (z)),.string (E (z).natAbs)],.pointer (some ⟨gk,0,none⟩)] w fun e w'=>e=.returned (.agg #[.bool false,.string (E (z%(q:Int)).toNat)])∧Below w.heap.size w w':=by
 obtain ⟨r,hr⟩:∃r,r=(z%(q:Int)).toNat:=⟨_,rfl⟩;rw [←hr];have hrq:r<q:=by rw [hr];have:=Int.emod_lt_of_pos z (show (0:Int)<q by omega);omega
 have HM:Hid (∀w:World,Calls Tryz.prog 62 #[.agg #[.bool (sg (z)),.string (E (z).natAbs)],.string (E q)] w fun e w'=>e=.returned (.tuple #[.string (E r),.int .i64 0])∧Below w.heap.size w w'):=fun w=>by
  rw [hr];exact imod_c z q w hz (Nat.lt_of_lt_of_le hq (Nat.pow_le_pow_right (by decide) (by decide))) h0
 have HF:Hid (∀w:World,Calls Tryz.prog 87 #[.string (E r)] w fun e w'=>e=.returned (.agg #[.bool false,.string (E r)])∧Below w.heap.size w w'):=fun w=>ifrom_c r w (Nat.lt_trans hrq (Nat.lt_of_lt_of_le hq (Nat.pow_le_pow_right (by decide) (by decide))))
 clear hr hrq hz h0;generalize sg z=b at HM ⊢;generalize E z.natAbs=s at HM ⊢;have hA:=blk2a w #[.bool b,.string s] #[.bool false,.string ⟨#[]⟩] 37 37;have hR:=blk2b w #[.bool b,.string s] #[.bool false,.string ⟨#[]⟩] 37 37;have hBW:=b2 w (.cells #[.bool b,.string s] 37) (.cells #[.bool false,.string ⟨#[]⟩] 37);have hB1:=hB.after hBW;have hBl:=hB1.lt;obtain ⟨hAc0,hAf0,hAc1,hAf1⟩:=hA.x2;obtain ⟨hB1c0,hB1f0,hB1c1,hB1f1,hB1c2,hB1f2,hB1c3,hB1f3⟩:=hB1.x4;go_enter Tryz.func134,Tryz.ntmps134
 go_wp2_with fail
 refine (HM.out _).mono ?_;rintro e w2 ⟨rfl,hb2⟩;clear hAc0 hAf0 hAc1 hAf1;clear hB1c0 hB1f0 hB1c1 hB1f1 hB1c2 hB1f2 hB1c3 hB1f3;replace hR:=hR.after hb2;replace hBW:=bt hBW hb2;clear hb2 hA hB1 hBl;go_wp2_with fail
 refine (HF.out _).mono ?_;rintro e w3 ⟨rfl,hb3⟩;replace hR:=hR.after hb3;replace hBW:=bt hBW hb3;clear hb3;have hRl:=hR.lt;obtain ⟨hRc0,hRf0,hRc1,hRf1⟩:=hR.x2;go_wp2;refine bodyPost_ret (v:=.agg #[.bool false,.string (E r)]) ?_ rfl ?_
 ·simp [results,Tryz.results134,go_sem,hRc0,hRc1,hRl]
 ·exact ⟨rfl,((hBW.setCell (p:=⟨w.heap.size+1,0,none⟩) (Nat.le_succ _) _).setCell (p:=⟨w.heap.size+1,1,none⟩) (Nat.le_succ _) _)⟩
theorem wp_callV {P:Program} {o:Oper} {a:Act} {w:World} {Q:Exit→Act→World→Prop} (f:FuncId) (k:Nat) (caps:Array Value) (xs:Array Operand) (ts:Array TypeId)
  (ho:o.op=.call { callee:=.value (.tmp k),args:=xs,argTypes:=ts }) (hd:a.tmps[k]?=some (.func (.func f) #[] caps)) (hE:∀args w,(callFunc f args).run P w=.ok (.enter f args) w) {R:Value→World→Prop}
  (hc:Calls P f (xs.map a.eval++caps) w fun e w'=>∃v,e=.returned v∧Below w.heap.size w w'∧R v w'):Oper.wp P o a w (fun a' w'=>∃v,a'=a.put o.dst v∧Below w.heap.size w w'∧R v w') Q:=by
 have hrun:(execOp a.eval o).run P w=.ok (.enter f (xs.map a.eval++caps)) w:=by
  simp [execOp,ho,resolve,invoke,go_sem,hE,hd]
 unfold Oper.wp;rw [hrun,Oper.upon_enter];refine hc.mono fun e w' he=>?_
 obtain ⟨v,rfl,hb,hR⟩:=he;exact ⟨v,rfl,hb,hR⟩
def vRd (gK gO:Nat) (vm vr m' r':Value) (am ar:Nat):RVB:=fun st i v w=>match i with
 | 0=>v=.func (.func 134) #[] #[.pointer (some ⟨gK,0,none⟩)]
 | 1=>v=.pointer (some ⟨gO,0,none⟩)
 | 2=>v=vm
 | 3=>v=m'
 | 4=>v=.func (.func 134) #[] #[.pointer (some ⟨gK,0,none⟩)]
 | 5=>v=.pointer (some ⟨gO,2,none⟩)
 | 6=>v=vr
 | 7=>v=r'
 | 8=>v=.agg #[.bool false,.string (E am),.bool false,.string (E ar)]
 | _=>True
theorem vRd_st (gK gO:Nat) (vm vr m' r':Value) (am ar:Nat):∀(l l':List Bool) (j:Nat) (u:Value) (w w':World),vRd gK gO vm vr m' r' am ar l j u w→vRd gK gO vm vr m' r' am ar l' j u w':=by
 intro l l' j u w w' h;unfold vRd at h ⊢;exact h
def fRd (gR am ar:Nat) (st:List Bool) (w:World):Prop:=(st=[false]→Blk w gR 39 [.bool false,.string ⟨#[]⟩,.bool false,.string ⟨#[]⟩])∧(st=[true]→Blk w gR 39 [.bool false,.string (E am),.bool false,.string (E ar)])
theorem pred_c (m r:Int) (p q g h:Nat) (w:World) (hm:m.natAbs<256^8) (hr:r.natAbs<256^8) (hq:q<256^8) (h0:0<q) :
  Calls Tryz.prog 107 #[.agg #[.string (E p),.string (E q),.string (E g),.string (E h)],.agg #[.bool (sg m),.string (E m.natAbs),.bool (sg r),.string (E r.natAbs)]] w fun e w' =>
   e=.returned (.agg #[.bool false,.string (E (m%(q:Int)).toNat),.bool false,.string (E (r%(q:Int)).toNat)])∧Below w.heap.size w w':=by
 obtain ⟨am,ham⟩:∃n,n=(m%(q:Int)).toNat:=⟨_,rfl⟩;obtain ⟨ar,har⟩:∃n,n=(r%(q:Int)).toNat:=⟨_,rfl⟩;have HP1:Hid (∀w':World,Blk w' w.heap.size 35 [.string (E p),.string (E q),.string (E g),.string (E h)]→Calls Tryz.prog 134 #[.agg #[.bool (sg (m)),.string (E (m).natAbs)],.pointer (some ⟨w.heap.size,0,none⟩)] w' fun e w''=>e=.returned (.agg #[.bool false,.string (E am)])∧Below w'.heap.size w' w''):=fun w' hb=>by rw [ham];exact pred1_c m p q g h w.heap.size w' hb hm hq h0
 have HP2:Hid (∀w':World,Blk w' w.heap.size 35 [.string (E p),.string (E q),.string (E g),.string (E h)]→Calls Tryz.prog 134 #[.agg #[.bool (sg (r)),.string (E (r).natAbs)],.pointer (some ⟨w.heap.size,0,none⟩)] w' fun e w''=>e=.returned (.agg #[.bool false,.string (E ar)])∧Below w'.heap.size w' w''):=fun w' hb=>by rw [har];exact pred1_c r p q g h w.heap.size w' hb hr hq h0
 rw [←ham,←har];clear ham har;have hK:=blk3a w #[.string (E p),.string (E q),.string (E g),.string (E h)] #[.bool (sg m),.string (E m.natAbs),.bool (sg r),.string (E r.natAbs)] #[.bool false,.string ⟨#[]⟩,.bool false,.string ⟨#[]⟩] 35 39 39;have hO:=blk3b w #[.string (E p),.string (E q),.string (E g),.string (E h)] #[.bool (sg m),.string (E m.natAbs),.bool (sg r),.string (E r.natAbs)] #[.bool false,.string ⟨#[]⟩,.bool false,.string ⟨#[]⟩] 35 39 39;have hR:=blk3c w #[.string (E p),.string (E q),.string (E g),.string (E h)] #[.bool (sg m),.string (E m.natAbs),.bool (sg r),.string (E r.natAbs)] #[.bool false,.string ⟨#[]⟩,.bool false,.string ⟨#[]⟩] 35 39 39;have hBW:=b3 w (.cells #[.string (E p),.string (E q),.string (E g),.string (E h)] 35) (.cells #[.bool (sg m),.string (E m.natAbs),.bool (sg r),.string (E r.natAbs)] 39) (.cells #[.bool false,.string ⟨#[]⟩,.bool false,.string ⟨#[]⟩] 39);have hz:=nzE h0;have hz2:=nzE2 h0;have hmf:∀(fn:Fn) (first cap:Array Value) (w:World),(Instr.makeFunc fn first cap).run Tryz.prog w=.ok (.func fn first cap) w:=fun _ _ _ _=>rfl
 obtain ⟨hKc0,hKf0,hKc1,hKf1,hKc2,hKf2,hKc3,hKf3⟩:=hK.x4;go_enter Tryz.func107,Tryz.ntmps107
 go_upto_region 4 with fail
 clear hKc0 hKf0 hKc1 hKf1 hKc2 hKf2 hKc3 hKf3;obtain ⟨gO,hgO⟩:∃x,w.heap.size+1=x:=⟨_,rfl⟩;obtain ⟨gR,hgR⟩:∃x,w.heap.size+1+1=x:=⟨_,rfl⟩;have HGW:Hid (w.heap.size≤gR):=by rw [Hid];omega
 have HGG:Hid (w.heap.size<gR∧gO<gR):=by rw [Hid];omega
 rw [hgR,hgO];generalize ((w.alloc (.cells #[.string (E p),.string (E q),.string (E g),.string (E h)] 35)).alloc (.cells #[.bool (sg m),.string (E m.natAbs),.bool (sg r),.string (E r.natAbs)] 39)).alloc (.cells #[.bool false,.string ⟨#[]⟩,.bool false,.string ⟨#[]⟩] 39)=w1 at hK hO hR hBW ⊢;replace hK:Blk w1 w.heap.size 35 [.string (E p),.string (E q),.string (E g),.string (E h)]:=hK;replace hO:Blk w1 gO 39 [.bool (sg m),.string (E m.natAbs),.bool (sg r),.string (E r.natAbs)]:=hgO ▸ hO;replace hR:Blk w1 gR 39 [.bool false,.string ⟨#[]⟩,.bool false,.string ⟨#[]⟩]:=hgR ▸ hR;clear hgO hgR hz hz2 hmf hm hr hq h0;have hRl:=hR.lt;obtain ⟨w0,hw0⟩:∃x,x=w:=⟨_,rfl⟩;subst hw0;refine wp_region_invB (vRd w0.heap.size gO (.agg #[.bool (sg (m)),.string (E (m).natAbs)]) (.agg #[.bool (sg (r)),.string (E (r).natAbs)]) (.agg #[.bool false,.string (E am)]) (.agg #[.bool false,.string (E ar)]) am ar) [9] gR (fRd gR am ar) 21 ⟨fun _=>hR,fun h=>by cases h⟩ (by kernel_rfl) rfl (by kernel_rfl) ?_ ?_ (by kernel_rfl)
 ·intro hsl done a' w' i o hJ ho hun hpre;have hi:=(Array.getElem?_eq_some_iff.1 ho).1;have hst:∀(l:List Bool) (j:Nat) (u:Value) (w w':World),Below w.heap.size w w'→vRd w0.heap.size gO (.agg #[.bool (sg (m)),.string (E (m).natAbs)]) (.agg #[.bool (sg (r)),.string (E (r).natAbs)]) (.agg #[.bool false,.string (E am)]) (.agg #[.bool false,.string (E ar)]) am ar l j u w→vRd w0.heap.size gO (.agg #[.bool (sg (m)),.string (E (m).natAbs)]) (.agg #[.bool (sg (r)),.string (E (r).natAbs)]) (.agg #[.bool false,.string (E am)]) (.agg #[.bool false,.string (E ar)]) am ar l j u w':=fun l j u w w' _ h=>vRd_st _ _ _ _ _ _ _ _ l l j u w w' h
  have hFt:∀(b:List Bool) (w w':World),Below w.heap.size w w'→fRd gR am ar b w→fRd gR am ar b w':=fun b w w' hb h=>⟨fun e=>(h.1 e).after hb,fun e=>(h.2 e).after hb⟩
  have hwz:gR≤w'.heap.size:=Nat.le_trans (Nat.le_of_lt hRl) hJ.bw.size;have hKx:Blk w' w0.heap.size 35 [.string (E p),.string (E q),.string (E g),.string (E h)]:=by show w'.heap[_]?=_;rw [hJ.bw.block _ HGG.out.1];exact hK
  have hOx:Blk w' gO 39 [.bool (sg m),.string (E m.natAbs),.bool (sg r),.string (E r.natAbs)]:=by show w'.heap[_]?=_;rw [hJ.bw.block _ HGG.out.2];exact hO
  have hOl:=hOx.lt;have y0:=hOx.cell 0;have y1:=hOx.cell 1;have y2:=hOx.cell 2;have y3:=hOx.cell 3
  match i,hi,ho,hun,hpre with
   | 0,_,ho,hun,hpre =>
    simp at ho;subst ho;refine hJ.op (d:=12) hsl hst hFt hwz rfl rfl rfl (by decide) hpre ?_;have q5:=hJ.keep 5 (.func (.func 134) #[] #[.pointer (some ⟨w0.heap.size,0,none⟩)]) rfl (by kernel_rfl);refine wp_val (v:=.func (.func 134) #[] #[.pointer (some ⟨w0.heap.size,0,none⟩)]) (by simp [execOp,q5,go_sem]) rfl
   | 1,_,ho,hun,hpre =>
    simp at ho;subst ho;refine hJ.op (d:=13) hsl hst hFt hwz rfl rfl rfl (by decide) hpre ?_;have q3:=hJ.keep 3 (.pointer (some ⟨gO,0,none⟩)) rfl (by kernel_rfl);refine wp_val (v:=.pointer (some ⟨gO,0,none⟩)) (by simp [execOp,q3,go_sem]) rfl
   | 2,_,ho,hun,hpre =>
    simp at ho;subst ho;refine hJ.op (d:=14) hsl hst hFt hwz rfl rfl rfl (by decide) hpre ?_;obtain ⟨v13,ev13,hv13⟩:=hJ.dn 1 _ 13 rfl (hpre ⟨1,.data⟩ (by simp) rfl) rfl;have qv13:=eval_of ev13;obtain rfl:v13=.pointer (some ⟨gO,0,none⟩):=hv13;refine wp_val (v:=.agg #[.bool (sg (m)),.string (E (m).natAbs)]) (by simp [execOp,ev13,go_sem,y0,y1]) rfl
   | 3,_,ho,hun,hpre =>
    simp at ho;subst ho;refine hJ.op (d:=15) hsl hst hFt hwz rfl rfl rfl (by decide) hpre ?_;obtain ⟨v12,ev12,hv12⟩:=hJ.dn 0 _ 12 rfl (hpre ⟨0,.data⟩ (by simp) rfl) rfl;have qv12:=eval_of ev12;obtain ⟨v14,ev14,hv14⟩:=hJ.dn 2 _ 14 rfl (hpre ⟨2,.data⟩ (by simp) rfl) rfl;have qv14:=eval_of ev14;obtain rfl:v12=.func (.func 134) #[] #[.pointer (some ⟨w0.heap.size,0,none⟩)]:=hv12;obtain rfl:v14=.agg #[.bool (sg (m)),.string (E (m).natAbs)]:=hv14;refine wp_callV 134 12 #[.pointer (some ⟨w0.heap.size,0,none⟩)] #[.tmp 14] #[37] rfl ev12 (enters_of Tryz.func134 (by kernel_rfl) rfl) ?_;simp only [List.map_toArray,List.map_cons,List.map_nil,qv14];refine (HP1.out w' hKx).mono ?_;rintro e w'' ⟨rfl,hb⟩;exact ⟨_,rfl,hb,rfl⟩
   | 4,_,ho,hun,hpre =>
    simp at ho;subst ho;refine hJ.op (d:=16) hsl hst hFt hwz rfl rfl rfl (by decide) hpre ?_;have q5:=hJ.keep 5 (.func (.func 134) #[] #[.pointer (some ⟨w0.heap.size,0,none⟩)]) rfl (by kernel_rfl);refine wp_val (v:=.func (.func 134) #[] #[.pointer (some ⟨w0.heap.size,0,none⟩)]) (by simp [execOp,q5,go_sem]) rfl
   | 5,_,ho,hun,hpre =>
    simp at ho;subst ho;refine hJ.op (d:=17) hsl hst hFt hwz rfl rfl rfl (by decide) hpre ?_;have q3:=hJ.keep 3 (.pointer (some ⟨gO,0,none⟩)) rfl (by kernel_rfl);refine wp_val (v:=.pointer (some ⟨gO,2,none⟩)) (by simp [execOp,q3,go_sem]) rfl
   | 6,_,ho,hun,hpre =>
    simp at ho;subst ho;refine hJ.op (d:=18) hsl hst hFt hwz rfl rfl rfl (by decide) hpre ?_;obtain ⟨v17,ev17,hv17⟩:=hJ.dn 5 _ 17 rfl (hpre ⟨5,.data⟩ (by simp) rfl) rfl;have qv17:=eval_of ev17;obtain rfl:v17=.pointer (some ⟨gO,2,none⟩):=hv17;refine wp_val (v:=.agg #[.bool (sg (r)),.string (E (r).natAbs)]) (by simp [execOp,ev17,go_sem,y2,y3]) rfl
   | 7,_,ho,hun,hpre =>
    simp at ho;subst ho;refine hJ.op (d:=19) hsl hst hFt hwz rfl rfl rfl (by decide) hpre ?_;obtain ⟨v16,ev16,hv16⟩:=hJ.dn 4 _ 16 rfl (hpre ⟨4,.data⟩ (by simp) rfl) rfl;have qv16:=eval_of ev16;obtain ⟨v18,ev18,hv18⟩:=hJ.dn 6 _ 18 rfl (hpre ⟨6,.data⟩ (by simp) rfl) rfl;have qv18:=eval_of ev18;obtain rfl:v16=.func (.func 134) #[] #[.pointer (some ⟨w0.heap.size,0,none⟩)]:=hv16;obtain rfl:v18=.agg #[.bool (sg (r)),.string (E (r).natAbs)]:=hv18;refine wp_callV 134 16 #[.pointer (some ⟨w0.heap.size,0,none⟩)] #[.tmp 18] #[37] rfl ev16 (enters_of Tryz.func134 (by kernel_rfl) rfl) ?_;simp only [List.map_toArray,List.map_cons,List.map_nil,qv18];refine (HP2.out w' hKx).mono ?_;rintro e w'' ⟨rfl,hb⟩;exact ⟨_,rfl,hb,rfl⟩
   | 8,_,ho,hun,hpre =>
    simp at ho;subst ho;refine hJ.op (d:=20) hsl hst hFt hwz rfl rfl rfl (by decide) hpre ?_;obtain ⟨v15,ev15,hv15⟩:=hJ.dn 3 _ 15 rfl (hpre ⟨3,.data⟩ (by simp) rfl) rfl;have qv15:=eval_of ev15;obtain ⟨v19,ev19,hv19⟩:=hJ.dn 7 _ 19 rfl (hpre ⟨7,.data⟩ (by simp) rfl) rfl;have qv19:=eval_of ev19;obtain rfl:v15=.agg #[.bool false,.string (E am)]:=hv15;obtain rfl:v19=.agg #[.bool false,.string (E ar)]:=hv19;refine wp_val (v:=.agg #[.bool false,.string (E am),.bool false,.string (E ar)]) (by simp [execOp,ev15,ev19,go_sem]) rfl
   | 9,_,ho,hun,hpre =>
    simp at ho;subst ho;have q4:=hJ.keep 4 (.pointer (some ⟨gR,0,none⟩)) rfl (by kernel_rfl);obtain ⟨v20,ev20,hv20⟩:=hJ.dn 8 _ 20 rfl (hpre ⟨8,.data⟩ (by simp) rfl) rfl;have qv20:=eval_of ev20
    have hs0:stB [9] done=[false]:=by
     have k9:done.getD 9 false=false:=hun;simp only [stB,List.map_cons,List.map_nil,k9]
    have hi9:9<done.size:=by rw [hJ.sz];decide
    have hs1:stB [9] (done.setIfInBounds 9 true)=[true]:=by
     have e:=hs0;simp only [stB,List.map_cons,List.map_nil,List.cons.injEq,and_true] at e;simp only [stB,List.map_cons,List.map_nil,getD_set _ _ _ hi9,e,if_true,if_false,Nat.reduceEqDiff]
    obtain rfl:v20=.agg #[.bool false,.string (E am),.bool false,.string (E ar)]:=hv20;have hG:=hJ.ex.1 hs0;have hGl:=hG.lt;have f0:=hG.free 0;have f1:=hG.free 1;have f2:=hG.free 2;have f3:=hG.free 3;have z0:=hG.cell 0;have z1:=hG.cell 1;have z2:=hG.cell 2;have z3:=hG.cell 3;refine wpOp_step rfl fun K' hK=>?_
    rw [if_pos (by simp [Region.wanted])];simp [Oper.wp,execOp,ev20,q4,go_sem,f0,f1,f2,f3,z0,z1,z2,z3,hGl];have h9:=hJ.skip (i:=9) (v:=undef) rfl rfl hpre ((((hJ.bw.setCell (p:=⟨gR,0,none⟩) (Nat.le_refl _) (.bool false)).setCell (p:=⟨gR,1,none⟩) (Nat.le_refl _) (.string (E am))).setCell (p:=⟨gR,2,none⟩) (Nat.le_refl _) (.bool false)).setCell (p:=⟨gR,3,none⟩) (Nat.le_refl _) (.string (E ar))) ?_ ?_
    ·exact hK a' _ h9
    ·rw [hs1];exact ⟨fun e=>(by cases e),fun _=>(((hG.set 0 _).set 1 _).set 2 _).set 3 _⟩
    ·intro j q hq hj hdn d u hd hu hv;exact vRd_st _ _ _ _ _ _ _ _ _ _ j u _ _ hv
 ·intro done a' w' hJ hd;obtain ⟨f,hf,hv⟩:=hJ.all hd;have hs1:stB [9] done=[true]:=stB_all hd (by kernel_rfl);have hG:=hJ.ex.2 hs1;have hGl:=hG.lt;have hbw:=hJ.bw;clear hJ hv hd;subst hf;simp only [putAll,List.size_toArray,List.length_cons,List.length_nil,Nat.reduceAdd,List.getElem?_toArray,List.getElem?_cons_zero,List.getElem?_cons_succ,Option.bind_some,Act.put,List.setIfInBounds_toArray,List.set_cons_zero,List.set_cons_succ];obtain ⟨hGc0,hGf0,hGc1,hGf1,hGc2,hGf2,hGc3,hGf3⟩:=hG.x4;go_wp2_with fail
  refine bodyPost_ret (v:=.agg #[.bool false,.string (E am),.bool false,.string (E ar)]) ?_ rfl ?_
  ·simp [results,Tryz.results107,go_sem,hGc0,hGc1,hGc2,hGc3,hGl]
  ·exact ⟨rfl,hBW.trans (hbw.mono HGW.out)⟩
end
end Go.Proofs.YtdoacbdkbbpamaaGreatDoor
