import Derived.Orders
import Derived.Below
import Derived.RegionTactic
import Derived.Shelf.Abstract
import Derived.Test.YtfgandecbkbleaaGreatDoorRSet2
import Derived.Deep.RegionHeld3
set_option linter.unusedVariables false
set_option linter.unusedSimpArgs false
set_option maxRecDepth 100000
set_option maxHeartbeats 16000000
namespace Go.Proofs.YtfgandecbkbleaaGreatDoor
section
/- Regions that draw their order,by what holds of each operation that is done. -/
open Go.RowKit
abbrev RV:=Bool→Nat→Value→World→Prop
structure RInv (ops:Array Oper) (V:RV) (S:Nat) (w0:World) (a0:Act) (done:Array Bool) (a:Act) (w:World):Prop where
 sz:done.size=ops.size
 df:a.defers=a0.defers
 ts:a.tmps.size=a0.tmps.size
 bw:Below w0.heap.size w0 w
 un:∀k,(∀i o,ops[i]?=some o→done.getD i false=true→o.dst≠some k)→a.tmps[k]?=a0.tmps[k]?
 pr:∀i o,ops[i]?=some o→done.getD i false=true→∀e∈o.after,Region.binds .any e=true→done.getD e.on false=true
 dn:∀i o d,ops[i]?=some o→done.getD i false=true→o.dst=some d→∃v,a.tmps[d]?=some v∧V (done.getD S false) i v w
def slotsB (ops:Array Oper) (n:Nat):Bool:=
 (List.range ops.size).all fun i=>match (ops[i]?).bind (·.dst) with
  | some d=>decide (d<n)&&(List.range i).all (fun j=>(ops[j]?).bind (·.dst) != some d)
  | none=>true
theorem slots_lt {ops:Array Oper} {n i d:Nat} {o:Oper} (h:slotsB ops n=true) (ho:ops[i]?=some o) (hd:o.dst=some d):d<n:=by
 unfold slotsB at h;rw [List.all_eq_true] at h;have:=h i (List.mem_range.2 (Array.getElem?_eq_some_iff.1 ho).1);simp only [ho,Option.bind_some,hd,Bool.and_eq_true,decide_eq_true_eq] at this;exact this.1
theorem slots_ne {ops:Array Oper} {n i j d:Nat} {o q:Oper} (h:slotsB ops n=true) (ho:ops[i]?=some o) (hd:o.dst=some d) (hq:ops[j]?=some q) (he:q.dst=some d):i=j:=by
 unfold slotsB at h;rw [List.all_eq_true] at h;have hi:=(Array.getElem?_eq_some_iff.1 ho).1;have hj:=(Array.getElem?_eq_some_iff.1 hq).1;rcases Nat.lt_trichotomy i j with hl | hl | hl
 ·have:=h j (List.mem_range.2 hj);simp only [hq,Option.bind_some,he,Bool.and_eq_true,decide_eq_true_eq,List.all_eq_true] at this;have:=this.2 i (List.mem_range.2 hl);simp [ho,hd] at this
 ·exact hl
 ·have:=h i (List.mem_range.2 hi);simp only [ho,Option.bind_some,hd,Bool.and_eq_true,decide_eq_true_eq,List.all_eq_true] at this;have:=this.2 j (List.mem_range.2 hl);simp [hq,he] at this
theorem getD_set (done:Array Bool) (i j:Nat) (hi:i<done.size):(done.setIfInBounds i true).getD j false=if j=i then true else done.getD j false:=by
 rw [Array.getD_eq_getD_getElem?,Array.getD_eq_getD_getElem?,Array.getElem?_setIfInBounds];by_cases h:i=j
 ·subst h;simp [hi]
 ·rw [if_neg h,if_neg (fun e=>h e.symm)]
theorem RInv.put {ops:Array Oper} {V:RV} {S:Nat} {w0 w w':World} {a0 a:Act} {done:Array Bool} {i d:Nat} {o:Oper} {v:Value} (h:RInv ops V S w0 a0 done a w) (hs:slotsB ops a0.tmps.size=true) (ho:ops[i]?=some o) (hd:o.dst=some d) (hpre:∀e∈o.after,Region.binds .any e=true→done.getD e.on false=true) 
  (hb:Below w0.heap.size w0 w') (hk:∀j q,ops[j]?=some q→j≠i→done.getD j false=true→∀u,V (done.getD S false) j u w→V ((done.setIfInBounds i true).getD S false) j u w') (hv:V ((done.setIfInBounds i true).getD S false) i v w'):RInv ops V S w0 a0 (done.setIfInBounds i true) (a.put o.dst v) w':=by
 have hi:i<done.size:=by rw [h.sz];exact (Array.getElem?_eq_some_iff.1 ho).1
 have hdl:d<a.tmps.size:=by rw [h.ts];exact slots_lt hs ho hd
 have e1:(a.put o.dst v).tmps=a.tmps.setIfInBounds d v:=by rw [hd];rfl
 refine ⟨by rw [Array.size_setIfInBounds];exact h.sz,by rw [hd];exact h.df,by rw [e1,Array.size_setIfInBounds];exact h.ts,hb,fun k hk=>?_,fun j q hq hdn e he hbi=>by
  rw [getD_set _ _ _ hi] at hdn ⊢;split
  ·rfl
  ·rename_i hne;by_cases hji:j=i
   ·subst hji;rw [ho] at hq;injection hq with hq;subst hq
    exact hpre e he hbi
   ·rw [if_neg hji] at hdn;exact h.pr j q hq hdn e he hbi,fun j q e hq hdn he=>?_⟩
 ·have hne:d≠k:=fun e=>hk i o ho (by rw [getD_set _ _ _ hi,if_pos rfl]) (by rw [hd,e])
  rw [e1,Array.getElem?_setIfInBounds,if_neg hne];exact h.un k fun j q hq hdn=>hk j q hq (by rw [getD_set _ _ _ hi];split <;> first | rfl | exact hdn)
 ·rw [e1,Array.getElem?_setIfInBounds];by_cases hji:j=i
  ·subst hji;rw [ho] at hq;injection hq with hq;subst hq
   rw [hd] at he;injection he with he;subst he
   rw [if_pos rfl,if_pos hdl];exact ⟨v,rfl,hv⟩
  ·have hne:d≠e:=fun x=>hji (slots_ne hs hq (by rw [he,x]) ho hd)
   rw [getD_set _ _ _ hi,if_neg hji] at hdn;rw [if_neg hne];obtain ⟨u,h1,h2⟩:=h.dn j q e hq hdn he;exact ⟨u,h1,hk j q hq hji hdn u h2⟩
theorem RInv.skip {ops:Array Oper} {V:RV} {S:Nat} {w0 w w':World} {a0 a:Act} {done:Array Bool} {i:Nat} {o:Oper} {v:Value} (h:RInv ops V S w0 a0 done a w) (ho:ops[i]?=some o) (hd:o.dst=none) (hpre:∀e∈o.after,Region.binds .any e=true→done.getD e.on false=true) 
  (hb:Below w0.heap.size w0 w') (hk:∀j q,ops[j]?=some q→j≠i→done.getD j false=true→∀d u,q.dst=some d→a.tmps[d]?=some u→V (done.getD S false) j u w→V ((done.setIfInBounds i true).getD S false) j u w'):RInv ops V S w0 a0 (done.setIfInBounds i true) (a.put o.dst v) w':=by
 have hi:i<done.size:=by rw [h.sz];exact (Array.getElem?_eq_some_iff.1 ho).1
 have e1:(a.put o.dst v)=a:=by rw [hd];rfl
 rw [e1]
 refine ⟨by rw [Array.size_setIfInBounds];exact h.sz,h.df,h.ts,hb,fun k hk=>h.un k fun j q hq hdn=>hk j q hq (by rw [getD_set _ _ _ hi];split <;> first | rfl | exact hdn),fun j q hq hdn e he hbi=>by
  rw [getD_set _ _ _ hi] at hdn ⊢;split
  ·rfl
  ·rename_i hne;by_cases hji:j=i
   ·subst hji;rw [ho] at hq;injection hq with hq;subst hq
    exact hpre e he hbi
   ·rw [if_neg hji] at hdn;exact h.pr j q hq hdn e he hbi,fun j q e hq hdn he=>?_⟩
 by_cases hji:j=i
 ·subst hji;rw [ho] at hq;injection hq with hq;subst hq
  rw [hd] at he;cases he
 ·rw [getD_set _ _ _ hi,if_neg hji] at hdn;obtain ⟨u,h1,h2⟩:=h.dn j q e hq hdn he;exact ⟨u,h1,hk j q hq hji hdn e u he h1 h2⟩
theorem count_set (l:List Bool) (i:Nat) (h:l[i]?=some false):(l.set i true).count false+1=l.count false:=by
 induction l generalizing i with
 | nil=>simp at h
 | cons x t ih =>
  cases i with
  | zero=>simp at h;subst h;simp
  | succ i=>simp at h;have:=ih i h;simp only [List.set_cons_succ,List.count_cons];omega
theorem wpAny_inv {P:Program} {ops:Array Oper} {md:Region.Mode} {Q:Exit→Act→World→Prop} (I:Array Bool→Act→World→Prop) (hsz:∀done a w,I done a w→done.size=ops.size)
  (hs:∀done a w i,I done a w→i∈Region.ready md ops done→wpOp P ops Q i (I (done.setIfInBounds i true)) a w)
  (he:∀done a w,I done a w→Region.ready md ops done=[]→Q .normal a w) :
  ∀(f:Nat) (done:Array Bool) (a:Act) (w:World),I done a w→done.toList.count false≤f→wpAny P md ops Q f done a w:=by
 intro f;induction f with
 | zero =>
  intro done a w hI hc
  have hr:Region.ready md ops done=[]:=by
   apply List.eq_nil_iff_forall_not_mem.2
   intro i hi;have h1:=(mem_ready.1 hi).1;have h2:done.toList.count false=0:=by omega
   rw [List.count_eq_zero] at h2;rw [Array.getD_eq_getD_getElem?] at h1;cases h3:done[i]? with
   | none=>rw [h3] at h1;simp at h1
   | some b =>
    rw [h3] at h1;simp at h1;subst h1;exact h2 (Array.mem_toList_iff.2 (Array.mem_of_getElem? h3))
  exact ⟨hr,he _ _ _ hI hr⟩
 | succ f ih =>
  intro done a w hI hc;refine ⟨he _ _ _ hI,fun i hi=>wpOp_mono (fun a' w' h=>ih _ a' w' h ?_) (hs _ _ _ i hI hi)⟩;have h1:=(mem_ready.1 hi).1;rw [Array.getD_eq_getD_getElem?] at h1;cases h3:done[i]? with
  | none=>rw [h3] at h1;simp at h1
  | some b =>
   rw [h3] at h1;simp at h1;subst h1;have:=count_set done.toList i (by simpa using h3);rw [Array.toList_setIfInBounds];omega
def backB (ops:Array Oper):Bool:=(List.range ops.size).all fun i=>match ops[i]? with
 | some o=>o.after.all fun e=>!(Region.binds .any e) || decide (e.on<i)
 | none=>true
theorem back_done {ops:Array Oper} (h:backB ops=true) (done:Array Bool) (hs:done.size=ops.size) (hr:Region.ready .any ops done=[]):∀i,i<ops.size→done.getD i false=true:=by
 intro i;induction i using Nat.strongRecOn with
 | _ i ih =>
  intro hi;apply Classical.byContradiction
  intro hn
  have hm:i∈Region.ready .any ops done:=by
   refine mem_ready.2 ⟨?_,ops[i],Array.getElem?_eq_getElem hi,fun e he hbi=>?_⟩
   ·have h3:i<done.size:=by omega
    simp only [Array.getD_eq_getD_getElem?,Array.getElem?_eq_getElem h3,Option.getD_some,Bool.not_eq_true] at hn ⊢;exact hn
   ·unfold backB at h;rw [List.all_eq_true] at h;have:=h i (List.mem_range.2 hi);rw [Array.getElem?_eq_getElem hi] at this;simp only [Array.all_eq_true_iff_forall_mem] at this;have h5:=this e he;rw [hbi] at h5;simp only [Bool.not_true,Bool.false_or,decide_eq_true_eq] at h5;exact ih e.on h5 (by omega)
  rw [hr] at hm;cases hm
theorem wp_region_inv {P:Program} {id:Nat} {ops:Array Oper} {Q:Exit→Act→World→Prop} {a:Act} {w:World} (V:RV) (S n:Nat) (hm:P.follows .mixedOrders=true) (hn:a.tmps.size=n) (hsl:slotsB ops n=true)
  (hs:slotsB ops a.tmps.size=true→∀done a' w' i o,RInv ops V S w a done a' w'→ops[i]?=some o→done.getD i false=false→(∀e∈o.after,Region.binds .any e=true→done.getD e.on false=true)→wpOp P ops Q i (RInv ops V S w a (done.setIfInBounds i true)) a' w')
  (he:∀done a' w',RInv ops V S w a done a' w'→(∀i,i<ops.size→done.getD i false=true)→Q .normal a' w') (hac:backB ops=true):(Code.region id ops true).wp P Q a w:=by
 refine wp_region_any hm ?_;refine wpAny_inv (RInv ops V S w a) (fun _ _ _ h=>h.sz) (fun done a' w' i hI hi=>?_) (fun done a' w' hI hr=>he done a' w' hI (back_done hac done hI.sz hr)) _ _ _ _ ?_ ?_
 ·obtain ⟨hun,o,ho,h⟩:=mem_ready.1 hi;refine hs (by rw [hn];exact hsl) done a' w' i o hI ho ?_ h;rw [Array.getD_eq_getD_getElem?] at hun ⊢;cases hx:done[i]? with
  | none=>rfl
  | some b=>rw [hx] at hun;exact hun
 ·refine ⟨by simp,rfl,rfl,(Below.refl _ _).drew,fun _ _=>rfl,fun i o ho hd=>?_,fun i o d ho hd _=>?_⟩
  ·rw [Array.getD_eq_getD_getElem?] at hd;simp only [Array.getElem?_replicate] at hd;split at hd <;> simp at hd
  rw [Array.getD_eq_getD_getElem?] at hd;simp only [Array.getElem?_replicate] at hd;split at hd <;> simp at hd
 ·simp
def slotF (ops:Array Oper) (a:Act) (i:Nat):Value:=match (ops[i]?).bind (·.dst) with
 | some d=>a.tmps.getD d undef
 | none=>undef
def putAll (ops:Array Oper) (f:Nat→Value) (a:Act):Nat→Act
 | 0=>a
 | n+1=>(putAll ops f a n).put ((ops[n]?).bind (·.dst)) (f n)
theorem putAll_at {ops:Array Oper} {a a':Act} (hs:a'.tmps.size=a.tmps.size) (n k:Nat):(putAll ops (slotF ops a') a n).tmps.size=a.tmps.size ∧
  ((∃i,i<n∧(ops[i]?).bind (·.dst)=some k)→(putAll ops (slotF ops a') a n).tmps[k]?=a'.tmps[k]?) ∧
  ((∀i,i<n→(ops[i]?).bind (·.dst)≠some k)→(putAll ops (slotF ops a') a n).tmps[k]?=a.tmps[k]?) ∧
  (putAll ops (slotF ops a') a n).defers=a.defers:=by
 induction n with
 | zero=>exact ⟨rfl,fun ⟨i,h,_⟩=>absurd h (Nat.not_lt_zero _),fun _=>rfl,rfl⟩
 | succ n ih =>
  obtain ⟨h1,h2,h3,h4⟩:=ih;rw [putAll];cases hd:(ops[n]?).bind (·.dst) with
  | none =>
   refine ⟨h1,fun hx=>h2 ?_,fun h=>h3 fun i hi=>h i (by omega),h4⟩;obtain ⟨i,hi,he⟩:=hx;refine ⟨i,?_,he⟩;by_cases e:i=n
   ·subst e;rw [hd] at he;cases he
   ·omega
  | some d =>
   have ht:∀v,(Act.put (putAll ops (slotF ops a') a n) (some d) v).tmps=(putAll ops (slotF ops a') a n).tmps.setIfInBounds d v:=fun _=>rfl
   refine ⟨by rw [ht,Array.size_setIfInBounds];exact h1,fun hx=>?_,fun h=>?_,h4⟩
   ·obtain ⟨i,hi,he⟩:=hx;rw [ht,Array.getElem?_setIfInBounds,h1];by_cases e:d=k
    ·subst e;rw [if_pos rfl];by_cases hl:d<a.tmps.size
     ·rw [if_pos hl];have e0:slotF ops a' n=a'.tmps.getD d undef:=by unfold slotF;rw [hd]
      rw [e0];rw [Array.getD_eq_getD_getElem?,Array.getElem?_eq_getElem (by rw [hs];exact hl)];rfl
     ·rw [if_neg hl,Array.getElem?_eq_none (by rw [hs];exact Nat.not_lt.1 hl)]
    ·rw [if_neg e];refine h2 ⟨i,?_,he⟩;by_cases e2:i=n
     ·subst e2;rw [hd] at he;injection he with he;exact absurd he e
     ·omega
   ·rw [ht,Array.getElem?_setIfInBounds];have e:d≠k:=fun e=>h n (by omega) (by rw [hd,e])
    rw [if_neg e];exact h3 fun i hi=>h i (by omega)
theorem RInv.all {ops:Array Oper} {V:RV} {S:Nat} {w0 w:World} {a0 a:Act} {done:Array Bool} (h:RInv ops V S w0 a0 done a w) (hd:∀i,i<ops.size→done.getD i false=true) :
  ∃f:Nat→Value,a=putAll ops f a0 ops.size∧∀i o d,ops[i]?=some o→o.dst=some d→V (done.getD S false) i (f i) w:=by
 refine ⟨slotF ops a,?_,fun i o d ho hod=>?_⟩
 ·have ht:a.tmps=(putAll ops (slotF ops a) a0 ops.size).tmps:=by
   apply Array.ext_getElem?
   intro k;obtain ⟨_,h2,h3,_⟩:=putAll_at (ops:=ops) (a:=a0) (a':=a) h.ts ops.size k;by_cases he:∃i,i<ops.size∧(ops[i]?).bind (·.dst)=some k
   ·exact (h2 he).symm
   ·rw [h3 fun i hi e=>he ⟨i,hi,e⟩];refine h.un k fun i o ho _ e=>he ⟨i,(Array.getElem?_eq_some_iff.1 ho).1,by rw [ho];exact e⟩
  have hf:=(putAll_at (ops:=ops) (a:=a0) (a':=a) h.ts ops.size 0).2.2.2;generalize putAll ops (slotF ops a) a0 ops.size=b at ht hf ⊢;obtain ⟨bt1,bd1⟩:=b;obtain ⟨at1,ad1⟩:=a;have:=h.df;simp only [] at ht hf this ⊢;subst ht;rw [hf,this]
 ·obtain ⟨v,h1,h2⟩:=h.dn i o d ho (hd i (Array.getElem?_eq_some_iff.1 ho).1) hod;have e0:slotF ops a i=v:=by unfold slotF;simp only [ho,Option.bind_some,hod,Array.getD_eq_getD_getElem?,h1,Option.getD_some]
  rw [e0];exact h2
theorem RInv.op {P:Program} {ops:Array Oper} {V:RV} {S:Nat} {Q:Exit→Act→World→Prop} {w0 w:World} {a0 a:Act} {done:Array Bool} {i d:Nat} {o:Oper} (h:RInv ops V S w0 a0 done a w) (hs:slotsB ops a0.tmps.size=true) (hst:∀b j u w w',Below w.heap.size w w'→V b j u w→V b j u w')
  (hw0:w0.heap.size≤w.heap.size) (ho:ops[i]?=some o) (hd:o.dst=some d) (hgd:o.guard=none) (hS:i≠S) (hpre:∀e∈o.after,Region.binds .any e=true→done.getD e.on false=true) 
  (hwp:Oper.wp P o a w (fun a' w'=>∃v,a'=a.put o.dst v∧Below w.heap.size w w'∧V (done.getD S false) i v w') Q):wpOp P ops Q i (RInv ops V S w0 a0 (done.setIfInBounds i true)) a w:=by
 refine wpOp_step ho fun K' hK=>?_
 have hw:Region.wanted o (yielded ops a.tmps)=true:=by simp [Region.wanted,hgd]
 rw [if_pos hw];refine Oper.wp_mono (fun a' w' hx=>hK a' w' ?_) hwp;obtain ⟨v,rfl,hb,hv⟩:=hx;have hi:i<done.size:=by rw [h.sz];exact (Array.getElem?_eq_some_iff.1 ho).1
 have e:(done.setIfInBounds i true).getD S false=done.getD S false:=by rw [getD_set _ _ _ hi,if_neg (fun e=>hS e.symm)]
 exact h.put hs ho hd hpre (h.bw.trans (hb.mono hw0)) (fun j q _ _ _ u hu=>by rw [e];exact hst _ _ _ _ _ hb hu) (by rw [e];exact hv)
theorem wp_val {P:Program} {o:Oper} {a:Act} {w:World} {Q:Exit→Act→World→Prop} {v:Value} {R:Value→World→Prop} (hr:(execOp a.eval o).run P w=.ok (.value v) w) (hv:R v w) :
  Oper.wp P o a w (fun a' w'=>∃v,a'=a.put o.dst v∧Below w.heap.size w w'∧R v w') Q:=by
 unfold Oper.wp;rw [hr];exact ⟨v,rfl,Below.refl _ _,hv⟩
theorem wp_callX {P:Program} {o:Oper} {a:Act} {w:World} {Q:Exit→Act→World→Prop} (f:FuncId) (xs:Array Operand) (ts:Array TypeId)
  (ho:o.op=.call { callee:=.value (.func f),args:=xs,argTypes:=ts }) (hE:∀args w,(callFunc f args).run P w=.ok (.enter f args) w) {R:Value→World→Prop}
  (hc:Calls P f (xs.map a.eval) w fun e w'=>∃v,e=.returned v∧Below w.heap.size w w'∧R v w'):Oper.wp P o a w (fun a' w'=>∃v,a'=a.put o.dst v∧Below w.heap.size w w'∧R v w') Q:=by
 have hrun:(execOp a.eval o).run P w=.ok (.enter f (xs.map a.eval)) w:=by
  simp [execOp,ho,resolve,invoke,go_sem,hE]
 unfold Oper.wp;rw [hrun,Oper.upon_enter];refine hc.mono fun e w' he=>?_
 obtain ⟨v,rfl,hb,hR⟩:=he;exact ⟨v,rfl,hb,hR⟩
theorem eval_of {a:Act} {d:Nat} {v:Value} (h:a.tmps[d]?=some v):a.eval (.tmp d)=v:=by
 show a.tmps.getD d undef=v;rw [Array.getD_eq_getD_getElem?,h];rfl
theorem RInv.keep {ops:Array Oper} {V:RV} {S:Nat} {w0 w:World} {a0 a:Act} {done:Array Bool} (h:RInv ops V S w0 a0 done a w) (k:Nat) (v:Value) (hv:a0.tmps[k]?=some v) (hk:((List.range ops.size).all fun i=>(ops[i]?).bind (·.dst) != some k)=true):a.tmps[k]?=some v:=by
 rw [h.un k fun i o ho _ e=>?_,hv];rw [List.all_eq_true] at hk;have:=hk i (List.mem_range.2 (Array.getElem?_eq_some_iff.1 ho).1);rw [ho,Option.bind_some,e] at this;simp at this
theorem eval_const (a:Act) (v:Value):a.eval (.const v)=v:=rfl
end
section
open Go.RowKit
structure Stm (w:World) (g1 g2 g3 g4 c4:Nat) (p q t:Nat) (B:List Nat):Prop where
 l1:g1<w.heap.size
 l2:g2<w.heap.size
 l3:g3<w.heap.size
 l4:g4<w.heap.size
 m0:w.cell? ⟨g1,0,none⟩=some (.string (E p))
 m1:w.cell? ⟨g1,1,none⟩=some (.string (E q))
 vs:∀j,j<B.length→w.cell? ⟨g2,j,none⟩=some (.string { data:=#[] })
 e0:w.cell? ⟨g3,0,none⟩=some (.int .i64 0)
 e1:w.cell? ⟨g3,1,none⟩=some (.string (E t))
 e2:w.cell? ⟨g3,2,none⟩=some (.slice (some ⟨g4,0,none⟩) B.length c4)
 t0:∀j (h:j<B.length),w.cell? ⟨g4,j*4,none⟩=some (.string (E B[j]))
 t1:∀j,j<B.length→w.cell? ⟨g4,j*4+1,none⟩=some (.int .i64 (j:Int))
 t2:∀j,j<B.length→w.cell? ⟨g4,j*4+2,none⟩=some (.bool false)
 t3:∀j,j<B.length→w.cell? ⟨g4,j*4+3,none⟩=some (.string (E 1))
 cap:B.length≤c4
theorem Stm.after {w w':World} {g1 g2 g3 g4 c4 p q t:Nat} {B:List Nat} (h:Stm w g1 g2 g3 g4 c4 p q t B) (hb:Below w.heap.size w w'):Stm w' g1 g2 g3 g4 c4 p q t B:=
 ⟨Nat.lt_of_lt_of_le h.l1 hb.size,Nat.lt_of_lt_of_le h.l2 hb.size,Nat.lt_of_lt_of_le h.l3 hb.size,Nat.lt_of_lt_of_le h.l4 hb.size,
  (hb.cell (p:=⟨g1,0,none⟩) h.l1).trans h.m0,(hb.cell (p:=⟨g1,1,none⟩) h.l1).trans h.m1,fun j hj=>(hb.cell (p:=⟨g2,j,none⟩) h.l2).trans (h.vs j hj),
  (hb.cell (p:=⟨g3,0,none⟩) h.l3).trans h.e0,(hb.cell (p:=⟨g3,1,none⟩) h.l3).trans h.e1,(hb.cell (p:=⟨g3,2,none⟩) h.l3).trans h.e2,
  fun j hj=>(hb.cell (p:=⟨g4,j*4,none⟩) h.l4).trans (h.t0 j hj),fun j hj=>(hb.cell (p:=⟨g4,j*4+1,none⟩) h.l4).trans (h.t1 j hj),
  fun j hj=>(hb.cell (p:=⟨g4,j*4+2,none⟩) h.l4).trans (h.t2 j hj),fun j hj=>(hb.cell (p:=⟨g4,j*4+3,none⟩) h.l4).trans (h.t3 j hj),h.cap⟩
theorem gcellOf {w:World} {a:Addr} {v:Value} (hb:a.block<w.heap.size) (h:w.cell? a=some v):∀x:GW w,(Proofs.YtfgandecbkbleaaGreatDoor.gw x).cell? a=some v:=fun x=>((gw_below x).cell hb).trans h
theorem same_nil (w:World) :
  Calls Tryz.prog 22 #[.agg #[.slice none 0 0,.slice none 0 0,.slice none 0 0],.agg #[.slice none 0 0,.slice none 0 0,.slice none 0 0]] w fun e w'=>e=.returned (.bool true)∧Below w.heap.size w w':=by
 have hA:=blk2a w #[Value.slice none 0 0,Value.slice none 0 0,Value.slice none 0 0] #[Value.slice none 0 0,Value.slice none 0 0,Value.slice none 0 0] 61 61;have hB:=blk2b w #[Value.slice none 0 0,Value.slice none 0 0,Value.slice none 0 0] #[Value.slice none 0 0,Value.slice none 0 0,Value.slice none 0 0] 61 61;obtain ⟨hAc0,hAf0,hAc1,hAf1,hAc2,hAf2⟩:=hA.x3;obtain ⟨hBc0,hBf0,hBc1,hBf1,hBc2,hBf2⟩:=hB.x3;go_enter Tryz.func22,Tryz.ntmps22
 go_wp2;go_loop [5] (fun i=>i=.int .i64 0) (fun _=>0)
 case atStart=>rfl
 case round =>
  obtain rfl:=hrel;go_wp2;go_loop [6] (fun i=>i=.int .i64 0) (fun _=>0)
  case atStart=>rfl
  case round =>
   obtain rfl:=hrel;go_wp2;go_loop [7] (fun i=>i=.int .i64 0) (fun _=>0)
   case atStart=>rfl
   case round =>
    obtain rfl:=hrel;go_wp2;go_ret
    exact ⟨rfl,b2 _ _ _⟩
def EqBox (w:World) (t n a4 c4 b4 d4:Nat) (s8 s9:Value) (wx:World):Prop:=
 ∃h8 h9:Nat,s8=.pointer (some ⟨h8,0,none⟩)∧s9=.pointer (some ⟨h9,0,none⟩) ∧
  Blk wx h8 115 [.int .i64 0,.string (E t),.slice (some ⟨a4,0,none⟩) n c4]∧Blk wx h9 115 [.int .i64 0,.string (E t),.slice (some ⟨b4,0,none⟩) n d4]∧Below w.heap.size w wx
theorem same_c (w:World) (a1 a2 a3 a4 c1 c2 c3 c4 b1 b2 b3 b4 d1 d2 d3 d4:Nat) (p q t n:Nat) (B:List Nat) (hn:B.length=n) (hn1:n≤1000)
  (hA:Stm w a1 a2 a3 a4 c4 p q t B) (hB:Stm w b1 b2 b3 b4 d4 p q t B) :
  Calls Tryz.prog 22 #[.agg #[.slice (some ⟨a1,0,none⟩) 1 c1,.slice (some ⟨a2,0,none⟩) n c2,.slice (some ⟨a3,0,none⟩) 1 c3],.agg #[.slice (some ⟨b1,0,none⟩) 1 d1,.slice (some ⟨b2,0,none⟩) n d2,.slice (some ⟨b3,0,none⟩) 1 d3]] w fun e w'=>e=.returned (.bool true)∧Below w.heap.size w w':=by
 have HN:=Lib.hid hn;have hP:=blk2a w #[Value.slice (some ⟨a1,0,none⟩) 1 c1,Value.slice (some ⟨a2,0,none⟩) n c2,Value.slice (some ⟨a3,0,none⟩) 1 c3] #[Value.slice (some ⟨b1,0,none⟩) 1 d1,Value.slice (some ⟨b2,0,none⟩) n d2,Value.slice (some ⟨b3,0,none⟩) 1 d3] 61 61;have hQ:=blk2b w #[Value.slice (some ⟨a1,0,none⟩) 1 c1,Value.slice (some ⟨a2,0,none⟩) n c2,Value.slice (some ⟨a3,0,none⟩) 1 c3] #[Value.slice (some ⟨b1,0,none⟩) 1 d1,Value.slice (some ⟨b2,0,none⟩) n d2,Value.slice (some ⟨b3,0,none⟩) 1 d3] 61 61;have hBW:=Proofs.YtfgandecbkbleaaGreatDoor.b2 w (.cells #[Value.slice (some ⟨a1,0,none⟩) 1 c1,Value.slice (some ⟨a2,0,none⟩) n c2,Value.slice (some ⟨a3,0,none⟩) 1 c3] 61) (.cells #[Value.slice (some ⟨b1,0,none⟩) 1 d1,Value.slice (some ⟨b2,0,none⟩) n d2,Value.slice (some ⟨b3,0,none⟩) 1 d3] 61);replace hA:=hA.after hBW;replace hB:=hB.after hBW;clear hn;obtain ⟨hPc0,hPf0,hPc1,hPf1,hPc2,hPf2⟩:=hP.x3;obtain ⟨hQc0,hQf0,hQc1,hQf1,hQc2,hQf2⟩:=hQ.x3;go_enter Tryz.func22,Tryz.ntmps22
 go_wp2;clear hPc0 hPf0 hPc1 hPf1 hPc2 hPf2;clear hQc0 hQf0 hQc1 hQf1 hQc2 hQf2;generalize ((w.alloc (.cells #[Value.slice (some ⟨a1,0,none⟩) 1 c1,Value.slice (some ⟨a2,0,none⟩) n c2,Value.slice (some ⟨a3,0,none⟩) 1 c3] 61)).alloc (.cells #[Value.slice (some ⟨b1,0,none⟩) 1 d1,Value.slice (some ⟨b2,0,none⟩) n d2,Value.slice (some ⟨b3,0,none⟩) 1 d3] 61))=w1 at hP hQ hBW hA hB;go_loopw [5] (fun i wr=>(i=.int .i64 0∨i=.int .i64 1)∧Below w1.heap.size w1 wr) (fun i _=>1-(intOf i).toNat)
 case atStart=>exact ⟨.inl rfl,Below.refl _ _⟩
 case round =>
  obtain ⟨hi,hbr⟩:=hrel;obtain ⟨wp,hwp⟩:∃wp,wp=wr:=⟨_,rfl⟩;subst hwp;replace hA:=hA.after hbr;replace hB:=hB.after hbr;replace hP:=hP.after hbr;replace hQ:=hQ.after hbr;rcases hi with rfl | rfl
  ·have k0:=gcellOf (a:=⟨a1,0,none⟩) hA.l1 hA.m0;have k1:=gcellOf (a:=⟨a1,1,none⟩) hA.l1 hA.m1;have k2:=gcellOf (a:=⟨b1,0,none⟩) hB.l1 hB.m0;have k3:=gcellOf (a:=⟨b1,1,none⟩) hB.l1 hB.m1;have hPg0:=hP.gcell 0;have hPg1:=hP.gcell 1;have hPg2:=hP.gcell 2;have hQg0:=hQ.gcell 0;have hQg1:=hQ.gcell 1;have hQg2:=hQ.gcell 2;obtain ⟨hPc0,hPf0,hPc1,hPf1,hPc2,hPf2⟩:=hP.x3;obtain ⟨hQc0,hQf0,hQc1,hQf1,hQc2,hQf2⟩:=hQ.x3;go_wp2_with fail
   go_wp2_with fail
   refine wp_region_gw (by kernel_rfl) (by kernel_rfl) ?_;repeat (go_big_quiet_step (first | (fail)))
   refine wpQuiet_nil ?_;rintro w2 ⟨xw2,rfl⟩;have hb2:=gw_below xw2;generalize gw xw2=w2 at hb2;go_wp2;go_roundw
   case rel=>exact ⟨.inr rfl,bt hbr hb2⟩
   case measure=>simp [intOf]
  ·replace hBW:=bt hBW hbr;clear hbr;obtain ⟨hPc0,hPf0,hPc1,hPf1,hPc2,hPf2⟩:=hP.x3;obtain ⟨hQc0,hQf0,hQc1,hQf1,hQc2,hQf2⟩:=hQ.x3;go_wp2;clear hPc0 hPf0 hPc1 hPf1 hPc2 hPf2;clear hQc0 hQf0 hQc1 hQf1 hQc2 hQf2;go_loopw [6] (fun i wr=>∃k:Nat,k≤n∧i=.int .i64 k∧Below wp.heap.size wp wr) (fun i _=>n-(intOf i).toNat)
   case atStart=>exact ⟨0,by omega,rfl,Below.refl _ _⟩
   case round =>
    obtain ⟨k,hk,rfl,hbr⟩:=hrel;obtain ⟨wq,hwq⟩:∃wq,wq=wr:=⟨_,rfl⟩;subst hwq;replace hA:=hA.after hbr;replace hB:=hB.after hbr;replace hP:=hP.after hbr;replace hQ:=hQ.after hbr;by_cases hlt:k<n
    ·have hkl:k<B.length:=by rw [HN.out];exact hlt
     have k0:=gcellOf (a:=⟨a2,k,none⟩) hA.l2 (hA.vs k hkl);have k1:=gcellOf (a:=⟨b2,k,none⟩) hB.l2 (hB.vs k hkl);have h0k:(0:Int)≤(k:Int):=by omega
     have h1k:(k:Int)<(n:Int):=by omega
     clear hkl;have hPg0:=hP.gcell 0;have hPg1:=hP.gcell 1;have hPg2:=hP.gcell 2;have hQg0:=hQ.gcell 0;have hQg1:=hQ.gcell 1;have hQg2:=hQ.gcell 2;obtain ⟨hPc0,hPf0,hPc1,hPf1,hPc2,hPf2⟩:=hP.x3;obtain ⟨hQc0,hQf0,hQc1,hQf1,hQc2,hQf2⟩:=hQ.x3;go_wp2_with fail
     go_wp2_with fail
     refine wp_region_gw (by kernel_rfl) (by kernel_rfl) ?_;repeat (go_big_quiet_step (first | (fail)))
     refine wpQuiet_nil ?_;rintro w2 ⟨xw2,rfl⟩;have hb2:=gw_below xw2;generalize gw xw2=w2 at hb2;go_wp2;go_roundw
     case rel=>exact ⟨k+1,by omega,by go_num,bt hbr hb2⟩
     case measure=>simp [intOf];omega
    ·obtain rfl:k=n:=by omega
     replace hBW:=bt hBW hbr;clear hbr hk hlt;obtain ⟨hPc0,hPf0,hPc1,hPf1,hPc2,hPf2⟩:=hP.x3;obtain ⟨hQc0,hQf0,hQc1,hQf1,hQc2,hQf2⟩:=hQ.x3;go_wp2;clear hPc0 hPf0 hPc1 hPf1 hPc2 hPf2;clear hQc0 hQf0 hQc1 hQf1 hQc2 hQf2;go_loopw [7] (fun i wr=>(i=.int .i64 0∨i=.int .i64 1)∧Below wq.heap.size wq wr) (fun i _=>1-(intOf i).toNat)
     case atStart=>exact ⟨.inl rfl,Below.refl _ _⟩
     case round =>
      obtain ⟨hi,hbr⟩:=hrel;obtain ⟨wu,hwu⟩:∃wu,wu=wr:=⟨_,rfl⟩;subst hwu;replace hA:=hA.after hbr;replace hB:=hB.after hbr;replace hP:=hP.after hbr;replace hQ:=hQ.after hbr;rcases hi with rfl | rfl
      ·have f0:=hA.e0;have f1:=hA.e1;have f2:=hA.e2;have g0:=hB.e0;have g1:=hB.e1;have g2:=hB.e2;rw [HN.out] at f2 g2;have y1:=hA.l3;have y2:=hB.l3;have y3:=hP.lt;have y4:=hQ.lt;obtain ⟨hPc0,hPf0,hPc1,hPf1,hPc2,hPf2⟩:=hP.x3;obtain ⟨hQc0,hQf0,hQc1,hQf1,hQc2,hQf2⟩:=hQ.x3;go_upto_region 16 with fail
       go_cut [8,9] (fun s8 s9 wx=>EqBox wu t k a4 c4 b4 d4 s8 s9 wx)
       case first =>
        go_region_held3 (fun w'=>w'.cell? ⟨w.heap.size,2,none⟩=some (.slice (some ⟨a3,0,none⟩) 1 c3)∧w'.cell? ⟨w.heap.size+1,2,none⟩=some (.slice (some ⟨b3,0,none⟩) 1 d3)∧w'.cell? ⟨a3,0,none⟩=some (.int .i64 0)∧w'.cell? ⟨a3,1,none⟩=some (.string (E t))∧w'.cell? ⟨a3,2,none⟩=some (.slice (some ⟨a4,0,none⟩) k c4)∧w'.cell? ⟨b3,0,none⟩=some (.int .i64 0)∧w'.cell? ⟨b3,1,none⟩=some (.string (E t))∧w'.cell? ⟨b3,2,none⟩=some (.slice (some ⟨b4,0,none⟩) k d4)) (go_keep) (fail)
        all_goals
         go_wp2_with fail
         go_meet
         first
         | exact ⟨_,_,rfl,rfl,(blk2a _ _ _ _ _).drew,(blk2b _ _ _ _ _).drew,(Proofs.YtfgandecbkbleaaGreatDoor.b2 _ _ _).drew⟩
         | exact ⟨_,_,rfl,rfl,(blk2b _ _ _ _ _).drew,(blk2a _ _ _ _ _).drew,(Proofs.YtfgandecbkbleaaGreatDoor.b2 _ _ _).drew⟩
       case rest =>
        obtain ⟨h8,h9,rfl,rfl,h8b,h9b,hbx⟩:=hcut;clear hPc0 hPf0 hPc1 hPf1 hPc2 hPf2;clear hQc0 hQf0 hQc1 hQf1 hQc2 hQf2;clear f0 f1 f2 g0 g1 g2 y1 y2 y3 y4;obtain ⟨wx,hwx⟩:∃wx,wx=wc:=⟨_,rfl⟩;subst hwx;replace hA:=hA.after hbx;replace hB:=hB.after hbx;replace hP:=hP.after hbx;replace hQ:=hQ.after hbx;obtain ⟨h8bc0,h8bf0,h8bc1,h8bf1,h8bc2,h8bf2⟩:=h8b.x3;obtain ⟨h9bc0,h9bf0,h9bc1,h9bf1,h9bc2,h9bf2⟩:=h9b.x3;go_wp2;clear h8bc0 h8bf0 h8bc1 h8bf1 h8bc2 h8bf2;clear h9bc0 h9bf0 h9bc1 h9bf1 h9bc2 h9bf2;go_loopw [10] (fun i wr=>∃k':Nat,k'≤k∧i=.int .i64 k'∧Below wx.heap.size wx wr) (fun i _=>k-(intOf i).toNat)
        case atStart=>exact ⟨0,by omega,rfl,Below.refl _ _⟩
        case round =>
         obtain ⟨k',hk,rfl,hbs⟩:=hrel;obtain ⟨wy,hwy⟩:∃wy,wy=wr:=⟨_,rfl⟩;subst hwy;replace hA:=hA.after hbs;replace hB:=hB.after hbs;replace h8b:=h8b.after hbs;replace h9b:=h9b.after hbs;by_cases hlt:k'<k
         ·have hkl:k'<B.length:=by rw [HN.out];exact hlt
          have k0:=gcellOf (a:=⟨a4,k'*4,none⟩) hA.l4 (hA.t0 k' hkl);have k1:=gcellOf (a:=⟨a4,k'*4+1,none⟩) hA.l4 (hA.t1 k' hkl);have k2:=gcellOf (a:=⟨a4,k'*4+2,none⟩) hA.l4 (hA.t2 k' hkl);have k3:=gcellOf (a:=⟨a4,k'*4+3,none⟩) hA.l4 (hA.t3 k' hkl);have j0:=gcellOf (a:=⟨b4,k'*4,none⟩) hB.l4 (hB.t0 k' hkl);have j1:=gcellOf (a:=⟨b4,k'*4+1,none⟩) hB.l4 (hB.t1 k' hkl);have j2:=gcellOf (a:=⟨b4,k'*4+2,none⟩) hB.l4 (hB.t2 k' hkl);have j3:=gcellOf (a:=⟨b4,k'*4+3,none⟩) hB.l4 (hB.t3 k' hkl);generalize B[k']=bv at k0 j0;have h0k:(0:Int)≤(k':Int):=by omega
          have h1k:(k':Int)<(k:Int):=by omega
          clear hkl;have h8bg0:=h8b.gcell 0;have h8bg1:=h8b.gcell 1;have h8bg2:=h8b.gcell 2;have h9bg0:=h9b.gcell 0;have h9bg1:=h9b.gcell 1;have h9bg2:=h9b.gcell 2;obtain ⟨h8bc0,h8bf0,h8bc1,h8bf1,h8bc2,h8bf2⟩:=h8b.x3;obtain ⟨h9bc0,h9bf0,h9bc1,h9bf1,h9bc2,h9bf2⟩:=h9b.x3;go_wp2_with fail
          go_wp2_with fail
          refine wp_region_gw (by kernel_rfl) (by kernel_rfl) ?_;repeat (go_big_quiet_step (first | (fail)))
          refine wpQuiet_nil ?_;rintro w2 ⟨xw2,rfl⟩;have hb2:=gw_below xw2;generalize gw xw2=w2 at hb2;go_wp2;go_roundw
          case rel=>exact ⟨k'+1,by omega,by go_num,bt hbs hb2⟩
          case measure=>simp [intOf];omega
         ·obtain rfl:k'=k:=by omega
          obtain ⟨h8bc0,h8bf0,h8bc1,h8bf1,h8bc2,h8bf2⟩:=h8b.x3;obtain ⟨h9bc0,h9bf0,h9bc1,h9bf1,h9bc2,h9bf2⟩:=h9b.x3;go_wp2;go_roundw
          case rel=>exact ⟨.inr rfl,bt (bt hbr hbx) hbs⟩
          case measure=>simp [intOf]
      ·replace hBW:=bt hBW hbr;obtain ⟨hPc0,hPf0,hPc1,hPf1,hPc2,hPf2⟩:=hP.x3;obtain ⟨hQc0,hQf0,hQc1,hQf1,hQc2,hQf2⟩:=hQ.x3;go_wp2;go_ret
       exact ⟨rfl,hBW⟩
end
end Go.Proofs.YtfgandecbkbleaaGreatDoor
