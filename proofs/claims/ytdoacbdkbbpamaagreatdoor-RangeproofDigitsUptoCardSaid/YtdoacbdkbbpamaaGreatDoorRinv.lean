/- Regions that draw their order,by what holds of each operation that is done. -/
import Derived.Test.YtdoacbdkbbpamaaGreatDoorNat2
import Derived.Test.YtdoacbdkbbpamaaGreatDoorDivN
import Derived.Orders
import Derived.Below
import Derived.RegionTactic
import Derived.Shelf.Abstract
set_option linter.unusedVariables false
set_option linter.unusedSimpArgs false
set_option maxRecDepth 100000
set_option maxHeartbeats 16000000
namespace Go.Proofs.YtdoacbdkbbpamaaGreatDoor
section
/- Long division in base 256: the digits of a number as a list,one digit set,the steps of the loops. Plain Lean. -/
end
section
open Go.RowKit
abbrev RV:=Bool→Nat→Value→World→Prop
structure RInv (ops:Array Oper) (V:RV) (S:Nat) (w0:World) (a0:Act) (done:Array Bool) (a:Act) (w:World):Prop where
 sz:done.size=ops.size
 df:a.defers=a0.defers
 ts:a.tmps.size=a0.tmps.size
 bw:Below w0.heap.size w0 w
 un:∀k,(∀i o,ops[i]?=some o→done.getD i false=true→o.dst≠some k)→a.tmps[k]?=a0.tmps[k]?
 pr:∀i o,ops[i]?=some o→done.getD i false=true→∀e∈o.after,Region.binds .any e=true→done.getD e.on false=true
 dn:∀i o d,ops[i]?=some o→done.getD i false=true→o.dst=some d→∃v,a.tmps[d]?=some v∧V (done.getD S false) i v w
def slotsB (ops:Array Oper) (n:Nat):Bool:=
 (List.range ops.size).all fun i=>match (ops[i]?).bind (·.dst) with
  | some d=>decide (d<n)&&(List.range i).all (fun j=>(ops[j]?).bind (·.dst) != some d)
  | none=>true
theorem slots_lt {ops:Array Oper} {n i d:Nat} {o:Oper} (h:slotsB ops n=true) (ho:ops[i]?=some o) (hd:o.dst=some d):d<n:=by
 unfold slotsB at h;rw [List.all_eq_true] at h;have:=h i (List.mem_range.2 (Array.getElem?_eq_some_iff.1 ho).1);simp only [ho,Option.bind_some,hd,Bool.and_eq_true,decide_eq_true_eq] at this;exact this.1
theorem slots_ne {ops:Array Oper} {n i j d:Nat} {o q:Oper} (h:slotsB ops n=true) (ho:ops[i]?=some o) (hd:o.dst=some d) (hq:ops[j]?=some q) (he:q.dst=some d):i=j:=by
 unfold slotsB at h;rw [List.all_eq_true] at h;have hi:=(Array.getElem?_eq_some_iff.1 ho).1;have hj:=(Array.getElem?_eq_some_iff.1 hq).1;rcases Nat.lt_trichotomy i j with hl | hl | hl
 ·have:=h j (List.mem_range.2 hj);simp only [hq,Option.bind_some,he,Bool.and_eq_true,decide_eq_true_eq,List.all_eq_true] at this;have:=this.2 i (List.mem_range.2 hl);simp [ho,hd] at this
 ·exact hl
 ·have:=h i (List.mem_range.2 hi);simp only [ho,Option.bind_some,hd,Bool.and_eq_true,decide_eq_true_eq,List.all_eq_true] at this;have:=this.2 j (List.mem_range.2 hl);simp [hq,he] at this
theorem getD_set (done:Array Bool) (i j:Nat) (hi:i<done.size):(done.setIfInBounds i true).getD j false=if j=i then true else done.getD j false:=by
 rw [Array.getD_eq_getD_getElem?,Array.getD_eq_getD_getElem?,Array.getElem?_setIfInBounds];by_cases h:i=j
 ·subst h;simp [hi]
 ·rw [if_neg h,if_neg (fun e=>h e.symm)]
theorem RInv.put {ops:Array Oper} {V:RV} {S:Nat} {w0 w w':World} {a0 a:Act} {done:Array Bool} {i d:Nat} {o:Oper} {v:Value} (h:RInv ops V S w0 a0 done a w) (hs:slotsB ops a0.tmps.size=true) (ho:ops[i]?=some o) (hd:o.dst=some d) (hpre:∀e∈o.after,Region.binds .any e=true→done.getD e.on false=true) 
  (hb:Below w0.heap.size w0 w') (hk:∀j q,ops[j]?=some q→j≠i→done.getD j false=true→∀u,V (done.getD S false) j u w→V ((done.setIfInBounds i true).getD S false) j u w') (hv:V ((done.setIfInBounds i true).getD S false) i v w'):RInv ops V S w0 a0 (done.setIfInBounds i true) (a.put o.dst v) w':=by
 have hi:i<done.size:=by rw [h.sz];exact (Array.getElem?_eq_some_iff.1 ho).1
 have hdl:d<a.tmps.size:=by rw [h.ts];exact slots_lt hs ho hd
 have e1:(a.put o.dst v).tmps=a.tmps.setIfInBounds d v:=by rw [hd];rfl
 refine ⟨by rw [Array.size_setIfInBounds];exact h.sz,by rw [hd];exact h.df,by rw [e1,Array.size_setIfInBounds];exact h.ts,hb,fun k hk=>?_,fun j q hq hdn e he hbi=>by
  rw [getD_set _ _ _ hi] at hdn ⊢;split
  ·rfl
  ·rename_i hne;by_cases hji:j=i
   ·subst hji;rw [ho] at hq;injection hq with hq;subst hq
    exact hpre e he hbi
   ·rw [if_neg hji] at hdn;exact h.pr j q hq hdn e he hbi,fun j q e hq hdn he=>?_⟩
 ·have hne:d≠k:=fun e=>hk i o ho (by rw [getD_set _ _ _ hi,if_pos rfl]) (by rw [hd,e])
  rw [e1,Array.getElem?_setIfInBounds,if_neg hne];exact h.un k fun j q hq hdn=>hk j q hq (by rw [getD_set _ _ _ hi];split <;> first | rfl | exact hdn)
 ·rw [e1,Array.getElem?_setIfInBounds];by_cases hji:j=i
  ·subst hji;rw [ho] at hq;injection hq with hq;subst hq
   rw [hd] at he;injection he with he;subst he
   rw [if_pos rfl,if_pos hdl];exact ⟨v,rfl,hv⟩
  ·have hne:d≠e:=fun x=>hji (slots_ne hs hq (by rw [he,x]) ho hd)
   rw [getD_set _ _ _ hi,if_neg hji] at hdn;rw [if_neg hne];obtain ⟨u,h1,h2⟩:=h.dn j q e hq hdn he;exact ⟨u,h1,hk j q hq hji hdn u h2⟩
theorem RInv.skip {ops:Array Oper} {V:RV} {S:Nat} {w0 w w':World} {a0 a:Act} {done:Array Bool} {i:Nat} {o:Oper} {v:Value} (h:RInv ops V S w0 a0 done a w) (ho:ops[i]?=some o) (hd:o.dst=none) (hpre:∀e∈o.after,Region.binds .any e=true→done.getD e.on false=true) 
  (hb:Below w0.heap.size w0 w') (hk:∀j q,ops[j]?=some q→j≠i→done.getD j false=true→∀d u,q.dst=some d→a.tmps[d]?=some u→V (done.getD S false) j u w→V ((done.setIfInBounds i true).getD S false) j u w'):RInv ops V S w0 a0 (done.setIfInBounds i true) (a.put o.dst v) w':=by
 have hi:i<done.size:=by rw [h.sz];exact (Array.getElem?_eq_some_iff.1 ho).1
 have e1:(a.put o.dst v)=a:=by rw [hd];rfl
 rw [e1]
 refine ⟨by rw [Array.size_setIfInBounds];exact h.sz,h.df,h.ts,hb,fun k hk=>h.un k fun j q hq hdn=>hk j q hq (by rw [getD_set _ _ _ hi];split <;> first | rfl | exact hdn),fun j q hq hdn e he hbi=>by
  rw [getD_set _ _ _ hi] at hdn ⊢;split
  ·rfl
  ·rename_i hne;by_cases hji:j=i
   ·subst hji;rw [ho] at hq;injection hq with hq;subst hq
    exact hpre e he hbi
   ·rw [if_neg hji] at hdn;exact h.pr j q hq hdn e he hbi,fun j q e hq hdn he=>?_⟩
 by_cases hji:j=i
 ·subst hji;rw [ho] at hq;injection hq with hq;subst hq
  rw [hd] at he;cases he
 ·rw [getD_set _ _ _ hi,if_neg hji] at hdn;obtain ⟨u,h1,h2⟩:=h.dn j q e hq hdn he;exact ⟨u,h1,hk j q hq hji hdn e u he h1 h2⟩
theorem count_set (l:List Bool) (i:Nat) (h:l[i]?=some false):(l.set i true).count false+1=l.count false:=by
 induction l generalizing i with
 | nil=>simp at h
 | cons x t ih =>
  cases i with
  | zero=>simp at h;subst h;simp
  | succ i=>simp at h;have:=ih i h;simp only [List.set_cons_succ,List.count_cons];omega
theorem wpAny_inv {P:Program} {ops:Array Oper} {md:Region.Mode} {Q:Exit→Act→World→Prop} (I:Array Bool→Act→World→Prop) (hsz:∀done a w,I done a w→done.size=ops.size)
  (hs:∀done a w i,I done a w→i∈Region.ready md ops done→wpOp P ops Q i (I (done.setIfInBounds i true)) a w)
  (he:∀done a w,I done a w→Region.ready md ops done=[]→Q .normal a w) :
  ∀(f:Nat) (done:Array Bool) (a:Act) (w:World),I done a w→done.toList.count false≤f→wpAny P md ops Q f done a w:=by
 intro f;induction f with
 | zero =>
  intro done a w hI hc
  have hr:Region.ready md ops done=[]:=by
   apply List.eq_nil_iff_forall_not_mem.2
   intro i hi;have h1:=(mem_ready.1 hi).1;have h2:done.toList.count false=0:=by omega
   rw [List.count_eq_zero] at h2;rw [Array.getD_eq_getD_getElem?] at h1;cases h3:done[i]? with
   | none=>rw [h3] at h1;simp at h1
   | some b =>
    rw [h3] at h1;simp at h1;subst h1;exact h2 (Array.mem_toList_iff.2 (Array.mem_of_getElem? h3))
  exact ⟨hr,he _ _ _ hI hr⟩
 | succ f ih =>
  intro done a w hI hc;refine ⟨he _ _ _ hI,fun i hi=>wpOp_mono (fun a' w' h=>ih _ a' w' h ?_) (hs _ _ _ i hI hi)⟩;have h1:=(mem_ready.1 hi).1;rw [Array.getD_eq_getD_getElem?] at h1;cases h3:done[i]? with
  | none=>rw [h3] at h1;simp at h1
  | some b =>
   rw [h3] at h1;simp at h1;subst h1;have:=count_set done.toList i (by simpa using h3);rw [Array.toList_setIfInBounds];omega
def backB (ops:Array Oper):Bool:=(List.range ops.size).all fun i=>match ops[i]? with
 | some o=>o.after.all fun e=>!(Region.binds .any e) || decide (e.on<i)
 | none=>true
theorem back_done {ops:Array Oper} (h:backB ops=true) (done:Array Bool) (hs:done.size=ops.size) (hr:Region.ready .any ops done=[]):∀i,i<ops.size→done.getD i false=true:=by
 intro i;induction i using Nat.strongRecOn with
 | _ i ih =>
  intro hi;apply Classical.byContradiction
  intro hn
  have hm:i∈Region.ready .any ops done:=by
   refine mem_ready.2 ⟨?_,ops[i],Array.getElem?_eq_getElem hi,fun e he hbi=>?_⟩
   ·have h3:i<done.size:=by omega
    simp only [Array.getD_eq_getD_getElem?,Array.getElem?_eq_getElem h3,Option.getD_some,Bool.not_eq_true] at hn ⊢;exact hn
   ·unfold backB at h;rw [List.all_eq_true] at h;have:=h i (List.mem_range.2 hi);rw [Array.getElem?_eq_getElem hi] at this;simp only [Array.all_eq_true_iff_forall_mem] at this;have h5:=this e he;rw [hbi] at h5;simp only [Bool.not_true,Bool.false_or,decide_eq_true_eq] at h5;exact ih e.on h5 (by omega)
  rw [hr] at hm;cases hm
def slotF (ops:Array Oper) (a:Act) (i:Nat):Value:=match (ops[i]?).bind (·.dst) with
 | some d=>a.tmps.getD d undef
 | none=>undef
def putAll (ops:Array Oper) (f:Nat→Value) (a:Act):Nat→Act
 | 0=>a
 | n+1=>(putAll ops f a n).put ((ops[n]?).bind (·.dst)) (f n)
theorem putAll_at {ops:Array Oper} {a a':Act} (hs:a'.tmps.size=a.tmps.size) (n k:Nat):(putAll ops (slotF ops a') a n).tmps.size=a.tmps.size ∧
  ((∃i,i<n∧(ops[i]?).bind (·.dst)=some k)→(putAll ops (slotF ops a') a n).tmps[k]?=a'.tmps[k]?) ∧
  ((∀i,i<n→(ops[i]?).bind (·.dst)≠some k)→(putAll ops (slotF ops a') a n).tmps[k]?=a.tmps[k]?) ∧
  (putAll ops (slotF ops a') a n).defers=a.defers:=by
 induction n with
 | zero=>exact ⟨rfl,fun ⟨i,h,_⟩=>absurd h (Nat.not_lt_zero _),fun _=>rfl,rfl⟩
 | succ n ih =>
  obtain ⟨h1,h2,h3,h4⟩:=ih;rw [putAll];cases hd:(ops[n]?).bind (·.dst) with
  | none =>
   refine ⟨h1,fun hx=>h2 ?_,fun h=>h3 fun i hi=>h i (by omega),h4⟩;obtain ⟨i,hi,he⟩:=hx;refine ⟨i,?_,he⟩;by_cases e:i=n
   ·subst e;rw [hd] at he;cases he
   ·omega
  | some d =>
   have ht:∀v,(Act.put (putAll ops (slotF ops a') a n) (some d) v).tmps=(putAll ops (slotF ops a') a n).tmps.setIfInBounds d v:=fun _=>rfl
   refine ⟨by rw [ht,Array.size_setIfInBounds];exact h1,fun hx=>?_,fun h=>?_,h4⟩
   ·obtain ⟨i,hi,he⟩:=hx;rw [ht,Array.getElem?_setIfInBounds,h1];by_cases e:d=k
    ·subst e;rw [if_pos rfl];by_cases hl:d<a.tmps.size
     ·rw [if_pos hl];have e0:slotF ops a' n=a'.tmps.getD d undef:=by unfold slotF;rw [hd]
      rw [e0];rw [Array.getD_eq_getD_getElem?,Array.getElem?_eq_getElem (by rw [hs];exact hl)];rfl
     ·rw [if_neg hl,Array.getElem?_eq_none (by rw [hs];exact Nat.not_lt.1 hl)]
    ·rw [if_neg e];refine h2 ⟨i,?_,he⟩;by_cases e2:i=n
     ·subst e2;rw [hd] at he;injection he with he;exact absurd he e
     ·omega
   ·rw [ht,Array.getElem?_setIfInBounds];have e:d≠k:=fun e=>h n (by omega) (by rw [hd,e])
    rw [if_neg e];exact h3 fun i hi=>h i (by omega)
theorem RInv.all {ops:Array Oper} {V:RV} {S:Nat} {w0 w:World} {a0 a:Act} {done:Array Bool} (h:RInv ops V S w0 a0 done a w) (hd:∀i,i<ops.size→done.getD i false=true) :
  ∃f:Nat→Value,a=putAll ops f a0 ops.size∧∀i o d,ops[i]?=some o→o.dst=some d→V (done.getD S false) i (f i) w:=by
 refine ⟨slotF ops a,?_,fun i o d ho hod=>?_⟩
 ·have ht:a.tmps=(putAll ops (slotF ops a) a0 ops.size).tmps:=by
   apply Array.ext_getElem?
   intro k;obtain ⟨_,h2,h3,_⟩:=putAll_at (ops:=ops) (a:=a0) (a':=a) h.ts ops.size k;by_cases he:∃i,i<ops.size∧(ops[i]?).bind (·.dst)=some k
   ·exact (h2 he).symm
   ·rw [h3 fun i hi e=>he ⟨i,hi,e⟩];refine h.un k fun i o ho _ e=>he ⟨i,(Array.getElem?_eq_some_iff.1 ho).1,by rw [ho];exact e⟩
  have hf:=(putAll_at (ops:=ops) (a:=a0) (a':=a) h.ts ops.size 0).2.2.2;generalize putAll ops (slotF ops a) a0 ops.size=b at ht hf ⊢;obtain ⟨bt1,bd1⟩:=b;obtain ⟨at1,ad1⟩:=a;have:=h.df;simp only [] at ht hf this ⊢;subst ht;rw [hf,this]
 ·obtain ⟨v,h1,h2⟩:=h.dn i o d ho (hd i (Array.getElem?_eq_some_iff.1 ho).1) hod;have e0:slotF ops a i=v:=by unfold slotF;simp only [ho,Option.bind_some,hod,Array.getD_eq_getD_getElem?,h1,Option.getD_some]
  rw [e0];exact h2
theorem RInv.op {P:Program} {ops:Array Oper} {V:RV} {S:Nat} {Q:Exit→Act→World→Prop} {w0 w:World} {a0 a:Act} {done:Array Bool} {i d:Nat} {o:Oper} (h:RInv ops V S w0 a0 done a w) (hs:slotsB ops a0.tmps.size=true) (hst:∀b j u w w',Below w.heap.size w w'→V b j u w→V b j u w')
  (hw0:w0.heap.size≤w.heap.size) (ho:ops[i]?=some o) (hd:o.dst=some d) (hgd:o.guard=none) (hS:i≠S) (hpre:∀e∈o.after,Region.binds .any e=true→done.getD e.on false=true) 
  (hwp:Oper.wp P o a w (fun a' w'=>∃v,a'=a.put o.dst v∧Below w.heap.size w w'∧V (done.getD S false) i v w') Q):wpOp P ops Q i (RInv ops V S w0 a0 (done.setIfInBounds i true)) a w:=by
 refine wpOp_step ho fun K' hK=>?_
 have hw:Region.wanted o (yielded ops a.tmps)=true:=by simp [Region.wanted,hgd]
 rw [if_pos hw];refine Oper.wp_mono (fun a' w' hx=>hK a' w' ?_) hwp;obtain ⟨v,rfl,hb,hv⟩:=hx;have hi:i<done.size:=by rw [h.sz];exact (Array.getElem?_eq_some_iff.1 ho).1
 have e:(done.setIfInBounds i true).getD S false=done.getD S false:=by rw [getD_set _ _ _ hi,if_neg (fun e=>hS e.symm)]
 exact h.put hs ho hd hpre (h.bw.trans (hb.mono hw0)) (fun j q _ _ _ u hu=>by rw [e];exact hst _ _ _ _ _ hb hu) (by rw [e];exact hv)
theorem wp_val {P:Program} {o:Oper} {a:Act} {w:World} {Q:Exit→Act→World→Prop} {v:Value} {R:Value→World→Prop} (hr:(execOp a.eval o).run P w=.ok (.value v) w) (hv:R v w) :
  Oper.wp P o a w (fun a' w'=>∃v,a'=a.put o.dst v∧Below w.heap.size w w'∧R v w') Q:=by
 unfold Oper.wp;rw [hr];exact ⟨v,rfl,Below.refl _ _,hv⟩
theorem wp_callX {P:Program} {o:Oper} {a:Act} {w:World} {Q:Exit→Act→World→Prop} (f:FuncId) (xs:Array Operand) (ts:Array TypeId)
  (ho:o.op=.call { callee:=.value (.func f),args:=xs,argTypes:=ts }) (hE:∀args w,(callFunc f args).run P w=.ok (.enter f args) w) {R:Value→World→Prop}
  (hc:Calls P f (xs.map a.eval) w fun e w'=>∃v,e=.returned v∧Below w.heap.size w w'∧R v w'):Oper.wp P o a w (fun a' w'=>∃v,a'=a.put o.dst v∧Below w.heap.size w w'∧R v w') Q:=by
 have hrun:(execOp a.eval o).run P w=.ok (.enter f (xs.map a.eval)) w:=by
  simp [execOp,ho,resolve,invoke,go_sem,hE]
 unfold Oper.wp;rw [hrun,Oper.upon_enter];refine hc.mono fun e w' he=>?_
 obtain ⟨v,rfl,hb,hR⟩:=he;exact ⟨v,rfl,hb,hR⟩
theorem eval_of {a:Act} {d:Nat} {v:Value} (h:a.tmps[d]?=some v):a.eval (.tmp d)=v:=by
 show a.tmps.getD d undef=v;rw [Array.getD_eq_getD_getElem?,h];rfl
theorem RInv.keep {ops:Array Oper} {V:RV} {S:Nat} {w0 w:World} {a0 a:Act} {done:Array Bool} (h:RInv ops V S w0 a0 done a w) (k:Nat) (v:Value) (hv:a0.tmps[k]?=some v) (hk:((List.range ops.size).all fun i=>(ops[i]?).bind (·.dst) != some k)=true):a.tmps[k]?=some v:=by
 rw [h.un k fun i o ho _ e=>?_,hv];rw [List.all_eq_true] at hk;have:=hk i (List.mem_range.2 (Array.getElem?_eq_some_iff.1 ho).1);rw [ho,Option.bind_some,e] at this;simp at this
theorem eval_const (a:Act) (v:Value):a.eval (.const v)=v:=rfl
end
end Go.Proofs.YtdoacbdkbbpamaaGreatDoor
