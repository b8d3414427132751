/- ref14.element and Shift. -/
import Derived.Orders
import Derived.Below
import Derived.RegionTactic
import Derived.Shelf.Abstract
import Derived.Test.YtfgandecbkbleaaGreatDoorCmt2
import Derived.Test.YtfgandecbkbleaaGreatDoorStm
set_option linter.unusedVariables false
set_option linter.unusedSimpArgs false
set_option maxRecDepth 100000
set_option maxHeartbeats 16000000
namespace Go.Proofs.YtfgandecbkbleaaGreatDoor
section
/- Regions that draw their order,by what holds of each operation that is done. -/
open Go.RowKit
abbrev RV:=Bool→Nat→Value→World→Prop
structure RInv (ops:Array Oper) (V:RV) (S:Nat) (w0:World) (a0:Act) (done:Array Bool) (a:Act) (w:World):Prop where
 sz:done.size=ops.size
 df:a.defers=a0.defers
 ts:a.tmps.size=a0.tmps.size
 bw:Below w0.heap.size w0 w
 un:∀k,(∀i o,ops[i]?=some o→done.getD i false=true→o.dst≠some k)→a.tmps[k]?=a0.tmps[k]?
 pr:∀i o,ops[i]?=some o→done.getD i false=true→∀e∈o.after,Region.binds .any e=true→done.getD e.on false=true
 dn:∀i o d,ops[i]?=some o→done.getD i false=true→o.dst=some d→∃v,a.tmps[d]?=some v∧V (done.getD S false) i v w
def slotsB (ops:Array Oper) (n:Nat):Bool:=
 (List.range ops.size).all fun i=>match (ops[i]?).bind (·.dst) with
  | some d=>decide (d<n)&&(List.range i).all (fun j=>(ops[j]?).bind (·.dst) != some d)
  | none=>true
theorem slots_lt {ops:Array Oper} {n i d:Nat} {o:Oper} (h:slotsB ops n=true) (ho:ops[i]?=some o) (hd:o.dst=some d):d<n:=by
 unfold slotsB at h;rw [List.all_eq_true] at h;have:=h i (List.mem_range.2 (Array.getElem?_eq_some_iff.1 ho).1);simp only [ho,Option.bind_some,hd,Bool.and_eq_true,decide_eq_true_eq] at this;exact this.1
theorem slots_ne {ops:Array Oper} {n i j d:Nat} {o q:Oper} (h:slotsB ops n=true) (ho:ops[i]?=some o) (hd:o.dst=some d) (hq:ops[j]?=some q) (he:q.dst=some d):i=j:=by
 unfold slotsB at h;rw [List.all_eq_true] at h;have hi:=(Array.getElem?_eq_some_iff.1 ho).1;have hj:=(Array.getElem?_eq_some_iff.1 hq).1;rcases Nat.lt_trichotomy i j with hl | hl | hl
 ·have:=h j (List.mem_range.2 hj);simp only [hq,Option.bind_some,he,Bool.and_eq_true,decide_eq_true_eq,List.all_eq_true] at this;have:=this.2 i (List.mem_range.2 hl);simp [ho,hd] at this
 ·exact hl
 ·have:=h i (List.mem_range.2 hi);simp only [ho,Option.bind_some,hd,Bool.and_eq_true,decide_eq_true_eq,List.all_eq_true] at this;have:=this.2 j (List.mem_range.2 hl);simp [hq,he] at this
theorem getD_set (done:Array Bool) (i j:Nat) (hi:i<done.size):(done.setIfInBounds i true).getD j false=if j=i then true else done.getD j false:=by
 rw [Array.getD_eq_getD_getElem?,Array.getD_eq_getD_getElem?,Array.getElem?_setIfInBounds];by_cases h:i=j
 ·subst h;simp [hi]
 ·rw [if_neg h,if_neg (fun e=>h e.symm)]
theorem RInv.put {ops:Array Oper} {V:RV} {S:Nat} {w0 w w':World} {a0 a:Act} {done:Array Bool} {i d:Nat} {o:Oper} {v:Value} (h:RInv ops V S w0 a0 done a w) (hs:slotsB ops a0.tmps.size=true) (ho:ops[i]?=some o) (hd:o.dst=some d) (hpre:∀e∈o.after,Region.binds .any e=true→done.getD e.on false=true) 
  (hb:Below w0.heap.size w0 w') (hk:∀j q,ops[j]?=some q→j≠i→done.getD j false=true→∀u,V (done.getD S false) j u w→V ((done.setIfInBounds i true).getD S false) j u w') (hv:V ((done.setIfInBounds i true).getD S false) i v w'):RInv ops V S w0 a0 (done.setIfInBounds i true) (a.put o.dst v) w':=by
 have hi:i<done.size:=by rw [h.sz];exact (Array.getElem?_eq_some_iff.1 ho).1
 have hdl:d<a.tmps.size:=by rw [h.ts];exact slots_lt hs ho hd
 have e1:(a.put o.dst v).tmps=a.tmps.setIfInBounds d v:=by rw [hd];rfl
 refine ⟨by rw [Array.size_setIfInBounds];exact h.sz,by rw [hd];exact h.df,by rw [e1,Array.size_setIfInBounds];exact h.ts,hb,fun k hk=>?_,fun j q hq hdn e he hbi=>by
  rw [getD_set _ _ _ hi] at hdn ⊢;split
  ·rfl
  ·rename_i hne;by_cases hji:j=i
   ·subst hji;rw [ho] at hq;injection hq with hq;subst hq
    exact hpre e he hbi
   ·rw [if_neg hji] at hdn;exact h.pr j q hq hdn e he hbi,fun j q e hq hdn he=>?_⟩
 ·have hne:d≠k:=fun e=>hk i o ho (by rw [getD_set _ _ _ hi,if_pos rfl]) (by rw [hd,e])
  rw [e1,Array.getElem?_setIfInBounds,if_neg hne];exact h.un k fun j q hq hdn=>hk j q hq (by rw [getD_set _ _ _ hi];split <;> first | rfl | exact hdn)
 ·rw [e1,Array.getElem?_setIfInBounds];by_cases hji:j=i
  ·subst hji;rw [ho] at hq;injection hq with hq;subst hq
   rw [hd] at he;injection he with he;subst he
   rw [if_pos rfl,if_pos hdl];exact ⟨v,rfl,hv⟩
  ·have hne:d≠e:=fun x=>hji (slots_ne hs hq (by rw [he,x]) ho hd)
   rw [getD_set _ _ _ hi,if_neg hji] at hdn;rw [if_neg hne];obtain ⟨u,h1,h2⟩:=h.dn j q e hq hdn he;exact ⟨u,h1,hk j q hq hji hdn u h2⟩
theorem RInv.skip {ops:Array Oper} {V:RV} {S:Nat} {w0 w w':World} {a0 a:Act} {done:Array Bool} {i:Nat} {o:Oper} {v:Value} (h:RInv ops V S w0 a0 done a w) (ho:ops[i]?=some o) (hd:o.dst=none) (hpre:∀e∈o.after,Region.binds .any e=true→done.getD e.on false=true) 
  (hb:Below w0.heap.size w0 w') (hk:∀j q,ops[j]?=some q→j≠i→done.getD j false=true→∀d u,q.dst=some d→a.tmps[d]?=some u→V (done.getD S false) j u w→V ((done.setIfInBounds i true).getD S false) j u w'):RInv ops V S w0 a0 (done.setIfInBounds i true) (a.put o.dst v) w':=by
 have hi:i<done.size:=by rw [h.sz];exact (Array.getElem?_eq_some_iff.1 ho).1
 have e1:(a.put o.dst v)=a:=by rw [hd];rfl
 rw [e1]
 refine ⟨by rw [Array.size_setIfInBounds];exact h.sz,h.df,h.ts,hb,fun k hk=>h.un k fun j q hq hdn=>hk j q hq (by rw [getD_set _ _ _ hi];split <;> first | rfl | exact hdn),fun j q hq hdn e he hbi=>by
  rw [getD_set _ _ _ hi] at hdn ⊢;split
  ·rfl
  ·rename_i hne;by_cases hji:j=i
   ·subst hji;rw [ho] at hq;injection hq with hq;subst hq
    exact hpre e he hbi
   ·rw [if_neg hji] at hdn;exact h.pr j q hq hdn e he hbi,fun j q e hq hdn he=>?_⟩
 by_cases hji:j=i
 ·subst hji;rw [ho] at hq;injection hq with hq;subst hq
  rw [hd] at he;cases he
 ·rw [getD_set _ _ _ hi,if_neg hji] at hdn;obtain ⟨u,h1,h2⟩:=h.dn j q e hq hdn he;exact ⟨u,h1,hk j q hq hji hdn e u he h1 h2⟩
theorem count_set (l:List Bool) (i:Nat) (h:l[i]?=some false):(l.set i true).count false+1=l.count false:=by
 induction l generalizing i with
 | nil=>simp at h
 | cons x t ih =>
  cases i with
  | zero=>simp at h;subst h;simp
  | succ i=>simp at h;have:=ih i h;simp only [List.set_cons_succ,List.count_cons];omega
theorem wpAny_inv {P:Program} {ops:Array Oper} {md:Region.Mode} {Q:Exit→Act→World→Prop} (I:Array Bool→Act→World→Prop) (hsz:∀done a w,I done a w→done.size=ops.size)
  (hs:∀done a w i,I done a w→i∈Region.ready md ops done→wpOp P ops Q i (I (done.setIfInBounds i true)) a w)
  (he:∀done a w,I done a w→Region.ready md ops done=[]→Q .normal a w) :
  ∀(f:Nat) (done:Array Bool) (a:Act) (w:World),I done a w→done.toList.count false≤f→wpAny P md ops Q f done a w:=by
 intro f;induction f with
 | zero =>
  intro done a w hI hc
  have hr:Region.ready md ops done=[]:=by
   apply List.eq_nil_iff_forall_not_mem.2
   intro i hi;have h1:=(mem_ready.1 hi).1;have h2:done.toList.count false=0:=by omega
   rw [List.count_eq_zero] at h2;rw [Array.getD_eq_getD_getElem?] at h1;cases h3:done[i]? with
   | none=>rw [h3] at h1;simp at h1
   | some b =>
    rw [h3] at h1;simp at h1;subst h1;exact h2 (Array.mem_toList_iff.2 (Array.mem_of_getElem? h3))
  exact ⟨hr,he _ _ _ hI hr⟩
 | succ f ih =>
  intro done a w hI hc;refine ⟨he _ _ _ hI,fun i hi=>wpOp_mono (fun a' w' h=>ih _ a' w' h ?_) (hs _ _ _ i hI hi)⟩;have h1:=(mem_ready.1 hi).1;rw [Array.getD_eq_getD_getElem?] at h1;cases h3:done[i]? with
  | none=>rw [h3] at h1;simp at h1
  | some b =>
   rw [h3] at h1;simp at h1;subst h1;have:=count_set done.toList i (by simpa using h3);rw [Array.toList_setIfInBounds];omega
def backB (ops:Array Oper):Bool:=(List.range ops.size).all fun i=>match ops[i]? with
 | some o=>o.after.all fun e=>!(Region.binds .any e) || decide (e.on<i)
 | none=>true
theorem back_done {ops:Array Oper} (h:backB ops=true) (done:Array Bool) (hs:done.size=ops.size) (hr:Region.ready .any ops done=[]):∀i,i<ops.size→done.getD i false=true:=by
 intro i;induction i using Nat.strongRecOn with
 | _ i ih =>
  intro hi;apply Classical.byContradiction
  intro hn
  have hm:i∈Region.ready .any ops done:=by
   refine mem_ready.2 ⟨?_,ops[i],Array.getElem?_eq_getElem hi,fun e he hbi=>?_⟩
   ·have h3:i<done.size:=by omega
    simp only [Array.getD_eq_getD_getElem?,Array.getElem?_eq_getElem h3,Option.getD_some,Bool.not_eq_true] at hn ⊢;exact hn
   ·unfold backB at h;rw [List.all_eq_true] at h;have:=h i (List.mem_range.2 hi);rw [Array.getElem?_eq_getElem hi] at this;simp only [Array.all_eq_true_iff_forall_mem] at this;have h5:=this e he;rw [hbi] at h5;simp only [Bool.not_true,Bool.false_or,decide_eq_true_eq] at h5;exact ih e.on h5 (by omega)
  rw [hr] at hm;cases hm
theorem wp_region_inv {P:Program} {id:Nat} {ops:Array Oper} {Q:Exit→Act→World→Prop} {a:Act} {w:World} (V:RV) (S n:Nat) (hm:P.follows .mixedOrders=true) (hn:a.tmps.size=n) (hsl:slotsB ops n=true)
  (hs:slotsB ops a.tmps.size=true→∀done a' w' i o,RInv ops V S w a done a' w'→ops[i]?=some o→done.getD i false=false→(∀e∈o.after,Region.binds .any e=true→done.getD e.on false=true)→wpOp P ops Q i (RInv ops V S w a (done.setIfInBounds i true)) a' w')
  (he:∀done a' w',RInv ops V S w a done a' w'→(∀i,i<ops.size→done.getD i false=true)→Q .normal a' w') (hac:backB ops=true):(Code.region id ops true).wp P Q a w:=by
 refine wp_region_any hm ?_;refine wpAny_inv (RInv ops V S w a) (fun _ _ _ h=>h.sz) (fun done a' w' i hI hi=>?_) (fun done a' w' hI hr=>he done a' w' hI (back_done hac done hI.sz hr)) _ _ _ _ ?_ ?_
 ·obtain ⟨hun,o,ho,h⟩:=mem_ready.1 hi;refine hs (by rw [hn];exact hsl) done a' w' i o hI ho ?_ h;rw [Array.getD_eq_getD_getElem?] at hun ⊢;cases hx:done[i]? with
  | none=>rfl
  | some b=>rw [hx] at hun;exact hun
 ·refine ⟨by simp,rfl,rfl,(Below.refl _ _).drew,fun _ _=>rfl,fun i o ho hd=>?_,fun i o d ho hd _=>?_⟩
  ·rw [Array.getD_eq_getD_getElem?] at hd;simp only [Array.getElem?_replicate] at hd;split at hd <;> simp at hd
  rw [Array.getD_eq_getD_getElem?] at hd;simp only [Array.getElem?_replicate] at hd;split at hd <;> simp at hd
 ·simp
def slotF (ops:Array Oper) (a:Act) (i:Nat):Value:=match (ops[i]?).bind (·.dst) with
 | some d=>a.tmps.getD d undef
 | none=>undef
def putAll (ops:Array Oper) (f:Nat→Value) (a:Act):Nat→Act
 | 0=>a
 | n+1=>(putAll ops f a n).put ((ops[n]?).bind (·.dst)) (f n)
theorem putAll_at {ops:Array Oper} {a a':Act} (hs:a'.tmps.size=a.tmps.size) (n k:Nat):(putAll ops (slotF ops a') a n).tmps.size=a.tmps.size ∧
  ((∃i,i<n∧(ops[i]?).bind (·.dst)=some k)→(putAll ops (slotF ops a') a n).tmps[k]?=a'.tmps[k]?) ∧
  ((∀i,i<n→(ops[i]?).bind (·.dst)≠some k)→(putAll ops (slotF ops a') a n).tmps[k]?=a.tmps[k]?) ∧
  (putAll ops (slotF ops a') a n).defers=a.defers:=by
 induction n with
 | zero=>exact ⟨rfl,fun ⟨i,h,_⟩=>absurd h (Nat.not_lt_zero _),fun _=>rfl,rfl⟩
 | succ n ih =>
  obtain ⟨h1,h2,h3,h4⟩:=ih;rw [putAll];cases hd:(ops[n]?).bind (·.dst) with
  | none =>
   refine ⟨h1,fun hx=>h2 ?_,fun h=>h3 fun i hi=>h i (by omega),h4⟩;obtain ⟨i,hi,he⟩:=hx;refine ⟨i,?_,he⟩;by_cases e:i=n
   ·subst e;rw [hd] at he;cases he
   ·omega
  | some d =>
   have ht:∀v,(Act.put (putAll ops (slotF ops a') a n) (some d) v).tmps=(putAll ops (slotF ops a') a n).tmps.setIfInBounds d v:=fun _=>rfl
   refine ⟨by rw [ht,Array.size_setIfInBounds];exact h1,fun hx=>?_,fun h=>?_,h4⟩
   ·obtain ⟨i,hi,he⟩:=hx;rw [ht,Array.getElem?_setIfInBounds,h1];by_cases e:d=k
    ·subst e;rw [if_pos rfl];by_cases hl:d<a.tmps.size
     ·rw [if_pos hl];have e0:slotF ops a' n=a'.tmps.getD d undef:=by unfold slotF;rw [hd]
      rw [e0];rw [Array.getD_eq_getD_getElem?,Array.getElem?_eq_getElem (by rw [hs];exact hl)];rfl
     ·rw [if_neg hl,Array.getElem?_eq_none (by rw [hs];exact Nat.not_lt.1 hl)]
    ·rw [if_neg e];refine h2 ⟨i,?_,he⟩;by_cases e2:i=n
     ·subst e2;rw [hd] at he;injection he with he;exact absurd he e
     ·omega
   ·rw [ht,Array.getElem?_setIfInBounds];have e:d≠k:=fun e=>h n (by omega) (by rw [hd,e])
    rw [if_neg e];exact h3 fun i hi=>h i (by omega)
theorem RInv.all {ops:Array Oper} {V:RV} {S:Nat} {w0 w:World} {a0 a:Act} {done:Array Bool} (h:RInv ops V S w0 a0 done a w) (hd:∀i,i<ops.size→done.getD i false=true) :
  ∃f:Nat→Value,a=putAll ops f a0 ops.size∧∀i o d,ops[i]?=some o→o.dst=some d→V (done.getD S false) i (f i) w:=by
 refine ⟨slotF ops a,?_,fun i o d ho hod=>?_⟩
 ·have ht:a.tmps=(putAll ops (slotF ops a) a0 ops.size).tmps:=by
   apply Array.ext_getElem?
   intro k;obtain ⟨_,h2,h3,_⟩:=putAll_at (ops:=ops) (a:=a0) (a':=a) h.ts ops.size k;by_cases he:∃i,i<ops.size∧(ops[i]?).bind (·.dst)=some k
   ·exact (h2 he).symm
   ·rw [h3 fun i hi e=>he ⟨i,hi,e⟩];refine h.un k fun i o ho _ e=>he ⟨i,(Array.getElem?_eq_some_iff.1 ho).1,by rw [ho];exact e⟩
  have hf:=(putAll_at (ops:=ops) (a:=a0) (a':=a) h.ts ops.size 0).2.2.2;generalize putAll ops (slotF ops a) a0 ops.size=b at ht hf ⊢;obtain ⟨bt1,bd1⟩:=b;obtain ⟨at1,ad1⟩:=a;have:=h.df;simp only [] at ht hf this ⊢;subst ht;rw [hf,this]
 ·obtain ⟨v,h1,h2⟩:=h.dn i o d ho (hd i (Array.getElem?_eq_some_iff.1 ho).1) hod;have e0:slotF ops a i=v:=by unfold slotF;simp only [ho,Option.bind_some,hod,Array.getD_eq_getD_getElem?,h1,Option.getD_some]
  rw [e0];exact h2
theorem RInv.op {P:Program} {ops:Array Oper} {V:RV} {S:Nat} {Q:Exit→Act→World→Prop} {w0 w:World} {a0 a:Act} {done:Array Bool} {i d:Nat} {o:Oper} (h:RInv ops V S w0 a0 done a w) (hs:slotsB ops a0.tmps.size=true) (hst:∀b j u w w',Below w.heap.size w w'→V b j u w→V b j u w')
  (hw0:w0.heap.size≤w.heap.size) (ho:ops[i]?=some o) (hd:o.dst=some d) (hgd:o.guard=none) (hS:i≠S) (hpre:∀e∈o.after,Region.binds .any e=true→done.getD e.on false=true) 
  (hwp:Oper.wp P o a w (fun a' w'=>∃v,a'=a.put o.dst v∧Below w.heap.size w w'∧V (done.getD S false) i v w') Q):wpOp P ops Q i (RInv ops V S w0 a0 (done.setIfInBounds i true)) a w:=by
 refine wpOp_step ho fun K' hK=>?_
 have hw:Region.wanted o (yielded ops a.tmps)=true:=by simp [Region.wanted,hgd]
 rw [if_pos hw];refine Oper.wp_mono (fun a' w' hx=>hK a' w' ?_) hwp;obtain ⟨v,rfl,hb,hv⟩:=hx;have hi:i<done.size:=by rw [h.sz];exact (Array.getElem?_eq_some_iff.1 ho).1
 have e:(done.setIfInBounds i true).getD S false=done.getD S false:=by rw [getD_set _ _ _ hi,if_neg (fun e=>hS e.symm)]
 exact h.put hs ho hd hpre (h.bw.trans (hb.mono hw0)) (fun j q _ _ _ u hu=>by rw [e];exact hst _ _ _ _ _ hb hu) (by rw [e];exact hv)
theorem wp_val {P:Program} {o:Oper} {a:Act} {w:World} {Q:Exit→Act→World→Prop} {v:Value} {R:Value→World→Prop} (hr:(execOp a.eval o).run P w=.ok (.value v) w) (hv:R v w) :
  Oper.wp P o a w (fun a' w'=>∃v,a'=a.put o.dst v∧Below w.heap.size w w'∧R v w') Q:=by
 unfold Oper.wp;rw [hr];exact ⟨v,rfl,Below.refl _ _,hv⟩
theorem wp_callX {P:Program} {o:Oper} {a:Act} {w:World} {Q:Exit→Act→World→Prop} (f:FuncId) (xs:Array Operand) (ts:Array TypeId)
  (ho:o.op=.call { callee:=.value (.func f),args:=xs,argTypes:=ts }) (hE:∀args w,(callFunc f args).run P w=.ok (.enter f args) w) {R:Value→World→Prop}
  (hc:Calls P f (xs.map a.eval) w fun e w'=>∃v,e=.returned v∧Below w.heap.size w w'∧R v w'):Oper.wp P o a w (fun a' w'=>∃v,a'=a.put o.dst v∧Below w.heap.size w w'∧R v w') Q:=by
 have hrun:(execOp a.eval o).run P w=.ok (.enter f (xs.map a.eval)) w:=by
  simp [execOp,ho,resolve,invoke,go_sem,hE]
 unfold Oper.wp;rw [hrun,Oper.upon_enter];refine hc.mono fun e w' he=>?_
 obtain ⟨v,rfl,hb,hR⟩:=he;exact ⟨v,rfl,hb,hR⟩
theorem eval_of {a:Act} {d:Nat} {v:Value} (h:a.tmps[d]?=some v):a.eval (.tmp d)=v:=by
 show a.tmps.getD d undef=v;rw [Array.getD_eq_getD_getElem?,h];rfl
theorem RInv.keep {ops:Array Oper} {V:RV} {S:Nat} {w0 w:World} {a0 a:Act} {done:Array Bool} (h:RInv ops V S w0 a0 done a w) (k:Nat) (v:Value) (hv:a0.tmps[k]?=some v) (hk:((List.range ops.size).all fun i=>(ops[i]?).bind (·.dst) != some k)=true):a.tmps[k]?=some v:=by
 rw [h.un k fun i o ho _ e=>?_,hv];rw [List.all_eq_true] at hk;have:=hk i (List.mem_range.2 (Array.getElem?_eq_some_iff.1 ho).1);rw [ho,Option.bind_some,e] at this;simp at this
theorem eval_const (a:Act) (v:Value):a.eval (.const v)=v:=rfl
end
section
open Go.RowKit Go.Shelf
theorem rproductS_c (p q c g:Nat) (z:Int) (bl bz:Nat) (w:World) (hp:p<256^8) (hq:q<256^128) (he:grpE p q=0) (hc:hasB p q c=true) (hg:hasB p q g=true) (hz:z.natAbs<256^128)
  (hL:Blk w bl 22 [.string (E c),.string (E g)]) (hZ:Blk w bz 28 [.bool (sg 1),.string (E 1),.bool (sg z),.string (E z.natAbs)]) :
  Calls Tryz.prog 81 #[.agg #[.string (E p),.string (E q)],.slice (some ⟨bl,0,none⟩) 2 2,.slice (some ⟨bz,0,none⟩) 2 2] w fun e w'=>e=.returned (.tuple #[.string (E (shiftN p c g z)),.int .i64 0])∧Below w.heap.size w w':=
 rproduct_c p q [c,g] [1,z] _ _ w hp hq he rfl (by simp) (by intro x hx;simp at hx;rcases hx with rfl | rfl <;> assumption) (by intro y hy;simp at hy;rcases hy with rfl | rfl <;> first | decide | assumption)
  (NOwn.ss (own_blk hL rfl (by decide))) (ZOwn.zs (own_blk hZ rfl (by decide)))
theorem r14elem_c (p q g h c:Nat) (w:World) (hp:p<256^8) (hq:q<256^128) (hgb:g<256^128) (hhb:h<256^128) (hcb:c<256^128) (he:pedE p q g h=0) (hc:hasB p q c=true) :
  Calls Tryz.prog 117 #[.agg #[.string (E p),.string (E q),.string (E g),.string (E h)],.string (E c),.bool true] w fun e w'=>e=.returned (.int .i64 0)∧Below w.heap.size w w':=by
 have HF:=Lib.hid (fun w=>rpformV_c (E p) (E q) (E g) (E h) true w (sz1000 (lt128 hp)) (sz1000 hq) (sz1000 hgb) (sz1000 hhb) (vl4_E (lt128 hp) hq hgb hhb));have HPC:=Lib.hid (fun w=>rpedcheckV_c p q g h 0 w hp hq hgb hhb he);have HV:=Lib.hid (fun w=>rvalidE_c c w hcb);have HH:=Lib.hid (fun w=>rHasV_c p q c true w hp hq (pedE_grp he) hcb hc);have hB:=Blk.new w #[Value.string (E p),Value.string (E q),Value.string (E g),Value.string (E h)] 26;have hBW:=b1 w (.cells #[Value.string (E p),Value.string (E q),Value.string (E g),Value.string (E h)] 26);clear hp hq hgb hhb hcb he hc;obtain ⟨hBc0,hBf0,hBc1,hBf1,hBc2,hBf2,hBc3,hBf3⟩:=hB.x4;go_enter Tryz.func117,Tryz.ntmps117
 go_wp2_with fail
 refine (HF.out _).mono ?_;rintro e w1 ⟨rfl,hb1⟩;clear hBc0 hBf0 hBc1 hBf1 hBc2 hBf2 hBc3 hBf3;replace hB:=hB.after hb1;replace hBW:=bt hBW hb1;obtain ⟨hBc0,hBf0,hBc1,hBf1,hBc2,hBf2,hBc3,hBf3⟩:=hB.x4;go_wp2_with fail
 refine (HV.out _).mono ?_;rintro e w' ⟨rfl,rfl⟩;go_wp2_with fail
 refine (HPC.out _).mono ?_;rintro e w2 ⟨rfl,hb2⟩;clear hBc0 hBf0 hBc1 hBf1 hBc2 hBf2 hBc3 hBf3;replace hB:=hB.after hb2;replace hBW:=bt hBW hb2;obtain ⟨hBc0,hBf0,hBc1,hBf1,hBc2,hBf2,hBc3,hBf3⟩:=hB.x4;go_wp2_with fail
 refine (HH.out _).mono ?_;rintro e w3 ⟨rfl,hb3⟩;replace hBW:=bt hBW hb3;go_wp2;go_ret
 exact ⟨rfl,hBW⟩
def vSf (gB:Nat) (p q g c:Nat) (z:Int):RV:=fun _ i v w=>match i with
 | 0=>v=.pointer (some ⟨gB,0,none⟩)
 | 1=>v=.agg #[.string (E p),.string (E q)]
 | 2=>v=.string (E c)
 | 3=>v=.pointer (some ⟨gB,2,none⟩)
 | 4=>v=.string (E g)
 | 5=>∃b,v=.slice (some ⟨b,0,none⟩) 2 2∧Blk w b 22 [.string (E c),.string (E g)]
 | 6=>v=.agg #[.bool false,.string (E 1)]
 | 7=>v=.agg #[.bool (sg z),.string (E z.natAbs)]
 | 8=>∃b,v=.slice (some ⟨b,0,none⟩) 2 2∧Blk w b 28 [.bool false,.string (E 1),.bool (sg z),.string (E z.natAbs)]
 | 9=>v=.tuple #[.string (E (shiftN p c g z)),.int .i64 0]
 | 10=>v=.string (E (shiftN p c g z))
 | 11=>v=.int .i64 0
 | 12=>v=.string (E (shiftN p c g z))
 | 13=>v=.int .i64 0
 | _=>True
theorem vSf_st (gB p q g c:Nat) (z:Int):∀b j u w w',Below w.heap.size w w'→vSf gB p q g c z b j u w→vSf gB p q g c z b j u w':=by
 intro b j u w w' hb h;unfold vSf at h ⊢;split at h
 all_goals first
  | exact h
  | (obtain ⟨x,h1,h2⟩:=h;exact ⟨x,h1,h2.after hb⟩)
theorem r14shift_c (p q g h c:Nat) (z:Int) (w:World) (hp:p<256^8) (hq:q<256^128) (hgb:g<256^128) (hhb:h<256^128) (hcb:c<256^128) (hzb:z.natAbs<256^128)
  (he:pedE p q g h=0) (hc:hasB p q c=true) (hg:hasB p q g=true) :
  Calls Tryz.prog 67 #[.agg #[.string (E p),.string (E q),.string (E g),.string (E h)],.string (E c),.agg #[.bool (sg (z)),.string (E (z).natAbs)]] w fun e w'=>e=.returned (.tuple #[.string (E (shiftN p c g z)),.int .i64 0])∧Below w.heap.size w w':=by
 have HE:=Lib.hid (fun w=>r14elem_c p q g h c w hp hq hgb hhb hcb he hc);have HV:=Lib.hid (fun w=>rivalidI_c z w hzb);have HO:Hid (∀w,Calls Tryz.prog 52 #[.int .i64 1] w fun e w'=>e=.returned (.agg #[.bool false,.string (E 1)])∧Below w.heap.size w w'):=fun w=>riof_c 1 w (by decide) (by decide)
 have HPR:=Lib.hid (fun bl bz w=>rproductS_c p q c g z bl bz w hp hq (pedE_grp he) hc hg hzb);have hB:=blk2a w #[Value.string (E p),Value.string (E q),Value.string (E g),Value.string (E h)] #[.bool (sg z),.string (E z.natAbs)] 26 28;have hI:=blk2b w #[Value.string (E p),Value.string (E q),Value.string (E g),Value.string (E h)] #[.bool (sg z),.string (E z.natAbs)] 26 28;have hBW:=b2 w (.cells #[Value.string (E p),Value.string (E q),Value.string (E g),Value.string (E h)] 26) (.cells #[.bool (sg z),.string (E z.natAbs)] 28);clear hp hq hgb hhb hcb hzb he hc hg;go_enter Tryz.func67,Tryz.ntmps67
 have hBg0:=hB.gcell 0;have hBg1:=hB.gcell 1;have hBg2:=hB.gcell 2;have hBg3:=hB.gcell 3;have hIg0:=hI.gcell 0;have hIg1:=hI.gcell 1;go_wp2_with fail
 refine wp_region_gw (by kernel_rfl) (by kernel_rfl) ?_;repeat (go_big_quiet_step (first | (go_at_call 73;exact gw_of (HV.out _)) | (go_at_call 117;exact gw_of (HE.out _))))
 refine wpQuiet_nil ?_;rintro w3 ⟨xw3,rfl⟩;have hb3:=gw_below xw3;generalize gw xw3=w3 at hb3;replace hB:=hB.after hb3;replace hI:=hI.after hb3;replace hBW:=bt hBW hb3;go_upto_region 4 with fail
 go_cut [6,7] (fun s6 s7 wx=>s6=.string (E (shiftN p c g z))∧s7=.int .i64 0∧Below w3.heap.size w3 wx)
 case first =>
  refine wp_region_inv (vSf w.heap.size p q g c z) 99 29 (by kernel_rfl) rfl (by kernel_rfl) ?_ ?_ (by kernel_rfl)
  ·intro hsl done a' w' i o hI9 ho hun hpre;have hi:=(Array.getElem?_eq_some_iff.1 ho).1;have hst:=vSf_st w.heap.size p q g c z;have hwz:=hI9.bw.size;match i,hi,ho,hun,hpre with
   | 0,_,ho,hun,hpre =>
    simp at ho;subst ho;refine hI9.op (d:=17) hsl hst hwz rfl rfl rfl (by decide) hpre ?_;simp only [List.getElem_toArray,List.getElem_cons_zero,List.getElem_cons_succ] at hpre ⊢;have q3:=hI9.keep 3 (.pointer (some ⟨w.heap.size,0,none⟩)) rfl (by kernel_rfl);refine wp_val (v:=.pointer (some ⟨w.heap.size,0,none⟩)) (by simp [execOp,q3,go_sem]) rfl
   | 1,_,ho,hun,hpre =>
    simp at ho;subst ho;refine hI9.op (d:=18) hsl hst hwz rfl rfl rfl (by decide) hpre ?_;simp only [List.getElem_toArray,List.getElem_cons_zero,List.getElem_cons_succ] at hpre ⊢;obtain ⟨v17,ev17,hv17⟩:=hI9.dn 0 _ 17 rfl (hpre { on:=0,ground:=Ground.data } (by simp) rfl) rfl;have qv17:=eval_of ev17;have hBx:=hB.after hI9.bw;have hBl:=hBx.lt;have x0:=hBx.cell 0;have x1:=hBx.cell 1;have x2:=hBx.cell 2;have x3:=hBx.cell 3;obtain rfl:v17=.pointer (some ⟨w.heap.size,0,none⟩):=hv17;refine wp_val (v:=.agg #[.string (E p),.string (E q)]) (by simp [execOp,ev17,go_sem,x0,x1]) rfl
   | 2,_,ho,hun,hpre =>
    simp at ho;subst ho;refine hI9.op (d:=19) hsl hst hwz rfl rfl rfl (by decide) hpre ?_;simp only [List.getElem_toArray,List.getElem_cons_zero,List.getElem_cons_succ] at hpre ⊢;have q1:=hI9.keep 1 (.string (E c)) rfl (by kernel_rfl);refine wp_val (v:=.string (E c)) (by simp [execOp,q1,go_sem]) rfl
   | 3,_,ho,hun,hpre =>
    simp at ho;subst ho;refine hI9.op (d:=20) hsl hst hwz rfl rfl rfl (by decide) hpre ?_;simp only [List.getElem_toArray,List.getElem_cons_zero,List.getElem_cons_succ] at hpre ⊢;have q3:=hI9.keep 3 (.pointer (some ⟨w.heap.size,0,none⟩)) rfl (by kernel_rfl);refine wp_val (v:=.pointer (some ⟨w.heap.size,2,none⟩)) (by simp [execOp,q3,go_sem]) rfl
   | 4,_,ho,hun,hpre =>
    simp at ho;subst ho;refine hI9.op (d:=21) hsl hst hwz rfl rfl rfl (by decide) hpre ?_;simp only [List.getElem_toArray,List.getElem_cons_zero,List.getElem_cons_succ] at hpre ⊢;obtain ⟨v20,ev20,hv20⟩:=hI9.dn 3 _ 20 rfl (hpre { on:=3,ground:=Ground.data } (by simp) rfl) rfl;have qv20:=eval_of ev20;have hBx:=hB.after hI9.bw;have hBl:=hBx.lt;have x0:=hBx.cell 0;have x1:=hBx.cell 1;have x2:=hBx.cell 2;have x3:=hBx.cell 3;obtain rfl:v20=.pointer (some ⟨w.heap.size,2,none⟩):=hv20;refine wp_val (v:=.string (E g)) (by simp [execOp,ev20,go_sem,x2]) rfl
   | 5,_,ho,hun,hpre =>
    simp at ho;subst ho;refine hI9.op (d:=22) hsl hst hwz rfl rfl rfl (by decide) hpre ?_;simp only [List.getElem_toArray,List.getElem_cons_zero,List.getElem_cons_succ] at hpre ⊢;obtain ⟨v19,ev19,hv19⟩:=hI9.dn 2 _ 19 rfl (hpre { on:=2,ground:=Ground.data } (by simp) rfl) rfl;have qv19:=eval_of ev19;obtain ⟨v21,ev21,hv21⟩:=hI9.dn 4 _ 21 rfl (hpre { on:=4,ground:=Ground.data } (by simp) rfl) rfl;have qv21:=eval_of ev21;obtain rfl:v19=.string (E c):=hv19;obtain rfl:v21=.string (E g):=hv21;have hN:=Blk.new w' #[.string (E c),.string (E g)] 22;simp [Oper.wp,execOp,ev19,ev21,go_sem];exact ⟨_,rfl,b1 _ _,w'.heap.size,rfl,hN⟩
   | 6,_,ho,hun,hpre =>
    simp at ho;subst ho;refine hI9.op (d:=23) hsl hst hwz rfl rfl rfl (by decide) hpre ?_;simp only [List.getElem_toArray,List.getElem_cons_zero,List.getElem_cons_succ] at hpre ⊢;refine wp_callX 52 #[.const (.int .i64 1)] #[2] rfl (enters_of Tryz.func52 (by kernel_rfl) rfl) ?_;simp only [List.map_toArray,List.map_cons,List.map_nil,eval_const];refine (HO.out w').mono ?_;rintro e w'' ⟨rfl,hb⟩;exact ⟨_,rfl,hb,rfl⟩
   | 7,_,ho,hun,hpre =>
    simp at ho;subst ho;refine hI9.op (d:=24) hsl hst hwz rfl rfl rfl (by decide) hpre ?_;simp only [List.getElem_toArray,List.getElem_cons_zero,List.getElem_cons_succ] at hpre ⊢;have q5:=hI9.keep 5 (.pointer (some ⟨w.heap.size+1,0,none⟩)) rfl (by kernel_rfl);have hIx:=hI.after hI9.bw;have hIl:=hIx.lt;have x0:=hIx.cell 0;have x1:=hIx.cell 1;refine wp_val (v:=.agg #[.bool (sg z),.string (E z.natAbs)]) (by simp [execOp,q5,go_sem,x0,x1]) rfl
   | 8,_,ho,hun,hpre =>
    simp at ho;subst ho;refine hI9.op (d:=25) hsl hst hwz rfl rfl rfl (by decide) hpre ?_;simp only [List.getElem_toArray,List.getElem_cons_zero,List.getElem_cons_succ] at hpre ⊢;obtain ⟨v23,ev23,hv23⟩:=hI9.dn 6 _ 23 rfl (hpre { on:=6,ground:=Ground.data } (by simp) rfl) rfl;have qv23:=eval_of ev23;obtain ⟨v24,ev24,hv24⟩:=hI9.dn 7 _ 24 rfl (hpre { on:=7,ground:=Ground.data } (by simp) rfl) rfl;have qv24:=eval_of ev24;obtain rfl:v23=.agg #[.bool false,.string (E 1)]:=hv23;obtain rfl:v24=.agg #[.bool (sg z),.string (E z.natAbs)]:=hv24;have hN:=Blk.new w' #[.bool false,.string (E 1),.bool (sg z),.string (E z.natAbs)] 28;simp [Oper.wp,execOp,ev23,ev24,go_sem];exact ⟨_,rfl,b1 _ _,w'.heap.size,rfl,hN⟩
   | 9,_,ho,hun,hpre =>
    simp at ho;subst ho;refine hI9.op (d:=26) hsl hst hwz rfl rfl rfl (by decide) hpre ?_;simp only [List.getElem_toArray,List.getElem_cons_zero,List.getElem_cons_succ] at hpre ⊢;obtain ⟨v18,ev18,hv18⟩:=hI9.dn 1 _ 18 rfl (hpre { on:=1,ground:=Ground.data } (by simp) rfl) rfl;have qv18:=eval_of ev18;obtain ⟨v22,ev22,hv22⟩:=hI9.dn 5 _ 22 rfl (hpre { on:=5,ground:=Ground.data } (by simp) rfl) rfl;have qv22:=eval_of ev22;obtain ⟨v25,ev25,hv25⟩:=hI9.dn 8 _ 25 rfl (hpre { on:=8,ground:=Ground.data } (by simp) rfl) rfl;have qv25:=eval_of ev25;obtain rfl:v18=.agg #[.string (E p),.string (E q)]:=hv18;obtain ⟨b1x,rfl,hL⟩:=hv22;obtain ⟨b2x,rfl,hZ⟩:=hv25;refine wp_callX 81 #[.tmp 18,.tmp 22,.tmp 25] #[24,45,37] rfl (enters_of Tryz.func81 (by kernel_rfl) rfl) ?_;simp only [List.map_toArray,List.map_cons,List.map_nil,qv18,qv22,qv25];refine (HPR.out b1x b2x w' hL hZ).mono ?_;rintro e w'' ⟨rfl,hb⟩;exact ⟨_,rfl,hb,rfl⟩
   | 10,_,ho,hun,hpre =>
    simp at ho;subst ho;refine hI9.op (d:=27) hsl hst hwz rfl rfl rfl (by decide) hpre ?_;simp only [List.getElem_toArray,List.getElem_cons_zero,List.getElem_cons_succ] at hpre ⊢;obtain ⟨v26,ev26,hv26⟩:=hI9.dn 9 _ 26 rfl (hpre { on:=9,ground:=Ground.data } (by simp) rfl) rfl;have qv26:=eval_of ev26;obtain rfl:v26=.tuple #[.string (E (shiftN p c g z)),.int .i64 0]:=hv26;refine wp_val (v:=.string (E (shiftN p c g z))) (by simp [execOp,ev26,go_sem]) rfl
   | 11,_,ho,hun,hpre =>
    simp at ho;subst ho;refine hI9.op (d:=28) hsl hst hwz rfl rfl rfl (by decide) hpre ?_;simp only [List.getElem_toArray,List.getElem_cons_zero,List.getElem_cons_succ] at hpre ⊢;obtain ⟨v26,ev26,hv26⟩:=hI9.dn 9 _ 26 rfl (hpre { on:=9,ground:=Ground.data } (by simp) rfl) rfl;have qv26:=eval_of ev26;obtain rfl:v26=.tuple #[.string (E (shiftN p c g z)),.int .i64 0]:=hv26;refine wp_val (v:=.int .i64 0) (by simp [execOp,ev26,go_sem]) rfl
   | 12,_,ho,hun,hpre =>
    simp at ho;subst ho;refine hI9.op (d:=6) hsl hst hwz rfl rfl rfl (by decide) hpre ?_;simp only [List.getElem_toArray,List.getElem_cons_zero,List.getElem_cons_succ] at hpre ⊢;obtain ⟨v27,ev27,hv27⟩:=hI9.dn 10 _ 27 rfl (hpre { on:=10,ground:=Ground.data } (by simp) rfl) rfl;have qv27:=eval_of ev27;refine wp_val (v:=v27) (by simp [execOp,ev27,go_sem]) ?_;exact hv27
   | 13,_,ho,hun,hpre =>
    simp at ho;subst ho;refine hI9.op (d:=7) hsl hst hwz rfl rfl rfl (by decide) hpre ?_;simp only [List.getElem_toArray,List.getElem_cons_zero,List.getElem_cons_succ] at hpre ⊢;obtain ⟨v28,ev28,hv28⟩:=hI9.dn 11 _ 28 rfl (hpre { on:=11,ground:=Ground.data } (by simp) rfl) rfl;have qv28:=eval_of ev28;refine wp_val (v:=v28) (by simp [execOp,ev28,go_sem]) ?_;exact hv28
  ·intro done a' w' hI9 hd;obtain ⟨f,hf,hv⟩:=hI9.all hd;have h12:=hv 12 _ 6 rfl rfl;have h13:=hv 13 _ 7 rfl rfl;subst hf;simp only [putAll,List.size_toArray,List.length_cons,List.length_nil,Nat.reduceAdd,List.getElem?_toArray,List.getElem?_cons_zero,List.getElem?_cons_succ,Option.bind_some,Act.put,List.setIfInBounds_toArray,List.set_cons_zero,List.set_cons_succ];go_wp2_with fail
   go_meet
   exact ⟨h12,h13,hI9.bw⟩
 case rest =>
  obtain ⟨rfl,rfl,hbc⟩:=hcut;go_wp2;go_ret2
  exact ⟨rfl,bt hBW hbc⟩
end
end Go.Proofs.YtfgandecbkbleaaGreatDoor
