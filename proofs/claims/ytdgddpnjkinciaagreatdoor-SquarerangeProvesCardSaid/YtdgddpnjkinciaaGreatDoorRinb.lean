/- Regions that draw their order,by what holds of each operation that is done and of the world: for regions that append and store. -/
import Derived.Test.YtdgddpnjkinciaaGreatDoorNat4
import Derived.StillTailTactics
import Derived.Orders
import Derived.Below
import Derived.RegionTactic
import Derived.Shelf.Abstract
set_option linter.all false
set_option maxRecDepth 100000
set_option maxHeartbeats 16000000
namespace Go.Proofs.YtdgddpnjkinciaaGreatDoor
section
/- A region that draws its order: its first n operations are quiet in a class of worlds,the others follow in the one order that their edges leave. Then one walk in the order of the text serves every order. (The kit has this for operations that leave the very world;here the calls of the head may make memory.) -/
open Go.RowKit
section
variable {P:Program} {ops:Array Oper} {md:Region.Mode} {C:World→Prop}
def headQ (P:Program) (md:Region.Mode) (ops:Array Oper) (C:World→Prop) (n:Nat) (L:Array Bool→Act→Prop):Nat→Array Bool→Act→Prop
 | 0,done,a=>L done a
 | f+1,done,a=>Region.ready md ops done≠[] ∧
   ∀i∈Region.ready md ops done,i<n∧qOp P ops C i (headQ P md ops C n L f (done.setIfInBounds i true)) a
theorem headQ_any {n g:Nat} {L:Array Bool→Act→Prop} {Q:Exit→Act→World→Prop}
  (hL:∀done a w,C w→L done a→wpAny P md ops Q g done a w) :
  ∀(f:Nat) (done:Array Bool) (a:Act) (w:World),C w→headQ P md ops C n L f done a→wpAny P md ops Q (f+g) done a w:=by
 intro f;induction f with
 | zero=>intro done a w hC h;rw[Nat.zero_add];exact hL _ _ _ hC h
 | succ f ih =>
  intro done a w hC h;rw[show f+1+g=(f+g)+1 by omega];exact⟨fun h0=>absurd h0 h.1,fun i hi=>wpOp_of_qOp hC (fun a' w' hb h'=>ih _ a' w' hb h') (h.2 i hi).2⟩
theorem headQ_first {n i:Nat} {oi:Oper} {v:Value} {L:Array Bool→Act→Prop} (hi:ops[i]?=some oi)
  (hg:∀(j:Nat) (o:Oper) cs b,ops[j]?=some o→o.op≠.select cs b)
  (hs:Region.sinkB md ops n=true) (hc:Region.chainB md ops n=true) (hn:n<ops.size) (ht:i<n)
  (hL:∀done a,L done a→∀j∈Region.ready md ops done,n≤j) :
  ∀(f:Nat) (done:Array Bool) (a:Act),HeadInv md ops n done →
   (∀j oj,ops[j]?=some oj→j≠i→done.getD j true=false→(∀e∈oj.after,Region.binds md e=true→e.on≠i)→oi.apart ops oj=true) →
   i∈Region.ready md ops done→YieldsIn P ops C oi v a →
   headQ P md ops C n L f (done.setIfInBounds i true) (a.put oi.dst v)→headQ P md ops C n L (f+1) done a:=by
 intro f;induction f with
 | zero =>
  intro done a inv _ hr hy H;refine⟨List.ne_nil_of_mem hr,fun j hj=>?_⟩
  have hl:j<n:=by
   rcases Nat.lt_or_ge j n with h | h
   ·exact h
   ·exact absurd hj (tail_waits hs hc hn inv _ i rfl ht (mem_ready.1 hr).1 j h)
  by_cases hd:j=i
  ·subst hd;exact⟨hl,hy.qOp hi H⟩
  ·exact absurd (hL _ _ H j (ready_mono hj hd)) (by omega)
 | succ f ih =>
  intro done a inv hf hr hy H;have hu:=(mem_ready.1 hr).1;refine⟨List.ne_nil_of_mem hr,fun j hj=>?_⟩
  have hl:j<n:=by
   rcases Nat.lt_or_ge j n with h | h
   ·exact h
   ·exact absurd hj (tail_waits hs hc hn inv _ i rfl ht hu j h)
  refine⟨hl,?_⟩;by_cases hd:j=i
  ·subst hd;exact hy.qOp hi H
  obtain⟨hh,oj,hm,ho⟩:=mem_ready.1 hj
  have hp:∀e∈oj.after,Region.binds md e=true→e.on≠i:=by
   intro e he hb hw;have h1:=ho e he hb;rw[hw,getD_both hu]at h1;exact Bool.noConfusion h1
  have h2:=qOp_put hm (hf j oj hm hd hh hp) (fun cs b=>hg i oi cs b hi) (fun cs b=>hg j oj cs b hm) hy (H.2 j (ready_mono hj hd)).2;refine qOp_mono (fun a' h3=>?_) h2;refine ih (done.setIfInBounds j true) a' (inv.set hj hl) ?_ (ready_mono hr (Ne.symm hd)) h3.1 ?_
  ·intro k ok hk hx hq hz;refine hf k ok hk hx ?_ hz;by_cases hv:j=k
   ·subst hv;exact hh
   ·rwa [getD_set_ne true hv]at hq
  ·rw[Array.setIfInBounds_comm _ _ hd];exact h3.2
theorem headQ_lex {n g:Nat} {Lq:Act→Prop} (hb:Region.noSelect ops=true) (hs:Region.sinkB md ops n=true) (hc:Region.chainB md ops n=true) (hn:n<ops.size) :
  ∀(l:List Oper) (k:Nat) (done:Array Bool) (a:Act),(∀j,j<l.length→l[j]?=ops[k+j]?)→k+l.length=n→HeadInv md ops n done →
  Region.lexHead md ops g l.length k done=true→wpQuiet P ops C Lq l a →
  headQ P md ops C n (fun d a'=>Region.seqB md ops g n d=true∧Lq a') l.length done a:=by
 intro l;induction l with
 | nil =>
  intro k done a _ hk _ hB h;obtain rfl:k=n:=by simpa using hk
  exact⟨by simpa [Region.lexHead] using hB,h⟩
 | cons o l ih =>
  intro k done a hl hk inv hB h;have h0:ops[k]?=some o:=by simpa using (hl 0 (by simp)).symm
  simp only[List.length_cons,Region.lexHead,Bool.and_eq_true]at hB;obtain⟨⟨hr,hf⟩,hg⟩:=hB;simp only[List.length_cons]at hk;have hd:k<n:=by omega
  have he:k∈Region.ready md ops done:=by simpa using hr
  have hh:qOp P ops C k (wpQuiet P ops C Lq l) a:=by unfold qOp;simp only[h0];exact h
  obtain⟨v,hy,hK⟩:=yieldsIn_of_qOp h0 hh;refine headQ_first h0 (Region.noSelect_spec hb) hs hc hn hd (fun _ _ hL=>seqB_ready hL.1) l.length done a inv (Region.free_spec h0 hf) he hy ?_;refine ih (k+1) _ _ (fun j hj=>?_) (by omega) (inv.set he hd) hg hK;have:=hl (j+1) (by simp;omega);simpa [Nat.add_assoc,Nat.add_comm 1 j] using this
theorem wp_region_quiet_tail {id:Nat} {Q:Exit→Act→World→Prop} {a:Act} {w:World} {l:List Oper} (n:Nat) (hm:P.follows .mixedOrders=true) (hB:Region.lexTailB .any l.toArray n=true)
  (hC:C { w with drawn:=w.drawn+1 }) (h:wpQuiet P l.toArray C (fun a'=>∀w',C w'→wpList P l.toArray Q (l.drop n) a' w') (l.take n) a):(Code.region id l.toArray true).wp P Q a w:=by
 simp only[Region.lexTailB,Bool.and_eq_true,decide_eq_true_eq]at hB;obtain⟨⟨⟨⟨hd,hn⟩,hs⟩,hc⟩,he⟩:=hB;have hh:n<l.length:=by simpa using hn
 have hb:(l.take n).length=n:=by simp;omega
 have hf:(l.drop n).length=l.toArray.size-n:=by simp
 have inv0:HeadInv .any l.toArray n (Array.replicate l.toArray.size false):=
  ⟨by simp,fun j oj _ hl=>by rw[getD_replicate_false]at hl;exact Bool.noConfusion hl,fun t _ ht=>getD_in (by simpa using ht) (getD_replicate_false _ _)⟩
 have H:=headQ_lex (C:=C) (md:=.any) (g:=l.toArray.size-n) hd hs hc hn (l.take n) 0 _ a
  (fun j hj=>by rw[hb]at hj;simp[hj]) (by simpa using hb) inv0 (by rw[hb];exact he) h
 refine wp_region_any hm ?_
 have H2:=headQ_any (Q:=Q) (g:=l.toArray.size-n) (fun done a' w' hg hL=>by
  have h3:=wpAny_of_seq (md:=.any) (Q':=Q) (l.drop n) n done a' w' (fun j=>by simp[List.getElem?_drop]) (by rw[hf];exact hL.1) (hL.2 w' hg);rwa [hf]at h3) _ _ _ _ hC H
 rw[hb,show n+(l.toArray.size-n)=l.toArray.size by omega]at H2;exact H2
end
def GW (w:World):Type:={ w':World // Bw w w' }
def gw {w:World} (x:GW w):World:=x.val
theorem gw_below {w:World} (x:GW w):Bw w (gw x):=x.property
instance (w:World):Nonempty (GW w):=⟨⟨w,Br⟩⟩
theorem gw_mk {w w':World} (h:Bw w w'):∃x:GW w,w'=gw x:=⟨⟨w',h⟩,rfl⟩
theorem gw_of {P:Program} {f:FuncId} {args:Array Value} {w:World} {x:GW w} {v:Value}
  (h:Calls P f args (gw x) fun e w''=>e=.returned v∧Below (gw x).heap.size (gw x) w''):Calls P f args (gw x) fun e w''=>e=.returned v∧∃y:GW w,w''=gw y:=
 h.mono fun _ _ ⟨he,hb⟩=>⟨he,gw_mk ((gw_below x).trans (hb.mono (gw_below x).size))⟩
theorem gw_same {P:Program} {f:FuncId} {args:Array Value} {w:World} {x:GW w} {v:Value}
  (h:Calls P f args (gw x) fun e w''=>e=.returned v∧gw x=w''):Calls P f args (gw x) fun e w''=>e=.returned v∧∃y:GW w,w''=gw y:=
 h.mono fun _ _ ⟨he,hb⟩=>⟨he,x,hb.symm⟩
theorem Blk.gw {w:World} {g:Nat} {T:TypeId} {cs:List Value} (h:Blk w g T cs) (x:GW w):Blk (gw x) g T cs:=h.after (gw_below x)
theorem Blk.gcell {w:World} {g:Nat} {T:TypeId} {cs:List Value} (h:Blk w g T cs) (j:Nat):∀x:GW w,(Proofs.YtdgddpnjkinciaaGreatDoor.gw x).cell? ⟨g,j,none⟩=cs[j]?:=fun x=>(h.gw x).cell j
theorem wp_region_gw {P:Program} {id:Nat} {Q:Exit→Act→World→Prop} {a:Act} {w:World} {l:List Oper} (hm:P.follows .mixedOrders=true) (hB:Region.lexB .any l.toArray=true)
  (h:wpQuiet P l.toArray (fun w'=>∃x:GW w,w'=gw x) (fun a'=>∀w',(∃x:GW w,w'=gw x)→Q .normal a' w') l a):(Code.region id l.toArray true).wp P Q a w:=
 wp_region_quiet (C:=fun w'=>∃x:GW w,w'=gw x) hm hB (gw_mk Br.drew) (by simpa using h)
theorem wp_region_gw_tail {P:Program} {id:Nat} {Q:Exit→Act→World→Prop} {a:Act} {w:World} {l:List Oper} (n:Nat) (hm:P.follows .mixedOrders=true) (hB:Region.lexTailB .any l.toArray n=true)
  (h:wpQuiet P l.toArray (fun w'=>∃x:GW w,w'=gw x) (fun a'=>∀w',(∃x:GW w,w'=gw x)→wpList P l.toArray Q (l.drop n) a' w') (l.take n) a):(Code.region id l.toArray true).wp P Q a w:=
 wp_region_quiet_tail n hm hB (gw_mk Br.drew) h
end
section
/- Regions that draw their order,by what holds of each operation that is done. -/
open Go.RowKit
abbrev RV:=Bool→Nat→Value→World→Prop
structure RInv (ops:Array Oper) (V:RV) (S:Nat) (w0:World) (a0:Act) (done:Array Bool) (a:Act) (w:World):Prop where
 sz:done.size=ops.size
 df:a.defers=a0.defers
 ts:a.tmps.size=a0.tmps.size
 bw:Bw w0 w
 un:∀k,(∀i o,ops[i]?=some o→done.getD i false=true→o.dst≠some k)→a.tmps[k]?=a0.tmps[k]?
 pr:∀i o,ops[i]?=some o→done.getD i false=true→∀e∈o.after,Region.binds .any e=true→done.getD e.on false=true
 dn:∀i o d,ops[i]?=some o→done.getD i false=true→o.dst=some d→∃v,a.tmps[d]?=some v∧V (done.getD S false) i v w
def slotsB (ops:Array Oper) (n:Nat):Bool:=
 (List.range ops.size).all fun i=>match (ops[i]?).bind (·.dst) with
  | some d=>decide (d<n)&&(List.range i).all (fun j=>(ops[j]?).bind (·.dst) != some d)
  | none=>true
theorem slots_lt {ops:Array Oper} {n i d:Nat} {o:Oper} (h:slotsB ops n=true) (ho:ops[i]?=some o) (hd:o.dst=some d):d<n:=by
 unfold slotsB at h;rw[List.all_eq_true]at h;have:=h i (List.mem_range.2 (Array.getElem?_eq_some_iff.1 ho).1);simp only[ho,Option.bind_some,hd,Bool.and_eq_true,decide_eq_true_eq]at this;exact this.1
theorem slots_ne {ops:Array Oper} {n i j d:Nat} {o q:Oper} (h:slotsB ops n=true) (ho:ops[i]?=some o) (hd:o.dst=some d) (hq:ops[j]?=some q) (he:q.dst=some d):i=j:=by
 unfold slotsB at h;rw[List.all_eq_true]at h;have hi:=(Array.getElem?_eq_some_iff.1 ho).1;have hj:=(Array.getElem?_eq_some_iff.1 hq).1;rcases Nat.lt_trichotomy i j with hl | hl | hl
 ·have:=h j (List.mem_range.2 hj);simp only[hq,Option.bind_some,he,Bool.and_eq_true,decide_eq_true_eq,List.all_eq_true]at this;have:=this.2 i (List.mem_range.2 hl);simp[ho,hd]at this
 ·exact hl
 ·have:=h i (List.mem_range.2 hi);simp only[ho,Option.bind_some,hd,Bool.and_eq_true,decide_eq_true_eq,List.all_eq_true]at this;have:=this.2 j (List.mem_range.2 hl);simp[hq,he]at this
theorem getD_set (done:Array Bool) (i j:Nat) (hi:i<done.size):(done.setIfInBounds i true).getD j false=if j=i then true else done.getD j false:=by
 rw[Array.getD_eq_getD_getElem?,Array.getD_eq_getD_getElem?,Array.getElem?_setIfInBounds];by_cases h:i=j
 ·subst h;simp[hi]
 ·rw[if_neg h,if_neg (fun e=>h e.symm)]
theorem RInv.put {ops:Array Oper} {V:RV} {S:Nat} {w0 w w':World} {a0 a:Act} {done:Array Bool} {i d:Nat} {o:Oper} {v:Value} (h:RInv ops V S w0 a0 done a w) (hs:slotsB ops a0.tmps.size=true) (ho:ops[i]?=some o) (hd:o.dst=some d) (hh:∀e∈o.after,Region.binds .any e=true→done.getD e.on false=true) 
  (hb:Bw w0 w') (hk:∀j q,ops[j]?=some q→j≠i→done.getD j false=true→∀u,V (done.getD S false) j u w→V ((done.setIfInBounds i true).getD S false) j u w') (hv:V ((done.setIfInBounds i true).getD S false) i v w'):RInv ops V S w0 a0 (done.setIfInBounds i true) (a.put o.dst v) w':=by
 have hi:i<done.size:=by rw[h.sz];exact (Array.getElem?_eq_some_iff.1 ho).1
 have hl:d<a.tmps.size:=by rw[h.ts];exact slots_lt hs ho hd
 have e1:(a.put o.dst v).tmps=a.tmps.setIfInBounds d v:=by rw[hd];rfl
 refine⟨by rw[Array.size_setIfInBounds];exact h.sz,by rw[hd];exact h.df,by rw[e1,Array.size_setIfInBounds];exact h.ts,hb,fun k hk=>?_,fun j q hq hc e he hj=>by
  rw[getD_set _ _ _ hi]at hc ⊢;split
  ·rfl
  ·rename_i hg;by_cases hf:j=i
   ·subst hf;rw[ho]at hq;injection hq with hq;subst hq
    exact hh e he hj
   ·rw[if_neg hf]at hc;exact h.pr j q hq hc e he hj,fun j q e hq hc he=>?_⟩
 ·have hg:d≠k:=fun e=>hk i o ho (by rw[getD_set _ _ _ hi,if_pos rfl]) (by rw[hd,e])
  rw[e1,Array.getElem?_setIfInBounds,if_neg hg];exact h.un k fun j q hq hc=>hk j q hq (by rw[getD_set _ _ _ hi];split <;> first | rfl | exact hc)
 ·rw[e1,Array.getElem?_setIfInBounds];by_cases hf:j=i
  ·subst hf;rw[ho]at hq;injection hq with hq;subst hq
   rw[hd]at he;injection he with he;subst he
   rw[if_pos rfl,if_pos hl];exact⟨v,rfl,hv⟩
  ·have hg:d≠e:=fun x=>hf (slots_ne hs hq (by rw[he,x]) ho hd)
   rw[getD_set _ _ _ hi,if_neg hf]at hc;rw[if_neg hg];obtain⟨u,h1,h2⟩:=h.dn j q e hq hc he;exact⟨u,h1,hk j q hq hf hc u h2⟩
theorem RInv.skip {ops:Array Oper} {V:RV} {S:Nat} {w0 w w':World} {a0 a:Act} {done:Array Bool} {i:Nat} {o:Oper} {v:Value} (h:RInv ops V S w0 a0 done a w) (ho:ops[i]?=some o) (hd:o.dst=none) (hg:∀e∈o.after,Region.binds .any e=true→done.getD e.on false=true) 
  (hb:Bw w0 w') (hk:∀j q,ops[j]?=some q→j≠i→done.getD j false=true→∀d u,q.dst=some d→a.tmps[d]?=some u→V (done.getD S false) j u w→V ((done.setIfInBounds i true).getD S false) j u w'):RInv ops V S w0 a0 (done.setIfInBounds i true) (a.put o.dst v) w':=by
 have hi:i<done.size:=by rw[h.sz];exact (Array.getElem?_eq_some_iff.1 ho).1
 have e1:(a.put o.dst v)=a:=by rw[hd];rfl
 rw[e1]
 refine⟨by rw[Array.size_setIfInBounds];exact h.sz,h.df,h.ts,hb,fun k hk=>h.un k fun j q hq hc=>hk j q hq (by rw[getD_set _ _ _ hi];split <;> first | rfl | exact hc),fun j q hq hc e he hh=>by
  rw[getD_set _ _ _ hi]at hc ⊢;split
  ·rfl
  ·rename_i hj;by_cases hf:j=i
   ·subst hf;rw[ho]at hq;injection hq with hq;subst hq
    exact hg e he hh
   ·rw[if_neg hf]at hc;exact h.pr j q hq hc e he hh,fun j q e hq hc he=>?_⟩
 by_cases hf:j=i
 ·subst hf;rw[ho]at hq;injection hq with hq;subst hq
  rw[hd]at he;cases he
 ·rw[getD_set _ _ _ hi,if_neg hf]at hc;obtain⟨u,h1,h2⟩:=h.dn j q e hq hc he;exact⟨u,h1,hk j q hq hf hc e u he h1 h2⟩
theorem count_set (l:List Bool) (i:Nat) (h:l[i]?=some false):(l.set i true).count false+1=l.count false:=by
 induction l generalizing i with
 | nil=>simp at h
 | cons x t ih =>
  cases i with
  | zero=>simp at h;subst h;simp
  | succ i=>simp at h;have:=ih i h;simp only[List.set_cons_succ,List.count_cons];omega
theorem wpAny_inv {P:Program} {ops:Array Oper} {md:Region.Mode} {Q:Exit→Act→World→Prop} (I:Array Bool→Act→World→Prop) (hb:∀done a w,I done a w→done.size=ops.size)
  (hs:∀done a w i,I done a w→i∈Region.ready md ops done→wpOp P ops Q i (I (done.setIfInBounds i true)) a w)
  (he:∀done a w,I done a w→Region.ready md ops done=[]→Q .normal a w) :
  ∀(f:Nat) (done:Array Bool) (a:Act) (w:World),I done a w→done.toList.count false≤f→wpAny P md ops Q f done a w:=by
 intro f;induction f with
 | zero =>
  intro done a w hI hc
  have hr:Region.ready md ops done=[]:=by
   apply List.eq_nil_iff_forall_not_mem.2
   intro i hi;have h1:=(mem_ready.1 hi).1;have h2:done.toList.count false=0:=by omega
   rw[List.count_eq_zero]at h2;rw[Array.getD_eq_getD_getElem?]at h1;cases h3:done[i]? with
   | none=>rw[h3]at h1;simp at h1
   | some b =>
    rw[h3]at h1;simp at h1;subst h1;exact h2 (Array.mem_toList_iff.2 (Array.mem_of_getElem? h3))
  exact⟨hr,he _ _ _ hI hr⟩
 | succ f ih =>
  intro done a w hI hc;refine⟨he _ _ _ hI,fun i hi=>wpOp_mono (fun a' w' h=>ih _ a' w' h ?_) (hs _ _ _ i hI hi)⟩;have h1:=(mem_ready.1 hi).1;rw[Array.getD_eq_getD_getElem?]at h1;cases h3:done[i]? with
  | none=>rw[h3]at h1;simp at h1
  | some b =>
   rw[h3]at h1;simp at h1;subst h1;have:=count_set done.toList i (by simpa using h3);rw[Array.toList_setIfInBounds];omega
def backB (ops:Array Oper):Bool:=(List.range ops.size).all fun i=>match ops[i]? with
 | some o=>o.after.all fun e=>!(Region.binds .any e) || decide (e.on<i)
 | none=>true
theorem back_done {ops:Array Oper} (h:backB ops=true) (done:Array Bool) (hs:done.size=ops.size) (hr:Region.ready .any ops done=[]):∀i,i<ops.size→done.getD i false=true:=by
 intro i;induction i using Nat.strongRecOn with
 | _ i ih =>
  intro hi;apply Classical.byContradiction
  intro hn
  have hm:i∈Region.ready .any ops done:=by
   refine mem_ready.2 ⟨?_,ops[i],Array.getElem?_eq_getElem hi,fun e he hb=>?_⟩
   ·have h3:i<done.size:=by omega
    simp only[Array.getD_eq_getD_getElem?,Array.getElem?_eq_getElem h3,Option.getD_some,Bool.not_eq_true]at hn ⊢;exact hn
   ·unfold backB at h;rw[List.all_eq_true]at h;have:=h i (List.mem_range.2 hi);rw[Array.getElem?_eq_getElem hi]at this;simp only[Array.all_eq_true_iff_forall_mem]at this;have h5:=this e he;rw[hb]at h5;simp only[Bool.not_true,Bool.false_or,decide_eq_true_eq]at h5;exact ih e.on h5 (by omega)
  rw[hr]at hm;cases hm
theorem wp_region_inv {P:Program} {id:Nat} {ops:Array Oper} {Q:Exit→Act→World→Prop} {a:Act} {w:World} (V:RV) (S n:Nat) (hm:P.follows .mixedOrders=true) (hn:a.tmps.size=n) (hc:slotsB ops n=true)
  (hs:slotsB ops a.tmps.size=true→∀done a' w' i o,RInv ops V S w a done a' w'→ops[i]?=some o→done.getD i false=false→(∀e∈o.after,Region.binds .any e=true→done.getD e.on false=true)→wpOp P ops Q i (RInv ops V S w a (done.setIfInBounds i true)) a' w')
  (he:∀done a' w',RInv ops V S w a done a' w'→(∀i,i<ops.size→done.getD i false=true)→Q .normal a' w') (hf:backB ops=true):(Code.region id ops true).wp P Q a w:=by
 refine wp_region_any hm ?_;refine wpAny_inv (RInv ops V S w a) (fun _ _ _ h=>h.sz) (fun done a' w' i hI hi=>?_) (fun done a' w' hI hr=>he done a' w' hI (back_done hf done hI.sz hr)) _ _ _ _ ?_ ?_
 ·obtain⟨hb,o,ho,h⟩:=mem_ready.1 hi;refine hs (by rw[hn];exact hc) done a' w' i o hI ho ?_ h;rw[Array.getD_eq_getD_getElem?]at hb ⊢;cases hx:done[i]? with
  | none=>rfl
  | some b=>rw[hx]at hb;exact hb
 ·refine⟨by simp,rfl,rfl,Br.drew,fun _ _=>rfl,fun i o ho hd=>?_,fun i o d ho hd _=>?_⟩
  ·rw[Array.getD_eq_getD_getElem?]at hd;simp only[Array.getElem?_replicate]at hd;split at hd <;> simp at hd
  rw[Array.getD_eq_getD_getElem?]at hd;simp only[Array.getElem?_replicate]at hd;split at hd <;> simp at hd
 ·simp
def slotF (ops:Array Oper) (a:Act) (i:Nat):Value:=match (ops[i]?).bind (·.dst) with
 | some d=>a.tmps.getD d undef
 | none=>undef
def putAll (ops:Array Oper) (f:Nat→Value) (a:Act):Nat→Act
 | 0=>a
 | n+1=>(putAll ops f a n).put ((ops[n]?).bind (·.dst)) (f n)
theorem putAll_at {ops:Array Oper} {a a':Act} (hs:a'.tmps.size=a.tmps.size) (n k:Nat):(putAll ops (slotF ops a') a n).tmps.size=a.tmps.size ∧
  ((∃i,i<n∧(ops[i]?).bind (·.dst)=some k)→(putAll ops (slotF ops a') a n).tmps[k]?=a'.tmps[k]?) ∧
  ((∀i,i<n→(ops[i]?).bind (·.dst)≠some k)→(putAll ops (slotF ops a') a n).tmps[k]?=a.tmps[k]?) ∧
  (putAll ops (slotF ops a') a n).defers=a.defers:=by
 induction n with
 | zero=>exact⟨rfl,fun ⟨i,h,_⟩=>absurd h (Nat.not_lt_zero _),fun _=>rfl,rfl⟩
 | succ n ih =>
  obtain⟨h1,h2,h3,h4⟩:=ih;rw[putAll];cases hd:(ops[n]?).bind (·.dst) with
  | none =>
   refine⟨h1,fun hx=>h2 ?_,fun h=>h3 fun i hi=>h i (by omega),h4⟩;obtain⟨i,hi,he⟩:=hx;refine⟨i,?_,he⟩;by_cases e:i=n
   ·subst e;rw[hd]at he;cases he
   ·omega
  | some d =>
   have ht:∀v,(Act.put (putAll ops (slotF ops a') a n) (some d) v).tmps=(putAll ops (slotF ops a') a n).tmps.setIfInBounds d v:=fun _=>rfl
   refine⟨by rw[ht,Array.size_setIfInBounds];exact h1,fun hx=>?_,fun h=>?_,h4⟩
   ·obtain⟨i,hi,he⟩:=hx;rw[ht,Array.getElem?_setIfInBounds,h1];by_cases e:d=k
    ·subst e;rw[if_pos rfl];by_cases hl:d<a.tmps.size
     ·rw[if_pos hl];have e0:slotF ops a' n=a'.tmps.getD d undef:=by unfold slotF;rw[hd]
      rw[e0];rw[Array.getD_eq_getD_getElem?,Array.getElem?_eq_getElem (by rw[hs];exact hl)];rfl
     ·rw[if_neg hl,Array.getElem?_eq_none (by rw[hs];exact Nat.not_lt.1 hl)]
    ·rw[if_neg e];refine h2 ⟨i,?_,he⟩;by_cases e2:i=n
     ·subst e2;rw[hd]at he;injection he with he;exact absurd he e
     ·omega
   ·rw[ht,Array.getElem?_setIfInBounds];have e:d≠k:=fun e=>h n (by omega) (by rw[hd,e])
    rw[if_neg e];exact h3 fun i hi=>h i (by omega)
theorem RInv.all {ops:Array Oper} {V:RV} {S:Nat} {w0 w:World} {a0 a:Act} {done:Array Bool} (h:RInv ops V S w0 a0 done a w) (hd:∀i,i<ops.size→done.getD i false=true) :
  ∃f:Nat→Value,a=putAll ops f a0 ops.size∧∀i o d,ops[i]?=some o→o.dst=some d→V (done.getD S false) i (f i) w:=by
 refine⟨slotF ops a,?_,fun i o d ho hb=>?_⟩
 ·have ht:a.tmps=(putAll ops (slotF ops a) a0 ops.size).tmps:=by
   apply Array.ext_getElem?
   intro k;obtain⟨_,h2,h3,_⟩:=putAll_at (ops:=ops) (a:=a0) (a':=a) h.ts ops.size k;by_cases he:∃i,i<ops.size∧(ops[i]?).bind (·.dst)=some k
   ·exact (h2 he).symm
   ·rw[h3 fun i hi e=>he ⟨i,hi,e⟩];refine h.un k fun i o ho _ e=>he ⟨i,(Array.getElem?_eq_some_iff.1 ho).1,by rw[ho];exact e⟩
  have hf:=(putAll_at (ops:=ops) (a:=a0) (a':=a) h.ts ops.size 0).2.2.2;generalize putAll ops (slotF ops a) a0 ops.size=b at ht hf ⊢;obtain⟨bt1,bd1⟩:=b;obtain⟨at1,ad1⟩:=a;have:=h.df;simp only[]at ht hf this ⊢;subst ht;rw[hf,this]
 ·obtain⟨v,h1,h2⟩:=h.dn i o d ho (hd i (Array.getElem?_eq_some_iff.1 ho).1) hb;have e0:slotF ops a i=v:=by unfold slotF;simp only[ho,Option.bind_some,hb,Array.getD_eq_getD_getElem?,h1,Option.getD_some]
  rw[e0];exact h2
theorem RInv.op {P:Program} {ops:Array Oper} {V:RV} {S:Nat} {Q:Exit→Act→World→Prop} {w0 w:World} {a0 a:Act} {done:Array Bool} {i d:Nat} {o:Oper} (h:RInv ops V S w0 a0 done a w) (hs:slotsB ops a0.tmps.size=true) (he:∀b j u w w',Bw w w'→V b j u w→V b j u w')
  (hf:w0.heap.size≤w.heap.size) (ho:ops[i]?=some o) (hd:o.dst=some d) (hg:o.guard=none) (hS:i≠S) (hc:∀e∈o.after,Region.binds .any e=true→done.getD e.on false=true) 
  (hh:Oper.wp P o a w (fun a' w'=>∃v,a'=a.put o.dst v∧Bw w w'∧V (done.getD S false) i v w') Q):wpOp P ops Q i (RInv ops V S w0 a0 (done.setIfInBounds i true)) a w:=by
 refine wpOp_step ho fun K' hK=>?_
 have hw:Region.wanted o (yielded ops a.tmps)=true:=by simp[Region.wanted,hg]
 rw[if_pos hw];refine Oper.wp_mono (fun a' w' hx=>hK a' w' ?_) hh;obtain⟨v,rfl,hb,hv⟩:=hx;have hi:i<done.size:=by rw[h.sz];exact (Array.getElem?_eq_some_iff.1 ho).1
 have e:(done.setIfInBounds i true).getD S false=done.getD S false:=by rw[getD_set _ _ _ hi,if_neg (fun e=>hS e.symm)]
 exact h.put hs ho hd hc (h.bw.trans (hb.mono hf)) (fun j q _ _ _ u hu=>by rw[e];exact he _ _ _ _ _ hb hu) (by rw[e];exact hv)
theorem wp_val {P:Program} {o:Oper} {a:Act} {w:World} {Q:Exit→Act→World→Prop} {v:Value} {R:Value→World→Prop} (hr:(execOp a.eval o).run P w=.ok (.value v) w) (hv:R v w) :
  Oper.wp P o a w (fun a' w'=>∃v,a'=a.put o.dst v∧Bw w w'∧R v w') Q:=by
 unfold Oper.wp;rw[hr];exact⟨v,rfl,Br,hv⟩
theorem wp_callX {P:Program} {o:Oper} {a:Act} {w:World} {Q:Exit→Act→World→Prop} (f:FuncId) (xs:Array Operand) (ts:Array TypeId)
  (ho:o.op=.call { callee:=.value (.func f),args:=xs,argTypes:=ts }) (hE:∀args w,(callFunc f args).run P w=.ok (.enter f args) w) {R:Value→World→Prop}
  (hc:Calls P f (xs.map a.eval) w fun e w'=>∃v,e=.returned v∧Bw w w'∧R v w'):Oper.wp P o a w (fun a' w'=>∃v,a'=a.put o.dst v∧Bw w w'∧R v w') Q:=by
 have hd:(execOp a.eval o).run P w=.ok (.enter f (xs.map a.eval)) w:=by
  simp[execOp,ho,resolve,invoke,go_sem,hE]
 unfold Oper.wp;rw[hd,Oper.upon_enter];refine hc.mono fun e w' he=>?_
 obtain⟨v,rfl,hb,hR⟩:=he;exact⟨v,rfl,hb,hR⟩
theorem eval_of {a:Act} {d:Nat} {v:Value} (h:a.tmps[d]?=some v):a.eval (.tmp d)=v:=by
 show a.tmps.getD d undef=v;rw[Array.getD_eq_getD_getElem?,h];rfl
theorem RInv.keep {ops:Array Oper} {V:RV} {S:Nat} {w0 w:World} {a0 a:Act} {done:Array Bool} (h:RInv ops V S w0 a0 done a w) (k:Nat) (v:Value) (hv:a0.tmps[k]?=some v) (hk:((List.range ops.size).all fun i=>(ops[i]?).bind (·.dst) != some k)=true):a.tmps[k]?=some v:=by
 rw[h.un k fun i o ho _ e=>?_,hv];rw[List.all_eq_true]at hk;have:=hk i (List.mem_range.2 (Array.getElem?_eq_some_iff.1 ho).1);rw[ho,Option.bind_some,e]at this;simp at this
theorem eval_const (a:Act) (v:Value):a.eval (.const v)=v:=rfl
end
section
open Go.RowKit
abbrev RVB:=List Bool→Nat→Value→World→Prop
def stB (S:List Nat) (done:Array Bool):List Bool:=S.map fun s=>done.getD s false
theorem stB_set {S:List Nat} {done:Array Bool} {i:Nat} (hi:i<done.size) (h:i ∉ S):stB S (done.setIfInBounds i true)=stB S done:=by
 unfold stB;refine List.map_congr_left fun s hs=>?_
 have hb:¬ s=i:=fun e=>h (by rw[←e];exact hs)
 rw[getD_set _ _ _ hi,if_neg hb]
theorem stB_none (S:List Nat) (n:Nat):stB S (Array.replicate n false)=S.map fun _=>false:=by
 unfold stB;refine List.map_congr_left fun s _=>?_
 rw[Array.getD_eq_getD_getElem?,Array.getElem?_replicate];split <;> rfl
theorem stB_all {S:List Nat} {done:Array Bool} {n:Nat} (hd:∀i,i<n→done.getD i false=true) (hS:(S.all fun s=>decide (s<n))=true):stB S done=S.map fun _=>true:=by
 unfold stB;refine List.map_congr_left fun s hs=>?_
 rw[List.all_eq_true]at hS;exact hd s (of_decide_eq_true (hS s hs))
structure RInvB (ops:Array Oper) (V:RVB) (S:List Nat) (B:Nat) (F:List Bool→World→Prop) (w0:World) (a0:Act) (done:Array Bool) (a:Act) (w:World):Prop where
 sz:done.size=ops.size
 df:a.defers=a0.defers
 ts:a.tmps.size=a0.tmps.size
 bw:Below B w0 w
 ex:F (stB S done) w
 un:∀k,(∀i o,ops[i]?=some o→done.getD i false=true→o.dst≠some k)→a.tmps[k]?=a0.tmps[k]?
 pr:∀i o,ops[i]?=some o→done.getD i false=true→∀e∈o.after,Region.binds .any e=true→done.getD e.on false=true
 dn:∀i o d,ops[i]?=some o→done.getD i false=true→o.dst=some d→∃v,a.tmps[d]?=some v∧V (stB S done) i v w
theorem RInvB.put {ops:Array Oper} {V:RVB} {S:List Nat} {B:Nat} {F:List Bool→World→Prop} {w0 w w':World} {a0 a:Act} {done:Array Bool} {i d:Nat} {o:Oper} {v:Value} (h:RInvB ops V S B F w0 a0 done a w) (hs:slotsB ops a0.tmps.size=true) (ho:ops[i]?=some o) (hd:o.dst=some d) (hh:∀e∈o.after,Region.binds .any e=true→done.getD e.on false=true) 
  (hb:Below B w0 w') (hF:F (stB S (done.setIfInBounds i true)) w') (hk:∀j q,ops[j]?=some q→j≠i→done.getD j false=true→∀u,V (stB S done) j u w→V (stB S (done.setIfInBounds i true)) j u w') (hv:V (stB S (done.setIfInBounds i true)) i v w'):RInvB ops V S B F w0 a0 (done.setIfInBounds i true) (a.put o.dst v) w':=by
 have hi:i<done.size:=by rw[h.sz];exact (Array.getElem?_eq_some_iff.1 ho).1
 have hl:d<a.tmps.size:=by rw[h.ts];exact slots_lt hs ho hd
 have e1:(a.put o.dst v).tmps=a.tmps.setIfInBounds d v:=by rw[hd];rfl
 refine⟨by rw[Array.size_setIfInBounds];exact h.sz,by rw[hd];exact h.df,by rw[e1,Array.size_setIfInBounds];exact h.ts,hb,hF,fun k hk=>?_,fun j q hq hc e he hj=>by
  rw[getD_set _ _ _ hi]at hc ⊢;split
  ·rfl
  ·rename_i hg;by_cases hf:j=i
   ·subst hf;rw[ho]at hq;injection hq with hq;subst hq
    exact hh e he hj
   ·rw[if_neg hf]at hc;exact h.pr j q hq hc e he hj,fun j q e hq hc he=>?_⟩
 ·have hg:d≠k:=fun e=>hk i o ho (by rw[getD_set _ _ _ hi,if_pos rfl]) (by rw[hd,e])
  rw[e1,Array.getElem?_setIfInBounds,if_neg hg];exact h.un k fun j q hq hc=>hk j q hq (by rw[getD_set _ _ _ hi];split <;> first | rfl | exact hc)
 ·rw[e1,Array.getElem?_setIfInBounds];by_cases hf:j=i
  ·subst hf;rw[ho]at hq;injection hq with hq;subst hq
   rw[hd]at he;injection he with he;subst he
   rw[if_pos rfl,if_pos hl];exact⟨v,rfl,hv⟩
  ·have hg:d≠e:=fun x=>hf (slots_ne hs hq (by rw[he,x]) ho hd)
   rw[getD_set _ _ _ hi,if_neg hf]at hc;rw[if_neg hg];obtain⟨u,h1,h2⟩:=h.dn j q e hq hc he;exact⟨u,h1,hk j q hq hf hc u h2⟩
theorem RInvB.skip {ops:Array Oper} {V:RVB} {S:List Nat} {B:Nat} {F:List Bool→World→Prop} {w0 w w':World} {a0 a:Act} {done:Array Bool} {i:Nat} {o:Oper} {v:Value} (h:RInvB ops V S B F w0 a0 done a w) (ho:ops[i]?=some o) (hd:o.dst=none) (hg:∀e∈o.after,Region.binds .any e=true→done.getD e.on false=true) 
  (hb:Below B w0 w') (hF:F (stB S (done.setIfInBounds i true)) w') (hk:∀j q,ops[j]?=some q→j≠i→done.getD j false=true→∀d u,q.dst=some d→a.tmps[d]?=some u→V (stB S done) j u w→V (stB S (done.setIfInBounds i true)) j u w'):RInvB ops V S B F w0 a0 (done.setIfInBounds i true) (a.put o.dst v) w':=by
 have hi:i<done.size:=by rw[h.sz];exact (Array.getElem?_eq_some_iff.1 ho).1
 have e1:(a.put o.dst v)=a:=by rw[hd];rfl
 rw[e1]
 refine⟨by rw[Array.size_setIfInBounds];exact h.sz,h.df,h.ts,hb,hF,fun k hk=>h.un k fun j q hq hc=>hk j q hq (by rw[getD_set _ _ _ hi];split <;> first | rfl | exact hc),fun j q hq hc e he hh=>by
  rw[getD_set _ _ _ hi]at hc ⊢;split
  ·rfl
  ·rename_i hj;by_cases hf:j=i
   ·subst hf;rw[ho]at hq;injection hq with hq;subst hq
    exact hg e he hh
   ·rw[if_neg hf]at hc;exact h.pr j q hq hc e he hh,fun j q e hq hc he=>?_⟩
 by_cases hf:j=i
 ·subst hf;rw[ho]at hq;injection hq with hq;subst hq
  rw[hd]at he;cases he
 ·rw[getD_set _ _ _ hi,if_neg hf]at hc;obtain⟨u,h1,h2⟩:=h.dn j q e hq hc he;exact⟨u,h1,hk j q hq hf hc e u he h1 h2⟩
theorem wp_region_invB {P:Program} {id:Nat} {ops:Array Oper} {Q:Exit→Act→World→Prop} {a:Act} {w:World} (V:RVB) (S:List Nat) (B:Nat) (F:List Bool→World→Prop) (n:Nat) (hc:F (S.map fun _=>false) w.drew) (hm:P.follows .mixedOrders=true) (hn:a.tmps.size=n) (hf:slotsB ops n=true)
  (hs:slotsB ops a.tmps.size=true→∀done a' w' i o,RInvB ops V S B F w a done a' w'→ops[i]?=some o→done.getD i false=false→(∀e∈o.after,Region.binds .any e=true→done.getD e.on false=true)→wpOp P ops Q i (RInvB ops V S B F w a (done.setIfInBounds i true)) a' w')
  (he:∀done a' w',RInvB ops V S B F w a done a' w'→(∀i,i<ops.size→done.getD i false=true)→Q .normal a' w') (hg:backB ops=true):(Code.region id ops true).wp P Q a w:=by
 refine wp_region_any hm ?_;refine wpAny_inv (RInvB ops V S B F w a) (fun _ _ _ h=>h.sz) (fun done a' w' i hI hi=>?_) (fun done a' w' hI hr=>he done a' w' hI (back_done hg done hI.sz hr)) _ _ _ _ ?_ ?_
 ·obtain⟨hb,o,ho,h⟩:=mem_ready.1 hi;refine hs (by rw[hn];exact hf) done a' w' i o hI ho ?_ h;rw[Array.getD_eq_getD_getElem?]at hb ⊢;cases hx:done[i]? with
  | none=>rfl
  | some b=>rw[hx]at hb;exact hb
 ·refine⟨by simp,rfl,rfl,Br.drew,by rw[stB_none];exact hc,fun _ _=>rfl,fun i o ho hd=>?_,fun i o d ho hd _=>?_⟩
  ·rw[Array.getD_eq_getD_getElem?]at hd;simp only[Array.getElem?_replicate]at hd;split at hd <;> simp at hd
  rw[Array.getD_eq_getD_getElem?]at hd;simp only[Array.getElem?_replicate]at hd;split at hd <;> simp at hd
 ·simp
theorem RInvB.all {ops:Array Oper} {V:RVB} {S:List Nat} {B:Nat} {F:List Bool→World→Prop} {w0 w:World} {a0 a:Act} {done:Array Bool} (h:RInvB ops V S B F w0 a0 done a w) (hd:∀i,i<ops.size→done.getD i false=true) :
  ∃f:Nat→Value,a=putAll ops f a0 ops.size∧∀i o d,ops[i]?=some o→o.dst=some d→V (stB S done) i (f i) w:=by
 refine⟨slotF ops a,?_,fun i o d ho hb=>?_⟩
 ·have ht:a.tmps=(putAll ops (slotF ops a) a0 ops.size).tmps:=by
   apply Array.ext_getElem?
   intro k;obtain⟨_,h2,h3,_⟩:=putAll_at (ops:=ops) (a:=a0) (a':=a) h.ts ops.size k;by_cases he:∃i,i<ops.size∧(ops[i]?).bind (·.dst)=some k
   ·exact (h2 he).symm
   ·rw[h3 fun i hi e=>he ⟨i,hi,e⟩];refine h.un k fun i o ho _ e=>he ⟨i,(Array.getElem?_eq_some_iff.1 ho).1,by rw[ho];exact e⟩
  have hf:=(putAll_at (ops:=ops) (a:=a0) (a':=a) h.ts ops.size 0).2.2.2;generalize putAll ops (slotF ops a) a0 ops.size=b at ht hf ⊢;obtain⟨bt1,bd1⟩:=b;obtain⟨at1,ad1⟩:=a;have:=h.df;simp only[]at ht hf this ⊢;subst ht;rw[hf,this]
 ·obtain⟨v,h1,h2⟩:=h.dn i o d ho (hd i (Array.getElem?_eq_some_iff.1 ho).1) hb;have e0:slotF ops a i=v:=by unfold slotF;simp only[ho,Option.bind_some,hb,Array.getD_eq_getD_getElem?,h1,Option.getD_some]
  rw[e0];exact h2
theorem RInvB.op {P:Program} {ops:Array Oper} {V:RVB} {S:List Nat} {B:Nat} {F:List Bool→World→Prop} {Q:Exit→Act→World→Prop} {w0 w:World} {a0 a:Act} {done:Array Bool} {i d:Nat} {o:Oper} (h:RInvB ops V S B F w0 a0 done a w) (hs:slotsB ops a0.tmps.size=true) (he:∀b j u w w',Bw w w'→V b j u w→V b j u w')
  (hf:∀b w w',Bw w w'→F b w→F b w') (hg:B≤w.heap.size) (ho:ops[i]?=some o) (hd:o.dst=some d) (hh:o.guard=none) (hS:i ∉ S) (hc:∀e∈o.after,Region.binds .any e=true→done.getD e.on false=true) 
  (hj:Oper.wp P o a w (fun a' w'=>∃v,a'=a.put o.dst v∧Bw w w'∧V (stB S done) i v w') Q):wpOp P ops Q i (RInvB ops V S B F w0 a0 (done.setIfInBounds i true)) a w:=by
 refine wpOp_step ho fun K' hK=>?_
 have hw:Region.wanted o (yielded ops a.tmps)=true:=by simp[Region.wanted,hh]
 rw[if_pos hw];refine Oper.wp_mono (fun a' w' hx=>hK a' w' ?_) hj;obtain⟨v,rfl,hb,hv⟩:=hx;have hi:i<done.size:=by rw[h.sz];exact (Array.getElem?_eq_some_iff.1 ho).1
 have e:stB S (done.setIfInBounds i true)=stB S done:=stB_set hi hS;exact h.put hs ho hd hc (h.bw.trans (hb.mono hg)) (by rw[e];exact hf _ _ _ hb h.ex) (fun j q _ _ _ u hu=>by rw[e];exact he _ _ _ _ _ hb hu) (by rw[e];exact hv)
theorem RInvB.keep {ops:Array Oper} {V:RVB} {S:List Nat} {B:Nat} {F:List Bool→World→Prop} {w0 w:World} {a0 a:Act} {done:Array Bool} (h:RInvB ops V S B F w0 a0 done a w) (k:Nat) (v:Value) (hv:a0.tmps[k]?=some v) (hk:((List.range ops.size).all fun i=>(ops[i]?).bind (·.dst) != some k)=true):a.tmps[k]?=some v:=by
 rw[h.un k fun i o ho _ e=>?_,hv];rw[List.all_eq_true]at hk;have:=hk i (List.mem_range.2 (Array.getElem?_eq_some_iff.1 ho).1);rw[ho,Option.bind_some,e]at this;simp at this
end
end Go.Proofs.YtdgddpnjkinciaaGreatDoor
