/- Regions that draw their order,by what holds of each operation that is done,of the slots and of the world: for regions that make boxes,too. -/
import Derived.Test.YtdoacbdkbbpamaaGreatDoorNat2
import Derived.StillTailTactics
import Derived.Test.YtdoacbdkbbpamaaGreatDoorRinb
set_option linter.unusedVariables false
set_option linter.unusedSimpArgs false
set_option maxRecDepth 100000
set_option maxHeartbeats 16000000
namespace Go.Proofs.YtdoacbdkbbpamaaGreatDoor
section
/- A region that draws its order: its first n operations are quiet in a class of worlds,the others follow in the one order that their edges leave. Then one walk in the order of the text serves every order. (The kit has this for operations that leave the very world;here the calls of the head may make memory.) -/
open Go.RowKit
section
variable {P:Program} {ops:Array Oper} {md:Region.Mode} {C:World→Prop}
def headQ (P:Program) (md:Region.Mode) (ops:Array Oper) (C:World→Prop) (n:Nat) (L:Array Bool→Act→Prop):Nat→Array Bool→Act→Prop
 | 0,done,a=>L done a
 | f+1,done,a=>Region.ready md ops done≠[] ∧
   ∀i∈Region.ready md ops done,i<n∧qOp P ops C i (headQ P md ops C n L f (done.setIfInBounds i true)) a
theorem headQ_any {n g:Nat} {L:Array Bool→Act→Prop} {Q:Exit→Act→World→Prop}
  (hL:∀done a w,C w→L done a→wpAny P md ops Q g done a w) :
  ∀(f:Nat) (done:Array Bool) (a:Act) (w:World),C w→headQ P md ops C n L f done a→wpAny P md ops Q (f+g) done a w:=by
 intro f;induction f with
 | zero=>intro done a w hC h;rw [Nat.zero_add];exact hL _ _ _ hC h
 | succ f ih =>
  intro done a w hC h;rw [show f+1+g=(f+g)+1 by omega];exact ⟨fun h0=>absurd h0 h.1,fun i hi=>wpOp_of_qOp hC (fun a' w' hw' h'=>ih _ a' w' hw' h') (h.2 i hi).2⟩
theorem headQ_first {n i:Nat} {oi:Oper} {v:Value} {L:Array Bool→Act→Prop} (hi:ops[i]?=some oi)
  (hsel:∀(j:Nat) (o:Oper) cs b,ops[j]?=some o→o.op≠.select cs b)
  (hs:Region.sinkB md ops n=true) (hc:Region.chainB md ops n=true) (hn:n<ops.size) (hin:i<n)
  (hL:∀done a,L done a→∀j∈Region.ready md ops done,n≤j) :
  ∀(f:Nat) (done:Array Bool) (a:Act),HeadInv md ops n done →
   (∀j oj,ops[j]?=some oj→j≠i→done.getD j true=false→(∀e∈oj.after,Region.binds md e=true→e.on≠i)→oi.apart ops oj=true) →
   i∈Region.ready md ops done→YieldsIn P ops C oi v a →
   headQ P md ops C n L f (done.setIfInBounds i true) (a.put oi.dst v)→headQ P md ops C n L (f+1) done a:=by
 intro f;induction f with
 | zero =>
  intro done a inv _ hr hy H;refine ⟨List.ne_nil_of_mem hr,fun j hj=>?_⟩
  have hjn:j<n:=by
   rcases Nat.lt_or_ge j n with h | h
   ·exact h
   ·exact absurd hj (tail_waits hs hc hn inv _ i rfl hin (mem_ready.1 hr).1 j h)
  by_cases hji:j=i
  ·subst hji;exact ⟨hjn,hy.qOp hi H⟩
  ·exact absurd (hL _ _ H j (ready_mono hj hji)) (by omega)
 | succ f ih =>
  intro done a inv hfree hr hy H;have hun:=(mem_ready.1 hr).1;refine ⟨List.ne_nil_of_mem hr,fun j hj=>?_⟩
  have hjn:j<n:=by
   rcases Nat.lt_or_ge j n with h | h
   ·exact h
   ·exact absurd hj (tail_waits hs hc hn inv _ i rfl hin hun j h)
  refine ⟨hjn,?_⟩;by_cases hji:j=i
  ·subst hji;exact hy.qOp hi H
  obtain ⟨hjun,oj,hoj,hall⟩:=mem_ready.1 hj
  have hnot:∀e∈oj.after,Region.binds md e=true→e.on≠i:=by
   intro e he hb heq;have h1:=hall e he hb;rw [heq,getD_both hun] at h1;exact Bool.noConfusion h1
  have h2:=qOp_put hoj (hfree j oj hoj hji hjun hnot) (fun cs b=>hsel i oi cs b hi) (fun cs b=>hsel j oj cs b hoj) hy (H.2 j (ready_mono hj hji)).2;refine qOp_mono (fun a' h3=>?_) h2;refine ih (done.setIfInBounds j true) a' (inv.set hj hjn) ?_ (ready_mono hr (Ne.symm hji)) h3.1 ?_
  ·intro k ok hk hki hun2 hno;refine hfree k ok hk hki ?_ hno;by_cases hjk:j=k
   ·subst hjk;exact hjun
   ·rwa [getD_set_ne true hjk] at hun2
  ·rw [Array.setIfInBounds_comm _ _ hji];exact h3.2
theorem headQ_lex {n g:Nat} {Lq:Act→Prop} (hsel:Region.noSelect ops=true) (hs:Region.sinkB md ops n=true) (hc:Region.chainB md ops n=true) (hn:n<ops.size) :
  ∀(l:List Oper) (k:Nat) (done:Array Bool) (a:Act),(∀j,j<l.length→l[j]?=ops[k+j]?)→k+l.length=n→HeadInv md ops n done →
  Region.lexHead md ops g l.length k done=true→wpQuiet P ops C Lq l a →
  headQ P md ops C n (fun d a'=>Region.seqB md ops g n d=true∧Lq a') l.length done a:=by
 intro l;induction l with
 | nil =>
  intro k done a _ hk _ hB h;obtain rfl:k=n:=by simpa using hk
  exact ⟨by simpa [Region.lexHead] using hB,h⟩
 | cons o l ih =>
  intro k done a hl hk inv hB h;have h0:ops[k]?=some o:=by simpa using (hl 0 (by simp)).symm
  simp only [List.length_cons,Region.lexHead,Bool.and_eq_true] at hB;obtain ⟨⟨hr,hf⟩,hB'⟩:=hB;simp only [List.length_cons] at hk;have hkn:k<n:=by omega
  have hr':k∈Region.ready md ops done:=by simpa using hr
  have hst:qOp P ops C k (wpQuiet P ops C Lq l) a:=by unfold qOp;simp only [h0];exact h
  obtain ⟨v,hy,hK⟩:=yieldsIn_of_qOp h0 hst;refine headQ_first h0 (Region.noSelect_spec hsel) hs hc hn hkn (fun _ _ hL=>seqB_ready hL.1) l.length done a inv (Region.free_spec h0 hf) hr' hy ?_;refine ih (k+1) _ _ (fun j hj=>?_) (by omega) (inv.set hr' hkn) hB' hK;have:=hl (j+1) (by simp;omega);simpa [Nat.add_assoc,Nat.add_comm 1 j] using this
theorem wp_region_quiet_tail {id:Nat} {Q:Exit→Act→World→Prop} {a:Act} {w:World} {l:List Oper} (n:Nat) (hm:P.follows .mixedOrders=true) (hB:Region.lexTailB .any l.toArray n=true)
  (hC:C { w with drawn:=w.drawn+1 }) (h:wpQuiet P l.toArray C (fun a'=>∀w',C w'→wpList P l.toArray Q (l.drop n) a' w') (l.take n) a):(Code.region id l.toArray true).wp P Q a w:=by
 simp only [Region.lexTailB,Bool.and_eq_true,decide_eq_true_eq] at hB;obtain ⟨⟨⟨⟨hsel,hn⟩,hs⟩,hc⟩,hlex⟩:=hB;have hn':n<l.length:=by simpa using hn
 have htl:(l.take n).length=n:=by simp;omega
 have hdl:(l.drop n).length=l.toArray.size-n:=by simp
 have inv0:HeadInv .any l.toArray n (Array.replicate l.toArray.size false):=
  ⟨by simp,fun j oj _ hl=>by rw [getD_replicate_false] at hl;exact Bool.noConfusion hl,fun t _ ht=>getD_in (by simpa using ht) (getD_replicate_false _ _)⟩
 have H:=headQ_lex (C:=C) (md:=.any) (g:=l.toArray.size-n) hsel hs hc hn (l.take n) 0 _ a
  (fun j hj=>by rw [htl] at hj;simp [hj]) (by simpa using htl) inv0 (by rw [htl];exact hlex) h
 refine wp_region_any hm ?_
 have H2:=headQ_any (Q:=Q) (g:=l.toArray.size-n) (fun done a' w' hw' hL=>by
  have h3:=wpAny_of_seq (md:=.any) (Q':=Q) (l.drop n) n done a' w' (fun j=>by simp [List.getElem?_drop]) (by rw [hdl];exact hL.1) (hL.2 w' hw');rwa [hdl] at h3) _ _ _ _ hC H
 rw [htl,show n+(l.toArray.size-n)=l.toArray.size by omega] at H2;exact H2
end
def GW (w:World):Type:={ w':World // Below w.heap.size w w' }
def gw {w:World} (x:GW w):World:=x.val
theorem gw_below {w:World} (x:GW w):Below w.heap.size w (gw x):=x.property
instance (w:World):Nonempty (GW w):=⟨⟨w,Below.refl _ _⟩⟩
theorem gw_mk {w w':World} (h:Below w.heap.size w w'):∃x:GW w,w'=gw x:=⟨⟨w',h⟩,rfl⟩
theorem gw_of {P:Program} {f:FuncId} {args:Array Value} {w:World} {x:GW w} {v:Value}
  (h:Calls P f args (gw x) fun e w''=>e=.returned v∧Below (gw x).heap.size (gw x) w''):Calls P f args (gw x) fun e w''=>e=.returned v∧∃y:GW w,w''=gw y:=
 h.mono fun _ _ ⟨he,hb⟩=>⟨he,gw_mk ((gw_below x).trans (hb.mono (gw_below x).size))⟩
theorem gw_same {P:Program} {f:FuncId} {args:Array Value} {w:World} {x:GW w} {v:Value}
  (h:Calls P f args (gw x) fun e w''=>e=.returned v∧gw x=w''):Calls P f args (gw x) fun e w''=>e=.returned v∧∃y:GW w,w''=gw y:=
 h.mono fun _ _ ⟨he,hb⟩=>⟨he,x,hb.symm⟩
theorem Blk.gw {w:World} {g:Nat} {T:TypeId} {cs:List Value} (h:Blk w g T cs) (x:GW w):Blk (gw x) g T cs:=h.after (gw_below x)
theorem Blk.gcell {w:World} {g:Nat} {T:TypeId} {cs:List Value} (h:Blk w g T cs) (j:Nat):∀x:GW w,(Proofs.YtdoacbdkbbpamaaGreatDoor.gw x).cell? ⟨g,j,none⟩=cs[j]?:=fun x=>(h.gw x).cell j
theorem wp_region_gw {P:Program} {id:Nat} {Q:Exit→Act→World→Prop} {a:Act} {w:World} {l:List Oper} (hm:P.follows .mixedOrders=true) (hB:Region.lexB .any l.toArray=true)
  (h:wpQuiet P l.toArray (fun w'=>∃x:GW w,w'=gw x) (fun a'=>∀w',(∃x:GW w,w'=gw x)→Q .normal a' w') l a):(Code.region id l.toArray true).wp P Q a w:=
 wp_region_quiet (C:=fun w'=>∃x:GW w,w'=gw x) hm hB (gw_mk (Below.refl _ _).drew) (by simpa using h)
theorem wp_region_gw_tail {P:Program} {id:Nat} {Q:Exit→Act→World→Prop} {a:Act} {w:World} {l:List Oper} (n:Nat) (hm:P.follows .mixedOrders=true) (hB:Region.lexTailB .any l.toArray n=true)
  (h:wpQuiet P l.toArray (fun w'=>∃x:GW w,w'=gw x) (fun a'=>∀w',(∃x:GW w,w'=gw x)→wpList P l.toArray Q (l.drop n) a' w') (l.take n) a):(Code.region id l.toArray true).wp P Q a w:=
 wp_region_quiet_tail n hm hB (gw_mk (Below.refl _ _).drew) h
end
section
open Go.RowKit
structure RInvC (ops:Array Oper) (V:RVB) (S:List Nat) (B:Nat) (F:List Bool→Array Value→World→Prop) (w0:World) (a0:Act) (done:Array Bool) (a:Act) (w:World):Prop where
 sz:done.size=ops.size
 df:a.defers=a0.defers
 ts:a.tmps.size=a0.tmps.size
 bw:Below B w0 w
 ex:F (stB S done) a.tmps w
 un:∀k,(∀i o,ops[i]?=some o→done.getD i false=true→o.dst≠some k)→a.tmps[k]?=a0.tmps[k]?
 pr:∀i o,ops[i]?=some o→done.getD i false=true→∀e∈o.after,Region.binds .any e=true→done.getD e.on false=true
 dn:∀i o d,ops[i]?=some o→done.getD i false=true→o.dst=some d→∃v,a.tmps[d]?=some v∧V (stB S done) i v w
theorem RInvC.put {ops:Array Oper} {V:RVB} {S:List Nat} {B:Nat} {F:List Bool→Array Value→World→Prop} {w0 w w':World} {a0 a:Act} {done:Array Bool} {i d:Nat} {o:Oper} {v:Value} (h:RInvC ops V S B F w0 a0 done a w) (hs:slotsB ops a0.tmps.size=true) (ho:ops[i]?=some o) (hd:o.dst=some d) (hpre:∀e∈o.after,Region.binds .any e=true→done.getD e.on false=true) 
  (hb:Below B w0 w') (hF:F (stB S (done.setIfInBounds i true)) (a.tmps.setIfInBounds d v) w') (hk:∀j q,ops[j]?=some q→j≠i→done.getD j false=true→∀u,V (stB S done) j u w→V (stB S (done.setIfInBounds i true)) j u w') (hv:V (stB S (done.setIfInBounds i true)) i v w'):RInvC ops V S B F w0 a0 (done.setIfInBounds i true) (a.put o.dst v) w':=by
 have hi:i<done.size:=by rw [h.sz];exact (Array.getElem?_eq_some_iff.1 ho).1
 have hdl:d<a.tmps.size:=by rw [h.ts];exact slots_lt hs ho hd
 have e1:(a.put o.dst v).tmps=a.tmps.setIfInBounds d v:=by rw [hd];rfl
 refine ⟨by rw [Array.size_setIfInBounds];exact h.sz,by rw [hd];exact h.df,by rw [e1,Array.size_setIfInBounds];exact h.ts,hb,by rw [e1];exact hF,fun k hk=>?_,fun j q hq hdn e he hbi=>by
  rw [getD_set _ _ _ hi] at hdn ⊢;split
  ·rfl
  ·rename_i hne;by_cases hji:j=i
   ·subst hji;rw [ho] at hq;injection hq with hq;subst hq
    exact hpre e he hbi
   ·rw [if_neg hji] at hdn;exact h.pr j q hq hdn e he hbi,fun j q e hq hdn he=>?_⟩
 ·have hne:d≠k:=fun e=>hk i o ho (by rw [getD_set _ _ _ hi,if_pos rfl]) (by rw [hd,e])
  rw [e1,Array.getElem?_setIfInBounds,if_neg hne];exact h.un k fun j q hq hdn=>hk j q hq (by rw [getD_set _ _ _ hi];split <;> first | rfl | exact hdn)
 ·rw [e1,Array.getElem?_setIfInBounds];by_cases hji:j=i
  ·subst hji;rw [ho] at hq;injection hq with hq;subst hq
   rw [hd] at he;injection he with he;subst he
   rw [if_pos rfl,if_pos hdl];exact ⟨v,rfl,hv⟩
  ·have hne:d≠e:=fun x=>hji (slots_ne hs hq (by rw [he,x]) ho hd)
   rw [getD_set _ _ _ hi,if_neg hji] at hdn;rw [if_neg hne];obtain ⟨u,h1,h2⟩:=h.dn j q e hq hdn he;exact ⟨u,h1,hk j q hq hji hdn u h2⟩
theorem RInvC.skip {ops:Array Oper} {V:RVB} {S:List Nat} {B:Nat} {F:List Bool→Array Value→World→Prop} {w0 w w':World} {a0 a:Act} {done:Array Bool} {i:Nat} {o:Oper} {v:Value} (h:RInvC ops V S B F w0 a0 done a w) (ho:ops[i]?=some o) (hd:o.dst=none) (hpre:∀e∈o.after,Region.binds .any e=true→done.getD e.on false=true) 
  (hb:Below B w0 w') (hF:F (stB S (done.setIfInBounds i true)) a.tmps w') (hk:∀j q,ops[j]?=some q→j≠i→done.getD j false=true→∀d u,q.dst=some d→a.tmps[d]?=some u→V (stB S done) j u w→V (stB S (done.setIfInBounds i true)) j u w'):RInvC ops V S B F w0 a0 (done.setIfInBounds i true) (a.put o.dst v) w':=by
 have hi:i<done.size:=by rw [h.sz];exact (Array.getElem?_eq_some_iff.1 ho).1
 have e1:(a.put o.dst v)=a:=by rw [hd];rfl
 rw [e1]
 refine ⟨by rw [Array.size_setIfInBounds];exact h.sz,h.df,h.ts,hb,hF,fun k hk=>h.un k fun j q hq hdn=>hk j q hq (by rw [getD_set _ _ _ hi];split <;> first | rfl | exact hdn),fun j q hq hdn e he hbi=>by
  rw [getD_set _ _ _ hi] at hdn ⊢;split
  ·rfl
  ·rename_i hne;by_cases hji:j=i
   ·subst hji;rw [ho] at hq;injection hq with hq;subst hq
    exact hpre e he hbi
   ·rw [if_neg hji] at hdn;exact h.pr j q hq hdn e he hbi,fun j q e hq hdn he=>?_⟩
 by_cases hji:j=i
 ·subst hji;rw [ho] at hq;injection hq with hq;subst hq
  rw [hd] at he;cases he
 ·rw [getD_set _ _ _ hi,if_neg hji] at hdn;obtain ⟨u,h1,h2⟩:=h.dn j q e hq hdn he;exact ⟨u,h1,hk j q hq hji hdn e u he h1 h2⟩
theorem wp_region_invC {P:Program} {id:Nat} {ops:Array Oper} {Q:Exit→Act→World→Prop} {a:Act} {w:World} (V:RVB) (S:List Nat) (B:Nat) (F:List Bool→Array Value→World→Prop) (n:Nat) (hF0:F (S.map fun _=>false) a.tmps w.drew) (hm:P.follows .mixedOrders=true) (hn:a.tmps.size=n) (hsl:slotsB ops n=true)
  (hs:slotsB ops a.tmps.size=true→∀done a' w' i o,RInvC ops V S B F w a done a' w'→ops[i]?=some o→done.getD i false=false→(∀e∈o.after,Region.binds .any e=true→done.getD e.on false=true)→wpOp P ops Q i (RInvC ops V S B F w a (done.setIfInBounds i true)) a' w')
  (he:∀done a' w',RInvC ops V S B F w a done a' w'→(∀i,i<ops.size→done.getD i false=true)→Q .normal a' w') (hac:backB ops=true):(Code.region id ops true).wp P Q a w:=by
 refine wp_region_any hm ?_;refine wpAny_inv (RInvC ops V S B F w a) (fun _ _ _ h=>h.sz) (fun done a' w' i hI hi=>?_) (fun done a' w' hI hr=>he done a' w' hI (back_done hac done hI.sz hr)) _ _ _ _ ?_ ?_
 ·obtain ⟨hun,o,ho,h⟩:=mem_ready.1 hi;refine hs (by rw [hn];exact hsl) done a' w' i o hI ho ?_ h;rw [Array.getD_eq_getD_getElem?] at hun ⊢;cases hx:done[i]? with
  | none=>rfl
  | some b=>rw [hx] at hun;exact hun
 ·refine ⟨by simp,rfl,rfl,(Below.refl _ _).drew,by rw [stB_none];exact hF0,fun _ _=>rfl,fun i o ho hd=>?_,fun i o d ho hd _=>?_⟩
  ·rw [Array.getD_eq_getD_getElem?] at hd;simp only [Array.getElem?_replicate] at hd;split at hd <;> simp at hd
  rw [Array.getD_eq_getD_getElem?] at hd;simp only [Array.getElem?_replicate] at hd;split at hd <;> simp at hd
 ·simp
theorem RInvC.all {ops:Array Oper} {V:RVB} {S:List Nat} {B:Nat} {F:List Bool→Array Value→World→Prop} {w0 w:World} {a0 a:Act} {done:Array Bool} (h:RInvC ops V S B F w0 a0 done a w) (hd:∀i,i<ops.size→done.getD i false=true) :
  ∃f:Nat→Value,a=putAll ops f a0 ops.size∧∀i o d,ops[i]?=some o→o.dst=some d→V (stB S done) i (f i) w:=by
 refine ⟨slotF ops a,?_,fun i o d ho hod=>?_⟩
 ·have ht:a.tmps=(putAll ops (slotF ops a) a0 ops.size).tmps:=by
   apply Array.ext_getElem?
   intro k;obtain ⟨_,h2,h3,_⟩:=putAll_at (ops:=ops) (a:=a0) (a':=a) h.ts ops.size k;by_cases he:∃i,i<ops.size∧(ops[i]?).bind (·.dst)=some k
   ·exact (h2 he).symm
   ·rw [h3 fun i hi e=>he ⟨i,hi,e⟩];refine h.un k fun i o ho _ e=>he ⟨i,(Array.getElem?_eq_some_iff.1 ho).1,by rw [ho];exact e⟩
  have hf:=(putAll_at (ops:=ops) (a:=a0) (a':=a) h.ts ops.size 0).2.2.2;generalize putAll ops (slotF ops a) a0 ops.size=b at ht hf ⊢;obtain ⟨bt1,bd1⟩:=b;obtain ⟨at1,ad1⟩:=a;have:=h.df;simp only [] at ht hf this ⊢;subst ht;rw [hf,this]
 ·obtain ⟨v,h1,h2⟩:=h.dn i o d ho (hd i (Array.getElem?_eq_some_iff.1 ho).1) hod;have e0:slotF ops a i=v:=by unfold slotF;simp only [ho,Option.bind_some,hod,Array.getD_eq_getD_getElem?,h1,Option.getD_some]
  rw [e0];exact h2
theorem RInvC.op {P:Program} {ops:Array Oper} {V:RVB} {S:List Nat} {B:Nat} {F:List Bool→Array Value→World→Prop} {Q:Exit→Act→World→Prop} {w0 w:World} {a0 a:Act} {done:Array Bool} {i d:Nat} {o:Oper} (h:RInvC ops V S B F w0 a0 done a w) (hs:slotsB ops a0.tmps.size=true) (hst:∀b j u w w',Below w.heap.size w w'→V b j u w→V b j u w')
  (hFt:∀b t w w',Below w.heap.size w w'→F b t w→F b t w') (D:List Nat) (hFp:∀b (t:Array Value) d v w,d ∉ D→F b t w→F b (t.setIfInBounds d v) w) (hDd:d ∉ D) (hw0:B≤w.heap.size) (ho:ops[i]?=some o) (hd:o.dst=some d) (hgd:o.guard=none) (hS:i ∉ S) (hpre:∀e∈o.after,Region.binds .any e=true→done.getD e.on false=true) 
  (hwp:Oper.wp P o a w (fun a' w'=>∃v,a'=a.put o.dst v∧Below w.heap.size w w'∧V (stB S done) i v w') Q):wpOp P ops Q i (RInvC ops V S B F w0 a0 (done.setIfInBounds i true)) a w:=by
 refine wpOp_step ho fun K' hK=>?_
 have hw:Region.wanted o (yielded ops a.tmps)=true:=by simp [Region.wanted,hgd]
 rw [if_pos hw];refine Oper.wp_mono (fun a' w' hx=>hK a' w' ?_) hwp;obtain ⟨v,rfl,hb,hv⟩:=hx;have hi:i<done.size:=by rw [h.sz];exact (Array.getElem?_eq_some_iff.1 ho).1
 have e:stB S (done.setIfInBounds i true)=stB S done:=stB_set hi hS;exact h.put hs ho hd hpre (h.bw.trans (hb.mono hw0)) (by rw [e];exact hFp _ _ _ _ _ hDd (hFt _ _ _ _ hb h.ex)) (fun j q _ _ _ u hu=>by rw [e];exact hst _ _ _ _ _ hb hu) (by rw [e];exact hv)
theorem RInvC.keep {ops:Array Oper} {V:RVB} {S:List Nat} {B:Nat} {F:List Bool→Array Value→World→Prop} {w0 w:World} {a0 a:Act} {done:Array Bool} (h:RInvC ops V S B F w0 a0 done a w) (k:Nat) (v:Value) (hv:a0.tmps[k]?=some v) (hk:((List.range ops.size).all fun i=>(ops[i]?).bind (·.dst) != some k)=true):a.tmps[k]?=some v:=by
 rw [h.un k fun i o ho _ e=>?_,hv];rw [List.all_eq_true] at hk;have:=hk i (List.mem_range.2 (Array.getElem?_eq_some_iff.1 ho).1);rw [ho,Option.bind_some,e] at this;simp at this
end
end Go.Proofs.YtdoacbdkbbpamaaGreatDoor
