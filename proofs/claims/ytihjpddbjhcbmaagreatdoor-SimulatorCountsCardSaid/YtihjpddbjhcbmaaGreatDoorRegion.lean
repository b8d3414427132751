import Derived.Test.YtihjpddbjhcbmaaGreatDoorTrim
import Derived.StillTailTactics
set_option linter.unusedVariables false
set_option linter.unusedSimpArgs false
set_option maxRecDepth 100000
set_option maxHeartbeats 16000000
namespace Go.Proofs.YtihjpddbjhcbmaaGreatDoor
/- A region that draws its order: its first n operations are quiet in a class of worlds,the others follow in the one order that their edges leave. Then one walk in the order of the text serves every order. (The kit has this for operations that leave the very world;here the calls of the head may make memory.) -/
open Go.RowKit
section
variable {P:Program} {ops:Array Oper} {md:Region.Mode} {C:World→Prop}
def headQ (P:Program) (md:Region.Mode) (ops:Array Oper) (C:World→Prop) (n:Nat) (L:Array Bool→Act→Prop):Nat→Array Bool→Act→Prop
 | 0,done,a=>L done a
 | f+1,done,a=>Region.ready md ops done≠[] ∧
   ∀i∈Region.ready md ops done,i<n∧qOp P ops C i (headQ P md ops C n L f (done.setIfInBounds i true)) a
theorem headQ_any {n g:Nat} {L:Array Bool→Act→Prop} {Q:Exit→Act→World→Prop}
  (hL:∀done a w,C w→L done a→wpAny P md ops Q g done a w) :
  ∀(f:Nat) (done:Array Bool) (a:Act) (w:World),C w→headQ P md ops C n L f done a→wpAny P md ops Q (f+g) done a w:=by
 intro f;induction f with
 | zero=>intro done a w hC h;rw[Nat.zero_add];exact hL _ _ _ hC h
 | succ f ih =>
  intro done a w hC h;rw[show f+1+g=(f+g)+1 by omega];exact⟨fun h0=>absurd h0 h.1,fun i hi=>wpOp_of_qOp hC (fun a' w' hb h'=>ih _ a' w' hb h') (h.2 i hi).2⟩
theorem headQ_first {n i:Nat} {oi:Oper} {v:Value} {L:Array Bool→Act→Prop} (hi:ops[i]?=some oi)
  (hg:∀(j:Nat) (o:Oper) cs b,ops[j]?=some o→o.op≠.select cs b)
  (hs:Region.sinkB md ops n=true) (hc:Region.chainB md ops n=true) (hn:n<ops.size) (ht:i<n)
  (hL:∀done a,L done a→∀j∈Region.ready md ops done,n≤j) :
  ∀(f:Nat) (done:Array Bool) (a:Act),HeadInv md ops n done →
   (∀j oj,ops[j]?=some oj→j≠i→done.getD j true=false→(∀e∈oj.after,Region.binds md e=true→e.on≠i)→oi.apart ops oj=true) →
   i∈Region.ready md ops done→YieldsIn P ops C oi v a →
   headQ P md ops C n L f (done.setIfInBounds i true) (a.put oi.dst v)→headQ P md ops C n L (f+1) done a:=by
 intro f;induction f with
 | zero =>
  intro done a inv _ hr hy H;refine⟨List.ne_nil_of_mem hr,fun j hj=>?_⟩
  have hl:j<n:=by
   rcases Nat.lt_or_ge j n with h | h
   ·exact h
   ·exact absurd hj (tail_waits hs hc hn inv _ i rfl ht (mem_ready.1 hr).1 j h)
  by_cases hd:j=i
  ·subst hd;exact⟨hl,hy.qOp hi H⟩
  ·exact absurd (hL _ _ H j (ready_mono hj hd)) (by omega)
 | succ f ih =>
  intro done a inv hf hr hy H;have hu:=(mem_ready.1 hr).1;refine⟨List.ne_nil_of_mem hr,fun j hj=>?_⟩
  have hl:j<n:=by
   rcases Nat.lt_or_ge j n with h | h
   ·exact h
   ·exact absurd hj (tail_waits hs hc hn inv _ i rfl ht hu j h)
  refine⟨hl,?_⟩;by_cases hd:j=i
  ·subst hd;exact hy.qOp hi H
  obtain⟨hh,oj,hm,ho⟩:=mem_ready.1 hj
  have hp:∀e∈oj.after,Region.binds md e=true→e.on≠i:=by
   intro e he hb hw;have h1:=ho e he hb;rw[hw,getD_both hu]at h1;exact Bool.noConfusion h1
  have h2:=qOp_put hm (hf j oj hm hd hh hp) (fun cs b=>hg i oi cs b hi) (fun cs b=>hg j oj cs b hm) hy (H.2 j (ready_mono hj hd)).2;refine qOp_mono (fun a' h3=>?_) h2;refine ih (done.setIfInBounds j true) a' (inv.set hj hl) ?_ (ready_mono hr (Ne.symm hd)) h3.1 ?_
  ·intro k ok hk hx hq hz;refine hf k ok hk hx ?_ hz;by_cases hv:j=k
   ·subst hv;exact hh
   ·rwa [getD_set_ne true hv]at hq
  ·rw[Array.setIfInBounds_comm _ _ hd];exact h3.2
theorem headQ_lex {n g:Nat} {Lq:Act→Prop} (hb:Region.noSelect ops=true) (hs:Region.sinkB md ops n=true) (hc:Region.chainB md ops n=true) (hn:n<ops.size) :
  ∀(l:List Oper) (k:Nat) (done:Array Bool) (a:Act),(∀j,j<l.length→l[j]?=ops[k+j]?)→k+l.length=n→HeadInv md ops n done →
  Region.lexHead md ops g l.length k done=true→wpQuiet P ops C Lq l a →
  headQ P md ops C n (fun d a'=>Region.seqB md ops g n d=true∧Lq a') l.length done a:=by
 intro l;induction l with
 | nil =>
  intro k done a _ hk _ hB h;obtain rfl:k=n:=by simpa using hk
  exact⟨by simpa [Region.lexHead] using hB,h⟩
 | cons o l ih =>
  intro k done a hl hk inv hB h;have h0:ops[k]?=some o:=by simpa using (hl 0 (by simp)).symm
  simp only[List.length_cons,Region.lexHead,Bool.and_eq_true]at hB;obtain⟨⟨hr,hf⟩,hg⟩:=hB;simp only[List.length_cons]at hk;have hd:k<n:=by omega
  have he:k∈Region.ready md ops done:=by simpa using hr
  have hh:qOp P ops C k (wpQuiet P ops C Lq l) a:=by unfold qOp;simp only[h0];exact h
  obtain⟨v,hy,hK⟩:=yieldsIn_of_qOp h0 hh;refine headQ_first h0 (Region.noSelect_spec hb) hs hc hn hd (fun _ _ hL=>seqB_ready hL.1) l.length done a inv (Region.free_spec h0 hf) he hy ?_;refine ih (k+1) _ _ (fun j hj=>?_) (by omega) (inv.set he hd) hg hK;have:=hl (j+1) (by simp;omega);simpa [Nat.add_assoc,Nat.add_comm 1 j] using this
theorem wp_region_quiet_tail {id:Nat} {Q:Exit→Act→World→Prop} {a:Act} {w:World} {l:List Oper} (n:Nat) (hm:P.follows .mixedOrders=true) (hB:Region.lexTailB .any l.toArray n=true)
  (hC:C { w with drawn:=w.drawn+1 }) (h:wpQuiet P l.toArray C (fun a'=>∀w',C w'→wpList P l.toArray Q (l.drop n) a' w') (l.take n) a):(Code.region id l.toArray true).wp P Q a w:=by
 simp only[Region.lexTailB,Bool.and_eq_true,decide_eq_true_eq]at hB;obtain⟨⟨⟨⟨hd,hn⟩,hs⟩,hc⟩,he⟩:=hB;have hh:n<l.length:=by simpa using hn
 have hb:(l.take n).length=n:=by simp;omega
 have hf:(l.drop n).length=l.toArray.size-n:=by simp
 have inv0:HeadInv .any l.toArray n (Array.replicate l.toArray.size false):=
  ⟨by simp,fun j oj _ hl=>by rw[getD_replicate_false]at hl;exact Bool.noConfusion hl,fun t _ ht=>getD_in (by simpa using ht) (getD_replicate_false _ _)⟩
 have H:=headQ_lex (C:=C) (md:=.any) (g:=l.toArray.size-n) hd hs hc hn (l.take n) 0 _ a
  (fun j hj=>by rw[hb]at hj;simp[hj]) (by simpa using hb) inv0 (by rw[hb];exact he) h
 refine wp_region_any hm ?_
 have H2:=headQ_any (Q:=Q) (g:=l.toArray.size-n) (fun done a' w' hg hL=>by
  have h3:=wpAny_of_seq (md:=.any) (Q':=Q) (l.drop n) n done a' w' (fun j=>by simp[List.getElem?_drop]) (by rw[hf];exact hL.1) (hL.2 w' hg);rwa [hf]at h3) _ _ _ _ hC H
 rw[hb,show n+(l.toArray.size-n)=l.toArray.size by omega]at H2;exact H2
end
def GW (w:World):Type:={ w':World // Bw w w' }
def gw {w:World} (x:GW w):World:=x.val
theorem gw_below {w:World} (x:GW w):Bw w (gw x):=x.property
instance (w:World):Nonempty (GW w):=⟨⟨w,Br⟩⟩
theorem gw_mk {w w':World} (h:Bw w w'):∃x:GW w,w'=gw x:=⟨⟨w',h⟩,rfl⟩
theorem gw_of {P:Program} {f:FuncId} {args:Array Value} {w:World} {x:GW w} {v:Value}
  (h:Calls P f args (gw x) fun e w''=>e=.returned v∧Below (gw x).heap.size (gw x) w''):Calls P f args (gw x) fun e w''=>e=.returned v∧∃y:GW w,w''=gw y:=
 h.mono fun _ _ ⟨he,hb⟩=>⟨he,gw_mk ((gw_below x).trans (hb.mono (gw_below x).size))⟩
theorem gw_same {P:Program} {f:FuncId} {args:Array Value} {w:World} {x:GW w} {v:Value}
  (h:Calls P f args (gw x) fun e w''=>e=.returned v∧gw x=w''):Calls P f args (gw x) fun e w''=>e=.returned v∧∃y:GW w,w''=gw y:=
 h.mono fun _ _ ⟨he,hb⟩=>⟨he,x,hb.symm⟩
theorem Blk.gw {w:World} {g:Nat} {T:TypeId} {cs:List Value} (h:Blk w g T cs) (x:GW w):Blk (gw x) g T cs:=h.after (gw_below x)
theorem Blk.gcell {w:World} {g:Nat} {T:TypeId} {cs:List Value} (h:Blk w g T cs) (j:Nat):∀x:GW w,(Proofs.YtihjpddbjhcbmaaGreatDoor.gw x).cell? ⟨g,j,none⟩=cs[j]?:=fun x=>(h.gw x).cell j
theorem wp_region_gw {P:Program} {id:Nat} {Q:Exit→Act→World→Prop} {a:Act} {w:World} {l:List Oper} (hm:P.follows .mixedOrders=true) (hB:Region.lexB .any l.toArray=true)
  (h:wpQuiet P l.toArray (fun w'=>∃x:GW w,w'=gw x) (fun a'=>∀w',(∃x:GW w,w'=gw x)→Q .normal a' w') l a):(Code.region id l.toArray true).wp P Q a w:=
 wp_region_quiet (C:=fun w'=>∃x:GW w,w'=gw x) hm hB (gw_mk Br.drew) (by simpa using h)
theorem wp_region_gw_tail {P:Program} {id:Nat} {Q:Exit→Act→World→Prop} {a:Act} {w:World} {l:List Oper} (n:Nat) (hm:P.follows .mixedOrders=true) (hB:Region.lexTailB .any l.toArray n=true)
  (h:wpQuiet P l.toArray (fun w'=>∃x:GW w,w'=gw x) (fun a'=>∀w',(∃x:GW w,w'=gw x)→wpList P l.toArray Q (l.drop n) a' w') (l.take n) a):(Code.region id l.toArray true).wp P Q a w:=
 wp_region_quiet_tail n hm hB (gw_mk Br.drew) h
end Go.Proofs.YtihjpddbjhcbmaaGreatDoor
