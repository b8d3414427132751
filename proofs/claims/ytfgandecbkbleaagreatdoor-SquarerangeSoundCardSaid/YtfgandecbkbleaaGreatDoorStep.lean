import Derived.Test.YtfgandecbkbleaaGreatDoorSat1
import Derived.Test.YtfgandecbkbleaaGreatDoorStm
import Derived.Deep.RegionLaw
import Derived.Deep.AppendLies
import Derived.RangeFuncLeaves
import Derived.Shelf.Abstract
set_option linter.unusedVariables false
set_option linter.unusedSimpArgs false
set_option maxRecDepth 100000
set_option maxHeartbeats 16000000
namespace Go.Proofs.YtfgandecbkbleaaGreatDoor
section
open Go.RowKit Go.Shelf
theorem ss_nil (w:World):SsAt w (.slice none 0 0) []:=⟨none,0,rfl,.inl rfl⟩
def FarS (u:Value) (g:Nat):Prop:=∀b o n c,u=.slice (some ⟨b,o,none⟩) n c→n≠0→b≠g
def TFar (t:Value) (g:Nat):Prop:=∀u x y,t=.agg #[u,x,y]→∀b,b<g→FarS u b
theorem TFar.zero (g:Nat) (x y:Value):TFar (.agg #[.slice none 0 0,x,y]) g:=fun u x' y' h b hb b' o n c e _=>by
 injection h with h
 have h:=congrArg (fun a=>a[0]?) h;simp at h;subst h;cases e
theorem TFar.of {u x y:Value} {g:Nat} (hf:∀b,b<g→FarS u b):TFar (.agg #[u,x,y]) g:=fun u' x' y' h b hb=>by
 injection h with h
 have h:=congrArg (fun a=>a[0]?) h;simp at h;subst h;exact hf b hb
theorem SsAt.app {w:World} {base cap g:Nat} {V:List ByteArray} (h:w.ownsRow base 22 1 (.slice (some ⟨g,0,none⟩) V.length cap) V.length (V.map .string)):SsAt w (.slice (some ⟨g,0,none⟩) V.length cap) V:=by
 refine ⟨_,_,rfl,?_⟩;by_cases h0:V.length=0
 ·exact .inl h0
 ·refine .inr ⟨g,0,rfl,(own_cap h).1,fun j hj=>⟨[.string V[j]],rfl,fun i hi=>?_⟩⟩;obtain rfl:i=0:=by omega
  have:=own_cellS h j (.string V[j]) (by simp [hj]);simpa using this
theorem SsAt.set_other {w:World} {g n c g2 i:Nat} {x:Value} {V:List ByteArray} (h:SsAt w (.slice (some ⟨g,0,none⟩) n c) V) (hne:g≠g2):SsAt (w.setCell ⟨g2,i,none⟩ x) (.slice (some ⟨g,0,none⟩) n c) V:=by
 obtain ⟨ao,c',e,h⟩:=h;refine ⟨ao,c',e,?_⟩;rcases h with h | ⟨b,o,h1,h2,h3⟩
 ·exact .inl h
 ·subst h1;injection e with e1 e2 e3
  injection e1 with e1
  injection e1 with e4 e5 e6
  refine .inr ⟨b,o,rfl,by simpa using h2,fun j hj=>?_⟩;obtain ⟨cs,hq,hc⟩:=h3 j hj;refine ⟨cs,hq,fun i2 hi=>?_⟩;rw [←hc i2 hi];exact World.cell?_of_block (heap_setCell_other w ⟨g2,i,none⟩ b x (fun e=>hne (by rw [e4];exact e)))
theorem SsAt.set_far {w:World} {g i:Nat} {v x:Value} {V:List ByteArray} (h:SsAt w v V) (hf:FarS v g):SsAt (w.setCell ⟨g,i,none⟩ x) v V:=by
 obtain ⟨ao,c',rfl,h⟩:=h;refine ⟨ao,c',rfl,?_⟩;by_cases h0:V.length=0
 ·exact .inl h0
 rcases h with h | ⟨b,o,rfl,h2,h3⟩
 ·exact .inl h
 ·refine .inr ⟨b,o,rfl,by simpa using h2,fun j hj=>?_⟩;obtain ⟨cs,hq,hc⟩:=h3 j hj;refine ⟨cs,hq,fun i2 hi=>?_⟩;rw [←hc i2 hi];exact World.cell?_of_block (heap_setCell_other w ⟨g,i,none⟩ b x (fun e=>hf _ _ _ _ rfl h0 e))
theorem SsAt.grown {w w':World} {row:Option Nat} {v:Value} {V:List ByteArray} (h:SsAt w v V) (hg:w.grownBy w' row) (hf:∀g,row=some g→FarS v g):SsAt w' v V:=by
 obtain ⟨ao,c',rfl,h⟩:=h;refine ⟨ao,c',rfl,?_⟩;by_cases h0:V.length=0
 ·exact .inl h0
 rcases h with h | ⟨b,o,rfl,h2,h3⟩
 ·exact .inl h
 ·refine .inr ⟨b,o,rfl,Nat.lt_of_lt_of_le h2 hg.size,fun j hj=>?_⟩;obtain ⟨cs,hq,hc⟩:=h3 j hj;refine ⟨cs,hq,fun i hi=>?_⟩;rw [←hc i hi];exact World.cell?_of_block (hg.block b h2 (fun e=>hf b e.symm _ _ _ _ rfl h0 rfl))
theorem blk5 (w:World) (A B C D F:Array Value) (TA TB TC TD TF:TypeId) :
  Blk (((((w.alloc (.cells A TA)).alloc (.cells B TB)).alloc (.cells C TC)).alloc (.cells D TD)).alloc (.cells F TF)) w.heap.size TA A.toList ∧
  Blk (((((w.alloc (.cells A TA)).alloc (.cells B TB)).alloc (.cells C TC)).alloc (.cells D TD)).alloc (.cells F TF)) (w.heap.size+1) TB B.toList ∧
  Blk (((((w.alloc (.cells A TA)).alloc (.cells B TB)).alloc (.cells C TC)).alloc (.cells D TD)).alloc (.cells F TF)) (w.heap.size+1+1) TC C.toList ∧
  Blk (((((w.alloc (.cells A TA)).alloc (.cells B TB)).alloc (.cells C TC)).alloc (.cells D TD)).alloc (.cells F TF)) (w.heap.size+1+1+1) TD D.toList ∧
  Blk (((((w.alloc (.cells A TA)).alloc (.cells B TB)).alloc (.cells C TC)).alloc (.cells D TD)).alloc (.cells F TF)) (w.heap.size+1+1+1+1) TF F.toList ∧
  Below w.heap.size w (((((w.alloc (.cells A TA)).alloc (.cells B TB)).alloc (.cells C TC)).alloc (.cells D TD)).alloc (.cells F TF)):=by
 refine ⟨((((Blk.new w A TA).alloc _).alloc _).alloc _).alloc _,(((blkN (by simp)).alloc _).alloc _).alloc _,((blkN (by simp)).alloc _).alloc _,(blkN (by simp)).alloc _,blkN (by simp),ba (ba (b3 w _ _ _) _) _⟩
theorem IsAt.set_far {w:World} {g i:Nat} {v x:Value} {V:List (Bool × ByteArray)} (h:IsAt w v V) (hf:FarS v g):IsAt (w.setCell ⟨g,i,none⟩ x) v V:=by
 obtain ⟨ao,c',rfl,h⟩:=h;refine ⟨ao,c',rfl,?_⟩;by_cases h0:V.length=0
 ·exact .inl h0
 rcases h with h | ⟨b,o,rfl,h2,h3⟩
 ·exact .inl h
 ·refine .inr ⟨b,o,rfl,by simpa using h2,fun j hj=>?_⟩;obtain ⟨cs,hq,hc⟩:=h3 j hj;refine ⟨cs,hq,fun i2 hi=>?_⟩;rw [←hc i2 hi];exact World.cell?_of_block (heap_setCell_other w ⟨g,i,none⟩ b x (fun e=>hf _ _ _ _ rfl h0 e))
end
section
open Go.RowKit
def StmPost (w:World) (p q t:Nat) (B:List Nat) (e:Ending) (w':World):Prop:=
 ∃g1 g2 g3 g4 c1 c2 c3 c4:Nat,e=.returned (.agg #[.slice (some ⟨g1,0,none⟩) 1 c1,.slice (some ⟨g2,0,none⟩) B.length c2,.slice (some ⟨g3,0,none⟩) 1 c3])∧Stm w' g1 g2 g3 g4 c4 p q t B∧(w.heap.size≤g1∧w.heap.size≤g2∧w.heap.size≤g3∧w.heap.size≤g4)∧Below w.heap.size w w'
theorem Stm.one {w:World} {g1 g2 g3 g4 c4 p q t b:Nat} (h1:Blk w g1 24 [.string (E p),.string (E q)]) (h2:Blk w g2 113 [.string { data:=#[] }])
  (h3:Blk w g3 115 [.int .i64 0,.string (E t),.slice (some ⟨g4,0,none⟩) 1 c4]) (h4:Blk w g4 118 [.string (E b),.int .i64 0,.bool false,.string (E 1)]) (hc:1≤c4):Stm w g1 g2 g3 g4 c4 p q t [b] where
 l1:=h1.lt
 l2:=h2.lt
 l3:=h3.lt
 l4:=h4.lt
 m0:=h1.cell 0
 m1:=h1.cell 1
 vs:=fun j hj=>by
            obtain rfl:j=0:=by simp at hj;exact hj
            exact h2.cell 0
 e0:=h3.cell 0
 e1:=h3.cell 1
 e2:=h3.cell 2
 t0:=fun j hj=>by
            obtain rfl:j=0:=by simp at hj;exact hj
            exact h4.cell 0
 t1:=fun j hj=>by
            obtain rfl:j=0:=by simp at hj;exact hj
            exact h4.cell 1
 t2:=fun j hj=>by
            obtain rfl:j=0:=by simp at hj;exact hj
            exact h4.cell 2
 t3:=fun j hj=>by
            obtain rfl:j=0:=by simp at hj;exact hj
            exact h4.cell 3
 cap:=hc
theorem two_cases {j:Nat} {l:List Nat} {b c:Nat} (h:l=[b,c]) (hj:j<l.length):j=0∨j=1:=by subst h;simp at hj;omega
theorem Stm.two {w:World} {g1 g2 g3 g4 c4 p q t b c:Nat} (h1:Blk w g1 24 [.string (E p),.string (E q)]) (h2:Blk w g2 113 [.string { data:=#[] },.string { data:=#[] }])
  (h3:Blk w g3 115 [.int .i64 0,.string (E t),.slice (some ⟨g4,0,none⟩) 2 c4]) (h4:Blk w g4 118 [.string (E b),.int .i64 0,.bool false,.string (E 1),.string (E c),.int .i64 1,.bool false,.string (E 1)]) (hc:2≤c4):Stm w g1 g2 g3 g4 c4 p q t [b,c] where
 l1:=h1.lt
 l2:=h2.lt
 l3:=h3.lt
 l4:=h4.lt
 m0:=h1.cell 0
 m1:=h1.cell 1
 vs:=fun j hj=>by
            rcases two_cases rfl hj with rfl | rfl
            ·exact h2.cell 0
            ·exact h2.cell 1
 e0:=h3.cell 0
 e1:=h3.cell 1
 e2:=h3.cell 2
 t0:=fun j hj=>by
            rcases two_cases rfl hj with rfl | rfl
            ·exact h4.cell 0
            ·exact h4.cell 4
 t1:=fun j hj=>by
            rcases two_cases rfl hj with rfl | rfl
            ·exact h4.cell 1
            ·exact h4.cell 5
 t2:=fun j hj=>by
            rcases two_cases rfl hj with rfl | rfl
            ·exact h4.cell 2
            ·exact h4.cell 6
 t3:=fun j hj=>by
            rcases two_cases rfl hj with rfl | rfl
            ·exact h4.cell 3
            ·exact h4.cell 7
 cap:=hc
theorem Blk.newAt {w:World} {g:Nat} {cs:Array Value} {T:TypeId} (h:g=w.heap.size):Blk (w.alloc (.cells cs T)) g T cs.toList:=by rw [h];exact Blk.new w cs T
theorem Stm.set {w:World} {g1 g2 g3 g4 c4 p q t r i:Nat} {B:List Nat} {v:Value} (h:Stm w g1 g2 g3 g4 c4 p q t B) (h1:g1≠r) (h2:g2≠r) (h3:g3≠r) (h4:g4≠r):Stm (w.setCell ⟨r,i,none⟩ v) g1 g2 g3 g4 c4 p q t B:=by
 have k:∀(g j:Nat),g≠r→(w.setCell ⟨r,i,none⟩ v).cell? ⟨g,j,none⟩=w.cell? ⟨g,j,none⟩:=fun g j hg=>World.cell?_setCell_other _ _ _ _ (fun e=>hg (congrArg Addr.block e).symm)
 exact ⟨by rw [World.size_setCell];exact h.l1,by rw [World.size_setCell];exact h.l2,by rw [World.size_setCell];exact h.l3,by rw [World.size_setCell];exact h.l4,
  (k _ _ h1).trans h.m0,(k _ _ h1).trans h.m1,fun j hj=>(k _ _ h2).trans (h.vs j hj),(k _ _ h3).trans h.e0,(k _ _ h3).trans h.e1,(k _ _ h3).trans h.e2,
  fun j hj=>(k _ _ h4).trans (h.t0 j hj),fun j hj=>(k _ _ h4).trans (h.t1 j hj),fun j hj=>(k _ _ h4).trans (h.t2 j hj),fun j hj=>(k _ _ h4).trans (h.t3 j hj),h.cap⟩
theorem Stm.drew {w:World} {g1 g2 g3 g4 c4 p q t:Nat} {B:List Nat} (h:Stm w g1 g2 g3 g4 c4 p q t B):Stm w.drew g1 g2 g3 g4 c4 p q t B:=h.after (Below.refl _ _).drew
def ResPost (w:World) (p q t:Nat) (B:List Nat) (e:Ending) (w':World):Prop:=
 ∃g1 g2 g3 g4 c1 c2 c3 c4:Nat,e=.returned (.tuple #[.agg #[.slice (some ⟨g1,0,none⟩) 1 c1,.slice (some ⟨g2,0,none⟩) B.length c2,.slice (some ⟨g3,0,none⟩) 1 c3],.int .i64 0])∧Stm w' g1 g2 g3 g4 c4 p q t B∧Below w.heap.size w w'
end
section
/- A call of a Go function at a step of a region that draws its order,by the callee's contract. -/
open Go.RowKit Go.Shelf
theorem wp_call_law {P:Program} {o:Oper} {a:Act} {w:World} {K:Act→World→Prop} {Q:Exit→Act→World→Prop} (f:FuncId) (xs:Array Operand) (ts:Array TypeId)
  (ho:o.op=.call { callee:=.value (.func f),args:=xs,argTypes:=ts }) (hE:∀args w,(callFunc f args).run P w=.ok (.enter f args) w) {v:Value} {R:World→Prop}
  (hc:Calls P f (xs.map a.eval) w fun e w'=>e=.returned v∧R w') (h:∀w',R w'→K (a.put o.dst v) w'):o.wp P a w K Q:=by
 have hrun:(execOp a.eval o).run P w=.ok (.enter f (xs.map a.eval)) w:=by
  simp [execOp,ho,resolve,invoke,go_sem,hE]
 unfold Oper.wp;rw [hrun,Oper.upon_enter];refine hc.mono fun e w' he=>?_
 obtain ⟨rfl,hR⟩:=he;exact h w' hR
theorem step_call1 {P:Program} {ops:Array Oper} {o:Oper} {a:Act} {w:World} {K:Act→World→Prop} {Q:Exit→Act→World→Prop} {E:Prop} (hgd:o.guard=none) (f:FuncId) (x:Operand) (t:TypeId)
  (ho:o.op=.call { callee:=.value (.func f),args:=#[x],argTypes:=#[t] }) (hE:∀args w,(callFunc f args).run P w=.ok (.enter f args) w) (u:Value) (hx:a.eval x=u) {v:Value} {R:World→Prop}
  (hc:Calls P f #[u] w fun e w'=>e=.returned v∧R w') (h:∀w',R w'→K (a.put o.dst v) w') :
  if Region.wanted o (yielded ops a.tmps)=true then Oper.wp P o a w K Q else E:=by
 have hw:Region.wanted o (yielded ops a.tmps)=true:=by simp [Region.wanted,hgd]
 rw [if_pos hw];refine wp_call_law f #[x] #[t] ho hE ?_ h;have e:(#[x].map a.eval)=#[u]:=by simp [hx]
 rw [e];exact hc
theorem step_call {P:Program} {ops:Array Oper} {o:Oper} {a:Act} {w:World} {K:Act→World→Prop} {Q:Exit→Act→World→Prop} {E:Prop} (hgd:o.guard=none) (f:FuncId) (xs:Array Operand) (ts:Array TypeId)
  (ho:o.op=.call { callee:=.value (.func f),args:=xs,argTypes:=ts }) (hE:∀args w,(callFunc f args).run P w=.ok (.enter f args) w) {v:Value} {R:World→Prop}
  (hc:Calls P f (xs.map a.eval) w fun e w'=>e=.returned v∧R w') (h:∀w',R w'→K (a.put o.dst v) w') :
  if Region.wanted o (yielded ops a.tmps)=true then Oper.wp P o a w K Q else E:=by
 have hw:Region.wanted o (yielded ops a.tmps)=true:=by simp [Region.wanted,hgd]
 rw [if_pos hw];exact wp_call_law f xs ts ho hE hc h
end
end Go.Proofs.YtfgandecbkbleaaGreatDoor
