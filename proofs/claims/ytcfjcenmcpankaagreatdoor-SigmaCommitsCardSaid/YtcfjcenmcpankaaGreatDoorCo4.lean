import Derived.Test.YtcfjcenmcpankaaGreatDoorIdx
import Derived.Test.YtcfjcenmcpankaaGreatDoorSat1
import Derived.Test.YtcfjcenmcpankaaGreatDoorRsp3
import Derived.Test.YtcfjcenmcpankaaGreatDoorRPow1
import Derived.Laws.CopyOwn
import Derived.Test.YtcfjcenmcpankaaGreatDoorInt4
set_option linter.unusedVariables false
set_option linter.unusedSimpArgs false
set_option maxRecDepth 100000
set_option maxHeartbeats 16000000
namespace Go.Proofs.YtcfjcenmcpankaaGreatDoor
section
open Go.RowKit
theorem idx_cgd (l:List ByteArray) (p:ByteArray→Bool) (v:Value) (w:World) (hn:l.length≤1000) (hR:SsAt w v l)
  (hf:∀k (hk:k<l.length) (w':World),Below w.heap.size w w'→Calls Tryz.prog 227 #[.string (l[k]'hk)] w' fun e w''=>e=.returned (.bool (p (l[k]'hk)))∧Below w'.heap.size w' w'') :
  Calls Tryz.prog 60 #[v,.func (.func 227) #[] #[]] w (IPost (l.any p) w):=by
 obtain ⟨ao,c,rfl⟩:=RAt.form hR;obtain ⟨n,hn'⟩:∃n,n=l.length:=⟨_,rfl⟩;have HN:=Lib.hid hn';rw [←hn'] at hR hn ⊢;clear hn';have HF:=Lib.hid hf;clear hf;go_enter Tryz.func60,Tryz.ntmps60
 go_wp2;go_loopw [8] (fun i wr=>∃k:Nat,k≤n∧i=.int .i64 k∧Hid ((l.take k).any p=false)∧Below w.heap.size w wr) (fun i _=>n-(intOf i).toNat)
 case atStart=>exact ⟨0,by omega,rfl,rfl,Below.refl _ _⟩
 case round =>
  obtain ⟨k,hk,rfl,HA,hbr⟩:=hrel;obtain ⟨wp,hwp⟩:∃wp,wp=wr:=⟨_,rfl⟩;subst hwp;replace hR:=SsAt.after hR hbr;by_cases hlt:k<n
  ·have hkl:k<l.length:=by rw [←HN.out];exact hlt
   have HT:=Lib.hid (any_take p l k hkl);have HB:Hid (p (l[k]'hkl)=true→l.any p=true):=any_hit p l k hkl;obtain ⟨b,o,rfl,hbl,x1⟩:=SsAt.at_ hR hkl;have HC:=Lib.hid (HF.out k hkl _ hbr);generalize p (l[k]'hkl)=pk at HT HB HC;generalize (l[k]'hkl)=x at x1 HC;have h0k:(0:Int)≤(k:Int):=by omega
   have h1k:(k:Int)<(n:Int):=by omega
   clear hR;cases pk
   ·have HX:Hid ((l.take (k+1)).any p=false):=by rw [Hid,HT.out,HA.out];rfl
    clear HT HB;go_wp2_with fail
    refine (HC.out).mono ?_;rintro e w2 ⟨rfl,hb2⟩;go_wp2;go_roundw
    case rel=>exact ⟨k+1,by omega,by go_num,HX,bt hbr hb2⟩
    case measure=>simp [intOf];omega
   ·have HX:Hid (l.any p=true):=HB.out rfl;clear HT HB;go_wp2_with fail
    refine (HC.out).mono ?_;rintro e w2 ⟨rfl,hb2⟩;go_wp2;go_ret
    exact ⟨(k:Int),rfl,by rw [HX.out];exact decide_eq_true h0k,bt hbr hb2⟩
  ·have HX:Hid (l.any p=false):=any_end p l k (by rw [←HN.out];omega) HA.out;go_wp2;go_ret
   exact ⟨-1,rfl,by rw [HX.out];rfl,hbr⟩
theorem cont_cgd (l:List ByteArray) (p:ByteArray→Bool) (b:Bool) (v:Value) (w:World) (hn:l.length≤1000) (hR:SsAt w v l) (hb:l.any p=b)
  (hf:∀k (hk:k<l.length) (w':World),Below w.heap.size w w'→Calls Tryz.prog 227 #[.string (l[k]'hk)] w' fun e w''=>e=.returned (.bool (p (l[k]'hk)))∧Below w'.heap.size w' w'') :
  Calls Tryz.prog 21 #[v,.func (.func 227) #[] #[]] w fun e w'=>e=.returned (.bool b)∧Below w.heap.size w w':=by
 have HE:=Lib.hid (idx_cgd l p v w hn hR hf);rw [hb] at HE;obtain ⟨ao,c,rfl⟩:=RAt.form hR;generalize l.length=n at HE;clear hn hR hf hb;go_enter Tryz.func21,Tryz.ntmps21
 go_wp2_with fail
 refine HE.out.mono ?_;rintro e w1 ⟨i,rfl,hi,hb1⟩;have HI:=Lib.hid hi;clear hi;cases b
 ·have hi:decide (0≤i)=false:=HI.out;go_wp2;go_ret
  exact ⟨rfl,hb1⟩
 ·have hi:decide (0≤i)=true:=HI.out;go_wp2;go_ret
  exact ⟨rfl,hb1⟩
end
section
open Go.RowKit Go.Shelf
theorem ss_nil (w:World):SsAt w (.slice none 0 0) []:=⟨none,0,rfl,.inl rfl⟩
def FarS (u:Value) (g:Nat):Prop:=∀b o n c,u=.slice (some ⟨b,o,none⟩) n c→n≠0→b≠g
def TFar (t:Value) (g:Nat):Prop:=∀u x y,t=.agg #[u,x,y]→∀b,b<g→FarS u b
theorem TFar.zero (g:Nat) (x y:Value):TFar (.agg #[.slice none 0 0,x,y]) g:=fun u x' y' h b hb b' o n c e _=>by
 injection h with h
 have h:=congrArg (fun a=>a[0]?) h;simp at h;subst h;cases e
theorem TFar.of {u x y:Value} {g:Nat} (hf:∀b,b<g→FarS u b):TFar (.agg #[u,x,y]) g:=fun u' x' y' h b hb=>by
 injection h with h
 have h:=congrArg (fun a=>a[0]?) h;simp at h;subst h;exact hf b hb
theorem SsAt.app {w:World} {base cap g:Nat} {V:List ByteArray} (h:w.ownsRow base 22 1 (.slice (some ⟨g,0,none⟩) V.length cap) V.length (V.map .string)):SsAt w (.slice (some ⟨g,0,none⟩) V.length cap) V:=by
 refine ⟨_,_,rfl,?_⟩;by_cases h0:V.length=0
 ·exact .inl h0
 ·refine .inr ⟨g,0,rfl,(own_cap h).1,fun j hj=>⟨[.string V[j]],rfl,fun i hi=>?_⟩⟩;obtain rfl:i=0:=by omega
  have:=own_cellS h j (.string V[j]) (by simp [hj]);simpa using this
theorem SsAt.set_other {w:World} {g n c g2 i:Nat} {x:Value} {V:List ByteArray} (h:SsAt w (.slice (some ⟨g,0,none⟩) n c) V) (hne:g≠g2):SsAt (w.setCell ⟨g2,i,none⟩ x) (.slice (some ⟨g,0,none⟩) n c) V:=by
 obtain ⟨ao,c',e,h⟩:=h;refine ⟨ao,c',e,?_⟩;rcases h with h | ⟨b,o,h1,h2,h3⟩
 ·exact .inl h
 ·subst h1;injection e with e1 e2 e3
  injection e1 with e1
  injection e1 with e4 e5 e6
  refine .inr ⟨b,o,rfl,by simpa using h2,fun j hj=>?_⟩;obtain ⟨cs,hq,hc⟩:=h3 j hj;refine ⟨cs,hq,fun i2 hi=>?_⟩;rw [←hc i2 hi];exact World.cell?_of_block (heap_setCell_other w ⟨g2,i,none⟩ b x (fun e=>hne (by rw [e4];exact e)))
theorem SsAt.set_far {w:World} {g i:Nat} {v x:Value} {V:List ByteArray} (h:SsAt w v V) (hf:FarS v g):SsAt (w.setCell ⟨g,i,none⟩ x) v V:=by
 obtain ⟨ao,c',rfl,h⟩:=h;refine ⟨ao,c',rfl,?_⟩;by_cases h0:V.length=0
 ·exact .inl h0
 rcases h with h | ⟨b,o,rfl,h2,h3⟩
 ·exact .inl h
 ·refine .inr ⟨b,o,rfl,by simpa using h2,fun j hj=>?_⟩;obtain ⟨cs,hq,hc⟩:=h3 j hj;refine ⟨cs,hq,fun i2 hi=>?_⟩;rw [←hc i2 hi];exact World.cell?_of_block (heap_setCell_other w ⟨g,i,none⟩ b x (fun e=>hf _ _ _ _ rfl h0 e))
theorem SsAt.grown {w w':World} {row:Option Nat} {v:Value} {V:List ByteArray} (h:SsAt w v V) (hg:w.grownBy w' row) (hf:∀g,row=some g→FarS v g):SsAt w' v V:=by
 obtain ⟨ao,c',rfl,h⟩:=h;refine ⟨ao,c',rfl,?_⟩;by_cases h0:V.length=0
 ·exact .inl h0
 rcases h with h | ⟨b,o,rfl,h2,h3⟩
 ·exact .inl h
 ·refine .inr ⟨b,o,rfl,Nat.lt_of_lt_of_le h2 hg.size,fun j hj=>?_⟩;obtain ⟨cs,hq,hc⟩:=h3 j hj;refine ⟨cs,hq,fun i hi=>?_⟩;rw [←hc i hi];exact World.cell?_of_block (hg.block b h2 (fun e=>hf b e.symm _ _ _ _ rfl h0 rfl))
theorem blk5 (w:World) (A B C D F:Array Value) (TA TB TC TD TF:TypeId) :
  Blk (((((w.alloc (.cells A TA)).alloc (.cells B TB)).alloc (.cells C TC)).alloc (.cells D TD)).alloc (.cells F TF)) w.heap.size TA A.toList ∧
  Blk (((((w.alloc (.cells A TA)).alloc (.cells B TB)).alloc (.cells C TC)).alloc (.cells D TD)).alloc (.cells F TF)) (w.heap.size+1) TB B.toList ∧
  Blk (((((w.alloc (.cells A TA)).alloc (.cells B TB)).alloc (.cells C TC)).alloc (.cells D TD)).alloc (.cells F TF)) (w.heap.size+1+1) TC C.toList ∧
  Blk (((((w.alloc (.cells A TA)).alloc (.cells B TB)).alloc (.cells C TC)).alloc (.cells D TD)).alloc (.cells F TF)) (w.heap.size+1+1+1) TD D.toList ∧
  Blk (((((w.alloc (.cells A TA)).alloc (.cells B TB)).alloc (.cells C TC)).alloc (.cells D TD)).alloc (.cells F TF)) (w.heap.size+1+1+1+1) TF F.toList ∧
  Below w.heap.size w (((((w.alloc (.cells A TA)).alloc (.cells B TB)).alloc (.cells C TC)).alloc (.cells D TD)).alloc (.cells F TF)):=by
 refine ⟨((((Blk.new w A TA).alloc _).alloc _).alloc _).alloc _,(((blkN (by simp)).alloc _).alloc _).alloc _,((blkN (by simp)).alloc _).alloc _,(blkN (by simp)).alloc _,blkN (by simp),ba (ba (b3 w _ _ _) _) _⟩
theorem IsAt.set_far {w:World} {g i:Nat} {v x:Value} {V:List (Bool × ByteArray)} (h:IsAt w v V) (hf:FarS v g):IsAt (w.setCell ⟨g,i,none⟩ x) v V:=by
 obtain ⟨ao,c',rfl,h⟩:=h;refine ⟨ao,c',rfl,?_⟩;by_cases h0:V.length=0
 ·exact .inl h0
 rcases h with h | ⟨b,o,rfl,h2,h3⟩
 ·exact .inl h
 ·refine .inr ⟨b,o,rfl,by simpa using h2,fun j hj=>?_⟩;obtain ⟨cs,hq,hc⟩:=h3 j hj;refine ⟨cs,hq,fun i2 hi=>?_⟩;rw [←hc i2 hi];exact World.cell?_of_block (heap_setCell_other w ⟨g,i,none⟩ b x (fun e=>hf _ _ _ _ rfl h0 e))
end
section
open Go.RowKit Go.Shelf
structure Tp where
 vals:List ByteArray
 seed:ByteArray
 pos:Int
def numb (s:ByteArray):Nat:=val s.data.toList
theorem numb_E (n:Nat):numb (E n)=n:=val_E n
def Tp.good (T:Tp):Bool:=T.vals.all vldB&&(decide (0≤T.pos)&&decide (T.pos≤2147483647))
def Tp.nil:Tp:=⟨[],⟨#[]⟩,0⟩
def Tp.on (T:Tp) (k:Nat):Tp:=⟨T.vals,T.seed,T.pos+k⟩
theorem Tp.on_on (T:Tp) (a b:Nat):(T.on a).on b=T.on (a+b):=by simp [Tp.on];omega
abbrev Att:=ByteArray→Nat→Nat→Nat→Nat
def coinS (att:Att) (T:Tp) (n:Nat):Nat × Nat:=
 match (List.range 256).find? (fun a=>decide (att T.seed T.pos.toNat a (nb n)<n)) with
 | some a=>(0,att T.seed T.pos.toNat a (nb n))
 | none=>(14,0)
def coinD (att:Att) (T:Tp) (n:Nat):Nat × Nat:=
 if T.pos.toNat<T.vals.length then (if numb (T.vals.getD T.pos.toNat ⟨#[]⟩)<n then (0,numb (T.vals.getD T.pos.toNat ⟨#[]⟩)) else (2,0))
 else if T.seed.size=0∨T.pos=2147483647 then (14,0) else coinS att T n
def coin (att:Att) (T:Tp) (n:Nat):Nat × Nat:=if T.good=false then (3,0) else if n=0 then (11,0) else coinD att T n
def Tp.after (T:Tp) (e:Nat):Tp:=if e=0 then T.on 1 else Tp.nil
theorem coinD_val {att:Att} {T:Tp} {n x:Nat} (h:T.pos.toNat<T.vals.length) (hx:T.vals[T.pos.toNat]=E x) (hn:x<n):coinD att T n=(0,x):=by
 have e:numb (T.vals.getD T.pos.toNat ⟨#[]⟩)=x:=by rw [List.getD_eq_getElem?_getD,List.getElem?_eq_getElem h,Option.getD_some,hx,numb_E]
 unfold coinD;rw [if_pos h,e,if_pos hn]
theorem coinD_big {att:Att} {T:Tp} {n x:Nat} (h:T.pos.toNat<T.vals.length) (hx:T.vals[T.pos.toNat]=E x) (hn:n≤x):coinD att T n=(2,0):=by
 have e:numb (T.vals.getD T.pos.toNat ⟨#[]⟩)=x:=by rw [List.getD_eq_getElem?_getD,List.getElem?_eq_getElem h,Option.getD_some,hx,numb_E]
 unfold coinD;rw [if_pos h,e,if_neg (by omega)]
theorem coinD_no {att:Att} {T:Tp} {n:Nat} (h:T.vals.length≤T.pos.toNat) (hs:T.seed.size=0∨T.pos=2147483647):coinD att T n=(14,0):=by
 unfold coinD;rw [if_neg (by omega),if_pos hs]
theorem coinD_s {att:Att} {T:Tp} {n:Nat} (h:T.vals.length≤T.pos.toNat) (hs:T.seed.size≠0) (hp:T.pos≠2147483647):coinD att T n=coinS att T n:=by
 unfold coinD;rw [if_neg (by omega),if_neg (by omega)]
theorem find_range {p:Nat→Bool} {k n:Nat} (hk:k<n) (h:∀j,j<k→p j=false) (hp:p k=true):(List.range n).find? p=some k:=by
 rw [List.find?_range_eq_some];exact ⟨hp,List.mem_range.2 hk,fun j hj=>by rw [h j hj];rfl⟩
theorem coinS_at {att:Att} {T:Tp} {n a:Nat} (ha:a<256) (h:∀j,j<a→n≤att T.seed T.pos.toNat j (nb n)) (hx:att T.seed T.pos.toNat a (nb n)<n):coinS att T n=(0,att T.seed T.pos.toNat a (nb n)):=by
 unfold coinS;rw [find_range (p:=fun a=>decide (att T.seed T.pos.toNat a (nb n)<n)) ha (fun j hj=>decide_eq_false (by have:=h j hj;omega)) (decide_eq_true hx)]
theorem coinS_no {att:Att} {T:Tp} {n:Nat} (h:∀j,j<256→n≤att T.seed T.pos.toNat j (nb n)):coinS att T n=(14,0):=by
 unfold coinS;rw [List.find?_eq_none.2 (fun j hj=>by have:=h j (List.mem_range.1 hj);simp;omega)]
theorem coinD_lt {att:Att} {T:Tp} {n:Nat} (h:(coinD att T n).1=0):(coinD att T n).2<n:=by
 unfold coinD coinS at *;split at h
 ·split at h
  ·rename_i h1 h2;rw [if_pos h1,if_pos h2];exact h2
  ·simp at h
 ·rename_i h1;split at h
  ·simp at h
  ·rename_i h2;rw [if_neg h1,if_neg h2];split at h
   ·rename_i a ha;have:=List.find?_some ha;simpa using this
   ·simp at h
def Tp.rdy (T:Tp) (n:Nat):Nat:=if T.good=false then 3 else if n=0 then 11 else 0
def csgn (att:Att) (T:Tp) (m:Nat):Nat × Int:=
 if T.rdy m≠0 then (T.rdy m,0) else if (coinD att T (2*m-1)).1=0 then (0,((coinD att T (2*m-1)).2:Int)-((m-1:Nat):Int)) else ((coinD att T (2*m-1)).1,0)
def TAt (w:World) (v:Value) (T:Tp):Prop:=∃u,v=.agg #[u,.string T.seed,.int .i64 T.pos]∧SsAt w u T.vals
theorem TAt.after {w w':World} {v:Value} {T:Tp} (h:TAt w v T) (hb:Below w.heap.size w w'):TAt w' v T:=by
 obtain ⟨u,h1,h2⟩:=h;exact ⟨u,h1,SsAt.after h2 hb⟩
structure Tp.Ok (T:Tp):Prop where
 n:T.vals.length≤100
 s:∀x∈T.vals,x.size≤100
 d:T.seed.size≤100
theorem Tp.Ok.on {T:Tp} (h:T.Ok) (k:Nat):(T.on k).Ok:=⟨h.n,h.s,h.d⟩
def drwJ (att:Att) (q C K b:Nat) (T:Tp):Nat × Int:=
 if b=0 then ((coin att T (lim q C K b).1).1,((coin att T (lim q C K b).1).2:Int)) else csgn att T (lim q C K b).1
def NSta.drw (N:NSta) (att:Att) (C K:Nat) (T:Tp) (j:Nat):Nat × Int:=drwJ att N.ord C K (N.vars.getD j 0) (T.on j)
def NSta.drwL (N:NSta) (att:Att) (C K:Nat) (T:Tp):List Int:=(List.range N.vars.length).map fun j=>(N.drw att C K T j).2
structure Drw where
 err:Nat
 msk:List Int
 tp:Tp
def NSta.drwR (N:NSta) (att:Att) (C K:Nat) (T:Tp):Drw:=
 match (List.range N.vars.length).find? (fun j=>(N.drw att C K T j).1 != 0) with
 | some j=>⟨(N.drw att C K T j).1,[],Tp.nil⟩
 | none=>⟨0,N.drwL att C K T,T.on N.vars.length⟩
theorem drw_bad {N:NSta} {att:Att} {C K:Nat} {T:Tp} {k:Nat} (hk:k<N.vars.length) (h:∀j,j<k→(N.drw att C K T j).1=0) (he:(N.drw att C K T k).1≠0):N.drwR att C K T=⟨(N.drw att C K T k).1,[],Tp.nil⟩:=by
 unfold NSta.drwR;rw [find_range (p:=fun j=>(N.drw att C K T j).1 != 0) hk (fun j hj=>by rw [h j hj];rfl) (bne_iff_ne.2 he)]
theorem drw_ok {N:NSta} {att:Att} {C K:Nat} {T:Tp} (h:∀j,j<N.vars.length→(N.drw att C K T j).1=0):N.drwR att C K T=⟨0,N.drwL att C K T,T.on N.vars.length⟩:=by
 unfold NSta.drwR;rw [List.find?_eq_none.2 (fun j hj=>by have:=h j (List.mem_range.1 hj);simp [this])]
theorem drw_step (N:NSta) (att:Att) (C K:Nat) (T:Tp) (k:Nat) (h:k<N.vars.length):(N.drwL att C K T).take (k+1)=(N.drwL att C K T).take k++[(N.drw att C K T k).2]:=by
 unfold NSta.drwL;rw [←List.map_take,List.take_succ_eq_append_getElem (by simpa using h),List.map_append,List.map_take];simp only [List.getElem_range,List.map_cons,List.map_nil]
theorem drw_at (N:NSta) (att:Att) (C K:Nat) (T:Tp) (k:Nat) (h:k<N.vars.length):N.drw att C K T k=drwJ att N.ord C K N.vars[k] (T.on k):=by
 unfold NSta.drw;rw [List.getD_eq_getElem?_getD,List.getElem?_eq_getElem h,Option.getD_some]
def NSta.prv (N:NSta) (att:Att) (C K c:Nat) (W:List Int):Nat→Tp→Drw
 | 0,_=>⟨15,[],Tp.nil⟩
 | f+1,T=>if (N.drwR att C K T).err≠0 then ⟨(N.drwR att C K T).err,[],Tp.nil⟩
  else if N.rsp2 C K c W (N.drwR att C K T).msk=0 then N.drwR att C K T else N.prv att C K c W f (N.drwR att C K T).tp
end
section
open Go.RowKit Go.Shelf
def CPost (w:World) (T:Tp) (r:Nat × Nat) (e:Ending) (w':World):Prop:=∃t:Value,e=.returned (.tuple #[.string (E r.2),t,.int .i64 (r.1:Int)])∧TAt w' t (T.after r.1)∧TFar t w.heap.size∧Below w.heap.size w w'
def HAtt (att:Att) (sd:ByteArray) (w0:World):Prop:=sd.size≠0→∀(p a k:Nat),p≤2147483647→a<256→1≤k→k≤512→att sd p a k<256^64 ∧
 ∀(ao:Option Addr) (m c:Nat) (w:World),Below w0.heap.size w0 w→Calls Tryz.prog 208 #[.agg #[.slice ao m c,.string sd,.int .i64 (p:Int)],.int .i64 (a:Int),.int .i64 (k:Int)] w fun e w'=>e=.returned (.string (E (att sd p a k)))∧Below w.heap.size w w'
theorem HAtt.after {att:Att} {sd:ByteArray} {w w':World} (h:HAtt att sd w) (hb:Below w.heap.size w w'):HAtt att sd w':=fun hs p a k h1 h2 h3 h4=>⟨(h hs p a k h1 h2 h3 h4).1,fun ao m c W hW=>(h hs p a k h1 h2 h3 h4).2 ao m c W (bt hb hW)⟩
theorem cgd1_c (s:ByteArray) (w:World) (hs:s.size≤1000) :
  Calls Tryz.prog 227 #[.string s] w fun e w'=>e=.returned (.bool (!(vldB s)))∧Below w.heap.size w w':=by
 have HV:Hid (∀w,Calls Tryz.prog 49 #[.string s] w fun e w'=>e=.returned (.bool (vldB s))∧w'=w):=fun w=>valB_c s _ w hs rfl
 generalize vldB s=b at HV ⊢;cases b
 ·go_enter Tryz.func227,Tryz.ntmps227
  go_wp2_with fail
  refine (HV.out _).mono ?_;rintro e w2 ⟨rfl,rfl⟩;go_wp2;go_ret
  exact ⟨rfl,Below.refl _ _⟩
 ·go_enter Tryz.func227,Tryz.ntmps227
  go_wp2_with fail
  refine (HV.out _).mono ?_;rintro e w2 ⟨rfl,rfl⟩;go_wp2;go_ret
  exact ⟨rfl,Below.refl _ _⟩
theorem any_not (V:List ByteArray):V.any (fun x=>!(vldB x))=!(V.all vldB):=by
 induction V with
 | nil=>rfl
 | cons a t ih=>rw [List.any_cons,List.all_cons,ih];cases vldB a <;> rfl
theorem cgood_c (T:Tp) (v:Value) (w:World) (hok:T.Ok) (hV:SsAt w v T.vals) :
  Calls Tryz.prog 207 #[.agg #[v,.string T.seed,.int .i64 T.pos]] w fun e w'=>e=.returned (.bool T.good)∧Below w.heap.size w w':=by
 obtain ⟨V,sd,p⟩:=T;have HG:Hid (Tp.good ⟨V,sd,p⟩=(V.all vldB&&(decide (0≤p)&&decide (p≤2147483647)))):=rfl
 have HC:Hid (∀w',Below w.heap.size w w'→Calls Tryz.prog 21 #[v,.func (.func 227) #[] #[]] w' fun e w''=>e=.returned (.bool (!(V.all vldB)))∧Below w'.heap.size w' w''):=fun w' hb =>
  cont_cgd V (fun x=>!(vldB x)) _ v w' (by have:=hok.n;simp only [] at this;omega) (SsAt.after hV hb) (any_not V) (fun k hk w2 _=>cgd1_c _ w2 (by have:=hok.s _ (List.getElem_mem hk);omega))
 obtain ⟨ao,c,rfl⟩:=RAt.form hV;simp only [];generalize Tp.good ⟨V,sd,p⟩=g at HG ⊢;generalize V.all vldB=b at HG HC;generalize V.length=n at HC ⊢;clear hok hV;have hP:=Blk.new w #[.slice ao n c,.string sd,.int .i64 p] 41;have hBW:=b1 w (.cells #[.slice ao n c,.string sd,.int .i64 p] 41);obtain ⟨t1,ht1⟩:∃t:Bool,t=decide (0≤p):=⟨_,rfl⟩;obtain ⟨t2,ht2⟩:∃t:Bool,t=decide (p≤2147483647):=⟨_,rfl⟩;rw [←ht1,←ht2] at HG;have d1:=ht1.symm;have d2:=ht2.symm;clear ht1 ht2;obtain ⟨hPc0,hPf0,hPc1,hPf1,hPc2,hPf2⟩:=hP.x3;cases t1
 ·have HX:Hid (g=false):=by rw [Hid,HG.out];simp
  go_enter Tryz.func207,Tryz.ntmps207
  go_wp2;go_ret
  rw [HX.out];exact ⟨rfl,hBW⟩
 ·cases t2
  ·have HX:Hid (g=false):=by rw [Hid,HG.out];simp
   go_enter Tryz.func207,Tryz.ntmps207
   go_wp2;go_ret
   rw [HX.out];exact ⟨rfl,hBW⟩
  ·have HX:Hid (g=b):=by rw [Hid,HG.out];simp
   cases b
   ·go_enter Tryz.func207,Tryz.ntmps207
    go_wp2_with fail
    refine (HC.out _ hBW).mono ?_;rintro e w2 ⟨rfl,hb2⟩;go_wp2;go_ret
    rw [HX.out];exact ⟨rfl,bt hBW hb2⟩
   ·go_enter Tryz.func207,Tryz.ntmps207
    go_wp2_with fail
    refine (HC.out _ hBW).mono ?_;rintro e w2 ⟨rfl,hb2⟩;go_wp2;go_ret
    rw [HX.out];exact ⟨rfl,bt hBW hb2⟩
theorem cready_c (T:Tp) (v:Value) (n:Nat) (w:World) (hok:T.Ok) (hn:n<256^128) (hV:SsAt w v T.vals) :
  Calls Tryz.prog 167 #[.agg #[v,.string T.seed,.int .i64 T.pos],.string (E n)] w fun e w'=>e=.returned (.int .i64 (T.rdy n:Nat))∧Below w.heap.size w w':=by
 have HG:Hid (∀w',Below w.heap.size w w'→Calls Tryz.prog 207 #[.agg #[v,.string T.seed,.int .i64 T.pos]] w' fun e w''=>e=.returned (.bool T.good)∧Below w'.heap.size w' w''):=fun w' hb=>cgood_c T v w' hok (SsAt.after hV hb)
 have HV:Hid (∀w,Calls Tryz.prog 49 #[.string (E n)] w fun e w'=>e=.returned (.bool true)∧w=w'):=fun w=>validE_c n w hn
 have HR:Hid (T.rdy n=if T.good=false then 3 else if n=0 then 11 else 0):=rfl;obtain ⟨ao,c,rfl⟩:=RAt.form hV;obtain ⟨V,sd,p⟩:=T;simp only [] at HG ⊢;generalize Tp.rdy ⟨V,sd,p⟩ n=r at HR ⊢;generalize Tp.good ⟨V,sd,p⟩=g at HG HR;generalize V.length=m at HG ⊢;clear hok hn hV;have hP:=Blk.new w #[.slice ao m c,.string sd,.int .i64 p] 41;have hBW:=b1 w (.cells #[.slice ao m c,.string sd,.int .i64 p] 41);obtain ⟨hPc0,hPf0,hPc1,hPf1,hPc2,hPf2⟩:=hP.x3;cases g
 ·have HX:Hid (r=3):=by rw [Hid,HR.out];rfl
  go_enter Tryz.func167,Tryz.ntmps167
  go_wp2_with fail
  refine (HG.out _ hBW).mono ?_;rintro e w2 ⟨rfl,hb2⟩;go_wp2;go_ret
  rw [HX.out];exact ⟨rfl,bt hBW hb2⟩
 ·by_cases h0:n=0
  ·have HX:Hid (r=11):=by rw [Hid,HR.out,if_neg (by decide),if_pos h0]
   have hz:=zE h0;have hz2:((E n).toList==[])=true:=by simpa using hz
   clear h0;go_enter Tryz.func167,Tryz.ntmps167
   go_wp2_with fail
   refine (HG.out _ hBW).mono ?_;rintro e w2 ⟨rfl,hb2⟩;go_wp2_with fail
   refine (HV.out _).mono ?_;rintro e w' ⟨rfl,rfl⟩;go_wp2;go_ret
   rw [HX.out];exact ⟨rfl,bt hBW hb2⟩
  ·have HX:Hid (r=0):=by rw [Hid,HR.out,if_neg (by decide),if_neg h0]
   have hz:=nzE (Nat.pos_of_ne_zero h0);have hz2:=nzE2 (Nat.pos_of_ne_zero h0);clear h0;go_enter Tryz.func167,Tryz.ntmps167
   go_wp2_with fail
   refine (HG.out _ hBW).mono ?_;rintro e w2 ⟨rfl,hb2⟩;go_wp2_with fail
   refine (HV.out _).mono ?_;rintro e w' ⟨rfl,rfl⟩;go_wp2;go_ret
   rw [HX.out];exact ⟨rfl,bt hBW hb2⟩
end
section
open Go.RowKit Go.Shelf
theorem ss_src {w:World} {ao:Option Addr} {m c:Nat} {V:List ByteArray} (h:SsAt w (.slice ao m c) V) (h0:V.length≠0):∃ad,ao=some ad∧∀j u,(V.map Value.string)[j]?=some u→w.cell? (ad.add j)=some u:=by
 obtain ⟨ao',c',hv',hcs⟩:=h;rcases hcs with hcs | ⟨b,o,rfl,hb,hcs⟩
 ·exact absurd hcs h0
 ·injection hv' with e1 e2 e3
  refine ⟨_,e1,fun j u hj=>?_⟩;rw [List.getElem?_map] at hj;by_cases hjl:j<V.length
  ·obtain ⟨cs,hq,hc⟩:=hcs j hjl;rw [List.getElem?_eq_getElem hjl] at hj;have h:=hc 0 (by omega);rw [show (⟨b,o,none⟩:Addr).add j=⟨b,o+j*1+0,none⟩ by rw [Addr.add_lit];simp,h,hq];simpa using hj
  ·rw [List.getElem?_eq_none (by omega)] at hj;simp at hj
theorem ss_far {w:World} {v:Value} {V:List ByteArray} {g:Nat} (h:SsAt w v V) (hg:w.heap.size≤g):FarS v g:=fun b9 o9 n9 c9 e9 h9=>by
 obtain ⟨ao',c',hv',hcs⟩:=h;rcases hcs with hcs | ⟨b8,o8,e8,hb8,_⟩
 ·have h:=hv'.symm.trans e9;injection h with h h2 h3
  omega
 ·have h:=hv'.symm.trans e9;injection h with h
  rw [e8] at h;injection h with h
  injection h with h
  omega
theorem blk_row {w:World} {g k:Nat} {T:TypeId} {cs:List Value} {xs:Array Value} (h:Blk w k T cs) (hne:k≠g):Blk (w.setRow g xs) k T cs:=by
 rw [Blk,setRow_other w g k xs hne];exact h
theorem ss_blk {w:World} {g:Nat} {V:List ByteArray} (c:Nat) (h:Blk w g 22 (V.map Value.string)):SsAt w (.slice (some ⟨g,0,none⟩) V.length c) V:=by
 refine ⟨_,_,rfl,.inr ⟨g,0,rfl,h.lt,fun j hj=>⟨[.string V[j]],rfl,fun i hi=>?_⟩⟩⟩;obtain rfl:i=0:=by omega
 have h2:=h.cell j;rw [List.getElem?_map,List.getElem?_eq_getElem hj] at h2;simpa using h2
theorem ss_row {w:World} {g:Nat} {v:Value} {V:List ByteArray} {xs:Array Value} (h:SsAt w v V) (hf:FarS v g):SsAt (w.setRow g xs) v V:=by
 obtain ⟨ao,c',rfl,h⟩:=h;refine ⟨ao,c',rfl,?_⟩;by_cases h0:V.length=0
 ·exact .inl h0
 rcases h with h | ⟨b,o,rfl,h2,h3⟩
 ·exact .inl h
 ·have hne:b≠g:=hf _ _ _ _ rfl h0;refine .inr ⟨b,o,rfl,by simpa [World.setRow] using h2,fun j hj=>?_⟩;obtain ⟨cs,hq,hc⟩:=h3 j hj;refine ⟨cs,hq,fun i2 hi=>?_⟩;rw [←hc i2 hi];exact World.cell?_of_block (setRow_other w g b xs hne)
set_option exponentiation.threshold 600 in
theorem cdraw_c (att:Att) (T:Tp) (v:Value) (n:Nat) (w:World) (hat:HAtt att T.seed w) (hok:T.Ok) (hg:T.good=true) (h1:1≤n) (h2:n<256^64) (hV:SsAt w v T.vals) :
  Calls Tryz.prog 168 #[.agg #[v,.string T.seed,.int .i64 T.pos],.string (E n)] w (CPost w T (coinD att T n)):=by
 obtain ⟨V,sd,pz⟩:=T;have hg':=hg;unfold Tp.good at hg;simp only [Bool.and_eq_true,decide_eq_true_eq] at hg;obtain ⟨hva,hp0,hp1⟩:=hg;obtain ⟨ti,rfl⟩:=Int.eq_ofNat_of_zero_le hp0;have htm:ti≤2147483647:=by omega
 have HAT:=Lib.hid hat;obtain ⟨rr,hrr⟩:∃r,r=coinD att ⟨V,sd,(ti:Int)⟩ n:=⟨_,rfl⟩;have HRD:=Lib.hid hrr;rw [←hrr];have HPO:Hid (∀(e:Ending) (w':World) (k x:Nat),rr=(k,x)→CPost w ⟨V,sd,(ti:Int)⟩ (k,x) e w'→CPost w ⟨V,sd,(ti:Int)⟩ rr e w'):=fun e w' k x h h'=>by rw [h];exact h'
 have HHV:Hid (∀k (h:k<V.length),∃x,x<256^100∧V[k]'h=E x):=fun k h=>by
  have h1:=(List.all_eq_true.1 hva) _ (List.getElem_mem h);have h2:=hok.s _ (List.getElem_mem h);obtain ⟨x,hx,e⟩:=of_vldB h1;rw [e] at h2;exact ⟨x,lt_of_size h2,e⟩
 have hn100:V.length≤100:=hok.n;have hmk:∀(m:Nat) (W:World),m≤100→(Instr.makeSlice 32 (.int .i64 (m:Int)) (.int .i64 (m:Int))).run Tryz.prog W=.ok (.slice (some ⟨W.heap.size,0,none⟩) m m) (W.alloc (.cells (List.replicate m (Value.string { data:=#[] })).toArray 22)):=fun m W h=>run_mks (P:=Tryz.prog) Tryz.underlying32 info_nat m (by omega) (by omega) W
 simp only [] at hV;obtain ⟨ao,c,rfl⟩:=RAt.form hV;obtain ⟨m,hm⟩:∃m,V.length=m:=⟨_,rfl⟩;have HM:=Lib.hid hm;rw [hm] at hV hn100 ⊢;have hmk2:=fun W=>hmk m W hn100
 clear hmk hm hok hva hp0 hp1 hg' hat hrr;obtain ⟨Zs,hZs⟩:∃l,l=List.replicate m (Value.string { data:=#[] }):=⟨_,rfl⟩;have HZL:Hid (Zs.length=m):=by rw [Hid,hZs];simp
 rw [←hZs] at hmk2;clear hZs;have hP:=blk2a w #[.slice ao m c,.string sd,.int .i64 (ti:Int)] #[.slice none 0 0,.string ⟨#[]⟩,.int .i64 0] 41 41;have hR:=blk2b w #[.slice ao m c,.string sd,.int .i64 (ti:Int)] #[.slice none 0 0,.string ⟨#[]⟩,.int .i64 0] 41 41;have hBW:=b2 w (.cells #[.slice ao m c,.string sd,.int .i64 (ti:Int)] 41) (.cells #[.slice none 0 0,.string ⟨#[]⟩,.int .i64 0] 41);replace hV:=SsAt.after hV hBW;obtain ⟨hPc0,hPf0,hPc1,hPf1,hPc2,hPf2⟩:=hP.x3;go_enter Tryz.func168,Tryz.ntmps168
 go_upto_region 1 with fail
 clear hPc0 hPf0 hPc1 hPf1 hPc2 hPf2;generalize (w.alloc (.cells #[.slice ao m c,.string sd,.int .i64 (ti:Int)] 41)).alloc (.cells #[.slice none 0 0,.string ⟨#[]⟩,.int .i64 0] 41)=w1 at hP hR hBW hV ⊢;obtain ⟨gP,hgP⟩:∃g,w.heap.size=g:=⟨_,rfl⟩;obtain ⟨gR,hgR⟩:∃g,w.heap.size+1=g:=⟨_,rfl⟩;have HGR:Hid (w.heap.size≤gR):=by rw [Hid];omega
 have HGN:Hid (gP≠gR∧gP<w1.heap.size∧gR<w1.heap.size):=⟨by omega,hP.lt |> fun h=>by omega,hR.lt |> fun h=>by omega⟩;rw [hgR,hgP];rw [hgR] at hR;rw [hgP] at hP;clear hgP hgR;replace hP:Blk w1 gP 41 [.slice ao m c,.string sd,.int .i64 (ti:Int)]:=hP;replace hR:Blk w1 gR 41 [.slice none 0 0,.string ⟨#[]⟩,.int .i64 0]:=hR;have hBits:∀w,Calls Tryz.prog 86 #[.string (E n)] w fun e w'=>e=.returned (.int .i64 (nb n))∧w=w':=fun w=>bits_c n w (Nat.lt_of_lt_of_le h2 (Nat.pow_le_pow_right (by decide) (by decide)))
 have HBI:=Lib.hid hBits;have HCM:Hid (∀(x:Nat) (w:World),x<256^100→Calls Tryz.prog 50 #[.string (E x),.string (E n)] w fun e w'=>e=.returned (.int .i64 (cmpN x n))∧w=w'):=fun x w hx=>cmp_c x n w (Nat.lt_of_lt_of_le hx (Nat.pow_le_pow_right (by decide) (by decide))) (Nat.lt_of_lt_of_le h2 (Nat.pow_le_pow_right (by decide) (by decide)))
 have HNB:Hid (1≤nb n∧nb n≤512):=by
  refine ⟨nb_pos n (by omega),?_⟩;apply Classical.byContradiction
  intro hc;have h3:=nb_low n (by omega);have h5:(2:Nat)^(8*64)≤2^(nb n-1):=Nat.pow_le_pow_right (by decide) (by omega);rw [Nat.pow_mul] at h5;exact Nat.lt_irrefl _ (Nat.lt_of_lt_of_le h2 (Nat.le_trans h5 h3))
 clear hBits h2;have hRl:=hR.lt;by_cases htm2:ti<m
 ·have hkl:ti<V.length:=by rw [HM.out];exact htm2
  obtain ⟨b,o,rfl,hb,hc1⟩:=SsAt.at_ hV hkl;obtain ⟨x,hx,hxe⟩:=HHV.out ti hkl;have HXE:=Lib.hid hxe;rw [hxe] at hc1;have HCX:=Lib.hid (fun w=>HCM.out x w hx);clear hxe HCM;have t0:(0:Int)≤(ti:Int):=by omega
  have t1:(ti:Int)<(m:Int):=by omega
  have t3:¬ (m:Int)≤(ti:Int):=by omega
  have t4:((ti:Int)==2147483647)=false:=by rw [beq_eq_false_iff_ne];omega
  obtain ⟨q,hq⟩:∃q:Int,q=cmpN x n:=⟨_,rfl⟩;rw [←hq] at HCX;obtain ⟨hPc0,hPf0,hPc1,hPf1,hPc2,hPf2⟩:=hP.x3;go_wp2_with fail
  refine (HCX.out _).mono ?_;rintro e w' ⟨rfl,rfl⟩;clear hPc0 hPf0 hPc1 hPf1 hPc2 hPf2;clear HCX;rcases Nat.lt_or_ge x n with hxn | hxn
  ·have d1:decide (0≤q)=false:=decide_eq_false (by rw [hq];have:=cmp_neg x n hxn;omega);have HRR:Hid (rr=(0,x)):=HRD.out.trans (coinD_val (att:=att) (T:=⟨V,sd,(ti:Int)⟩) (by exact hkl) (by exact HXE.out) hxn);clear hq hxn;obtain ⟨hPc0,hPf0,hPc1,hPf1,hPc2,hPf2⟩:=hP.x3;have hPl:gP<w1.heap.size:=HGN.out.2.1;go_upto_region 5 with fail
   go_cut [7] (fun s7 wx=>∃gX gS,s7=.pointer (some ⟨gX,0,none⟩)∧gX≠gS∧w1.heap.size≤gX∧w1.heap.size≤gS∧Blk wx gX 41 [.slice (some ⟨gS,0,none⟩) m m,.string sd,.int .i64 ((ti:Int)+1)]∧Blk wx gS 22 Zs∧Below w1.heap.size w1 wx)
   case first =>
    go_region
    all_goals
     go_wp2_with fail
     go_meet
     first
      | exact ⟨w1.heap.size+1,w1.heap.size,rfl,by omega,by omega,by omega,(blkN (by simp)).drew,((Blk.new w1 Zs.toArray _).alloc _).drew,(ba (b1 _ _) _).drew⟩
      | exact ⟨w1.heap.size,w1.heap.size+1,rfl,by omega,by omega,by omega,((Blk.new w1 #[.slice (some ⟨w1.heap.size+1,0,none⟩) m m,.string sd,.int .i64 ((ti:Int)+1)] _).alloc _).drew,(blkN (cs:=Zs.toArray) (by simp)).drew,(ba (b1 _ _) _).drew⟩
   case rest =>
   obtain ⟨gX,gS,rfl,hne,hgX,hgS,hX,hSl,hbX⟩:=hcut;obtain ⟨wx,hwx⟩:∃wx,wx=wc:=⟨_,rfl⟩;subst hwx;clear hPc0 hPf0 hPc1 hPf1 hPc2 hPf2
   have HSX:Hid (w.heap.size≤gX∧w.heap.size≤gS∧gX≠gR∧gS≠gR∧gX≠gS∧gP≠gS):=by
    have h1:=HGN.out;have h2:=hBW.size;exact ⟨by omega,by omega,by omega,by omega,hne,by omega⟩
   have hPx:=hP.after hbX;have hRx:=hR.after hbX;have hVx:=SsAt.after hV hbX;have hfar:=ss_far hV hgS;have hBWx:=bt hBW hbX;clear hP hR hV hBW hbX hRl hmk2 hne hgX hgS hPl;replace hPx:Blk wx gP 41 [.slice (some ⟨b,o,none⟩) m c,.string sd,.int .i64 (ti:Int)]:=hPx;replace hX:Blk wx gX 41 [.slice (some ⟨gS,0,none⟩) m m,.string sd,.int .i64 ((ti:Int)+1)]:=hX;obtain ⟨hPxc0,hPxf0,hPxc1,hPxf1,hPxc2,hPxf2⟩:=hPx.x3;obtain ⟨hXc0,hXf0,hXc1,hXf1,hXc2,hXf2⟩:=hX.x3;have hPl:=hPx.lt;have hXl:=hX.lt;go_upto_region 6 with fail
   go_cut [59] (fun s59 wy=>Blk wy gX 41 [.slice (some ⟨gS,0,none⟩) m m,.string sd,.int .i64 ((ti:Int)+1)]∧Blk wy gP 41 [.slice (some ⟨b,o,none⟩) m c,.string sd,.int .i64 (ti:Int)]∧Blk wy gR 41 [.slice none 0 0,.string ⟨#[]⟩,.int .i64 0]∧SsAt wy (.slice (some ⟨gS,0,none⟩) m m) V∧SsAt wy (.slice (some ⟨b,o,none⟩) m c) V∧Below w.heap.size w wy)
   case first =>
    by_cases hm0:m=0
    ·have HV0:Hid (V=[]):=List.length_eq_zero_iff.1 (by rw [HM.out];exact hm0);have HM0:=Lib.hid hm0;have hcp:=run_copy_none (P:=Tryz.prog) wx 32 32 3 22 (some ⟨gS,0,none⟩) (some ⟨b,o,none⟩) m m m c Tryz.underlying32 (by kernel_rfl) (by rw [hm0];rfl);clear hm0;go_wp2;go_meet
     refine ⟨hX,hPx,hRx,?_,hVx,hBWx⟩;have hm0:=HM0.out;subst hm0;rw [HV0.out];exact ⟨_,_,rfl,.inl rfl⟩
    ·have hml:V.length≠0:=by rw [HM.out];exact hm0
     obtain ⟨ad,e,hnews⟩:=ss_src hVx hml;have hcp:=run_copy_row (P:=Tryz.prog) wx 32 32 3 22 gS 0 m m ad m c Zs.toArray 22 (V.map Value.string) Tryz.underlying32 (by kernel_rfl) hSl (by rw [List.length_map,HM.out];exact (Nat.min_self m).symm) hnews (by rw [List.length_map,HM.out,List.size_toArray,HZL.out];omega) (by intro u hu;obtain ⟨x,_,rfl⟩:=List.mem_map.1 hu;rfl)
     have hrow:Blk (wx.setRow gS (Zs.toArray.toList.take 0++V.map Value.string++Zs.toArray.toList.drop (0+(V.map Value.string).length)).toArray) gS 22 (V.map Value.string):=by
      have h:=setRow_heap wx gS Zs.toArray (Zs.toArray.toList.take 0++V.map Value.string++Zs.toArray.toList.drop (0+(V.map Value.string).length)).toArray 22 (0,0) hSl;have e:Zs.drop (0+(V.map Value.string).length)=[]:=List.drop_eq_nil_of_le (by rw [List.length_map,HM.out,HZL.out];omega);rw [Blk,h];show some (Obj.cells (Zs.take 0++V.map Value.string++Zs.drop (0+(V.map Value.string).length)).toArray _ _)=_;rw [e,List.take_zero,List.nil_append,List.append_nil]
     generalize (Zs.toArray.toList.take 0++V.map Value.string++Zs.toArray.toList.drop (0+(V.map Value.string).length)).toArray=xs at hcp hrow;generalize (V.map Value.string).length=nl at hcp;clear hnews hm0 hml;first | subst e | (injection e with e;subst e)
     go_wp2;go_meet
     refine ⟨blk_row hX HSX.out.2.2.2.2.1,blk_row hPx HSX.out.2.2.2.2.2,blk_row hRx HSX.out.2.2.2.1.symm,?_,ss_row hVx hfar,below_setRow hBWx HSX.out.2.1 _⟩;have h:=ss_blk m hrow;rw [HM.out] at h;exact h
   case rest =>
   clear hPxc0 hPxf0 hPxc1 hPxf1 hPxc2 hPxf2;clear hXc0 hXf0 hXc1 hXf1 hXc2 hXf2;clear hPx hX hRx hVx hBWx hPl hXl hSl;obtain ⟨hX,hP,hR,hU,hV,hBW⟩:=hcut;obtain ⟨wy,hwy⟩:∃wx,wx=wc:=⟨_,rfl⟩;subst hwy;clear HRD HHV d1;obtain ⟨b2,o2,e2,hb2,hc2⟩:=SsAt.at_ hV hkl;injection e2 with e2
   injection e2 with e1 e3 e4
   subst e1 e3;clear e4;rw [HXE.out] at hc2;have hRl:=hR.lt;have hXl:=hX.lt;have hPl:=hP.lt;obtain ⟨hRc0,hRf0,hRc1,hRf1,hRc2,hRf2⟩:=hR.x3;obtain ⟨hXc0,hXf0,hXc1,hXf1,hXc2,hXf2⟩:=hX.x3;obtain ⟨hPc0,hPf0,hPc1,hPf1,hPc2,hPf2⟩:=hP.x3;go_wp2_with fail
   go_region;go_wp2;refine bodyPost_ret (v:=.tuple #[.string (E x),.agg #[.slice (some ⟨gS,0,none⟩) m m,.string sd,.int .i64 ((ti:Int)+1)],.int .i64 0]) ?_ rfl ?_
   ·simp [results,Tryz.results168,go_sem,hRc0,hRc1,hRc2,hRl]
   ·rw [HRR.out];exact ⟨_,rfl,⟨_,rfl,SsAt.after (((hU.set_other HSX.out.2.2.2.1).set_other HSX.out.2.2.2.1).set_other HSX.out.2.2.2.1) (Below.drew (Below.refl _ _))⟩,TFar.of (fun b hb b' o n c e _=>by injection e with e;injection e with e;injection e with e;have:=HSX.out.2.1;omega),(((hBW.setCell HGR.out _).setCell HGR.out _).setCell HGR.out _).drew⟩
  ·have d1:decide (0≤q)=true:=decide_eq_true (by rw [hq];have:=cmp_nneg x n hxn;omega);have HRR:Hid (rr=(2,0)):=HRD.out.trans (coinD_big (att:=att) (T:=⟨V,sd,(ti:Int)⟩) (by exact hkl) (by exact HXE.out) hxn);clear hq hxn;obtain ⟨hRc0,hRf0,hRc1,hRf1,hRc2,hRf2⟩:=hR.x3;go_wp2;refine bodyPost_ret (v:=.tuple #[.string ⟨#[]⟩,.agg #[.slice none 0 0,.string ⟨#[]⟩,.int .i64 0],.int .i64 2]) ?_ rfl ?_
   ·simp [results,Tryz.results168,go_sem,hRc0,hRc1,hRc2,hRl]
   ·rw [HRR.out];exact ⟨_,rfl,⟨_,rfl,ss_nil _⟩,TFar.zero _ _ _,((hBW.setCell HGR.out _).setCell HGR.out _).setCell HGR.out _⟩
 ·have hkl:¬ ti<V.length:=by rw [HM.out];exact htm2
  have t1:¬ (ti:Int)<(m:Int):=by omega
  have t3:(m:Int)≤(ti:Int):=by omega
  have hle:V.length≤((ti:Int)).toNat:=by rw [Int.toNat_natCast];omega
  by_cases hs0:sd.size=0
  ·have HRR:Hid (rr=(14,0)):=HRD.out.trans (coinD_no (att:=att) (T:=⟨V,sd,(ti:Int)⟩) hle (.inl hs0));obtain rfl:sd=ByteArray.empty:=by apply ByteArray.ext;apply Array.eq_empty_of_size_eq_zero;exact hs0
   obtain ⟨hPc0,hPf0,hPc1,hPf1,hPc2,hPf2⟩:=hP.x3;obtain ⟨hRc0,hRf0,hRc1,hRf1,hRc2,hRf2⟩:=hR.x3;go_wp2;refine bodyPost_ret (v:=.tuple #[.string ⟨#[]⟩,.agg #[.slice none 0 0,.string ⟨#[]⟩,.int .i64 0],.int .i64 14]) ?_ rfl ?_
   ·simp [results,Tryz.results168,go_sem,hRc0,hRc1,hRc2,hRl]
   ·rw [HRR.out];exact ⟨_,rfl,⟨_,rfl,ss_nil _⟩,TFar.zero _ _ _,((hBW.setCell HGR.out _).setCell HGR.out _).setCell HGR.out _⟩
  ·have hne:=nz_str (s:=sd) (by omega);by_cases htx:ti=2147483647
   ·have HRR:Hid (rr=(14,0)):=HRD.out.trans (coinD_no (att:=att) (T:=⟨V,sd,(ti:Int)⟩) hle (.inr (by show (ti:Int)=2147483647;omega)));subst htx;obtain ⟨hPc0,hPf0,hPc1,hPf1,hPc2,hPf2⟩:=hP.x3;obtain ⟨hRc0,hRf0,hRc1,hRf1,hRc2,hRf2⟩:=hR.x3;go_wp2;refine bodyPost_ret (v:=.tuple #[.string ⟨#[]⟩,.agg #[.slice none 0 0,.string ⟨#[]⟩,.int .i64 0],.int .i64 14]) ?_ rfl ?_
    ·simp [results,Tryz.results168,go_sem,hRc0,hRc1,hRc2,hRl]
    ·rw [HRR.out];exact ⟨_,rfl,⟨_,rfl,ss_nil _⟩,TFar.zero _ _ _,((hBW.setCell HGR.out _).setCell HGR.out _).setCell HGR.out _⟩
   ·have htb:((ti:Int)==2147483647)=false:=by rw [beq_eq_false_iff_ne];omega
    have HRS:Hid (rr=coinS att ⟨V,sd,(ti:Int)⟩ n):=HRD.out.trans (coinD_s (att:=att) (T:=⟨V,sd,(ti:Int)⟩) hle hs0 (by show (ti:Int)≠2147483647;omega));have HAX:Hid (∀a,a<256→att sd ti a (nb n)<256^64∧∀(ao:Option Addr) (m c:Nat) (W:World),Below w.heap.size w W→Calls Tryz.prog 208 #[.agg #[.slice ao m c,.string sd,.int .i64 (ti:Int)],.int .i64 (a:Int),.int .i64 (nb n)] W fun e w'=>e=.returned (.string (E (att sd ti a (nb n))))∧Below W.heap.size W w'):=fun a ha=>HAT.out hs0 ti a (nb n) htm ha HNB.out.1 HNB.out.2
    clear HAT HRD hle HHV;obtain ⟨hPc0,hPf0,hPc1,hPf1,hPc2,hPf2⟩:=hP.x3;have hPl:gP<w1.heap.size:=HGN.out.2.1;go_upto_region 5 with fail
    go_cut [7] (fun s7 wx=>∃gX gS,s7=.pointer (some ⟨gX,0,none⟩)∧gX≠gS∧w1.heap.size≤gX∧w1.heap.size≤gS∧Blk wx gX 41 [.slice (some ⟨gS,0,none⟩) m m,.string sd,.int .i64 ((ti:Int)+1)]∧Blk wx gS 22 Zs∧Below w1.heap.size w1 wx)
    case first =>
     go_region
     all_goals
      go_wp2_with fail
      go_meet
      first
       | exact ⟨w1.heap.size+1,w1.heap.size,rfl,by omega,by omega,by omega,(blkN (by simp)).drew,((Blk.new w1 Zs.toArray _).alloc _).drew,(ba (b1 _ _) _).drew⟩
       | exact ⟨w1.heap.size,w1.heap.size+1,rfl,by omega,by omega,by omega,((Blk.new w1 #[.slice (some ⟨w1.heap.size+1,0,none⟩) m m,.string sd,.int .i64 ((ti:Int)+1)] _).alloc _).drew,(blkN (cs:=Zs.toArray) (by simp)).drew,(ba (b1 _ _) _).drew⟩
    case rest =>
    obtain ⟨gX,gS,rfl,hne,hgX,hgS,hX,hSl,hbX⟩:=hcut;obtain ⟨wx,hwx⟩:∃wx,wx=wc:=⟨_,rfl⟩;subst hwx;clear hPc0 hPf0 hPc1 hPf1 hPc2 hPf2
    have HSX:Hid (w.heap.size≤gX∧w.heap.size≤gS∧gX≠gR∧gS≠gR∧gX≠gS∧gP≠gS):=by
     have h1:=HGN.out;have h2:=hBW.size;exact ⟨by omega,by omega,by omega,by omega,hne,by omega⟩
    have hPx:=hP.after hbX;have hRx:=hR.after hbX;have hVx:=SsAt.after hV hbX;have hfar:=ss_far hV hgS;have hBWx:=bt hBW hbX;clear hP hR hV hBW hbX hRl hmk2 hne hgX hgS hPl;replace hPx:Blk wx gP 41 [.slice ao m c,.string sd,.int .i64 (ti:Int)]:=hPx;replace hX:Blk wx gX 41 [.slice (some ⟨gS,0,none⟩) m m,.string sd,.int .i64 ((ti:Int)+1)]:=hX;obtain ⟨hPxc0,hPxf0,hPxc1,hPxf1,hPxc2,hPxf2⟩:=hPx.x3;obtain ⟨hXc0,hXf0,hXc1,hXf1,hXc2,hXf2⟩:=hX.x3;have hPl:=hPx.lt;have hXl:=hX.lt;go_upto_region 6 with fail
    go_cut [59] (fun s59 wy=>Blk wy gX 41 [.slice (some ⟨gS,0,none⟩) m m,.string sd,.int .i64 ((ti:Int)+1)]∧Blk wy gP 41 [.slice ao m c,.string sd,.int .i64 (ti:Int)]∧Blk wy gR 41 [.slice none 0 0,.string ⟨#[]⟩,.int .i64 0]∧SsAt wy (.slice (some ⟨gS,0,none⟩) m m) V∧SsAt wy (.slice ao m c) V∧Below w.heap.size w wy)
    case first =>
     by_cases hm0:m=0
     ·have HV0:Hid (V=[]):=List.length_eq_zero_iff.1 (by rw [HM.out];exact hm0);have HM0:=Lib.hid hm0;have hcp:=run_copy_none (P:=Tryz.prog) wx 32 32 3 22 (some ⟨gS,0,none⟩) ao m m m c Tryz.underlying32 (by kernel_rfl) (by rw [hm0];rfl);clear hm0;go_wp2;go_meet
      refine ⟨hX,hPx,hRx,?_,hVx,hBWx⟩;have hm0:=HM0.out;subst hm0;rw [HV0.out];exact ⟨_,_,rfl,.inl rfl⟩
     ·have hml:V.length≠0:=by rw [HM.out];exact hm0
      obtain ⟨ad,e,hnews⟩:=ss_src hVx hml;have hcp:=run_copy_row (P:=Tryz.prog) wx 32 32 3 22 gS 0 m m ad m c Zs.toArray 22 (V.map Value.string) Tryz.underlying32 (by kernel_rfl) hSl (by rw [List.length_map,HM.out];exact (Nat.min_self m).symm) hnews (by rw [List.length_map,HM.out,List.size_toArray,HZL.out];omega) (by intro u hu;obtain ⟨x,_,rfl⟩:=List.mem_map.1 hu;rfl)
      have hrow:Blk (wx.setRow gS (Zs.toArray.toList.take 0++V.map Value.string++Zs.toArray.toList.drop (0+(V.map Value.string).length)).toArray) gS 22 (V.map Value.string):=by
       have h:=setRow_heap wx gS Zs.toArray (Zs.toArray.toList.take 0++V.map Value.string++Zs.toArray.toList.drop (0+(V.map Value.string).length)).toArray 22 (0,0) hSl;have e:Zs.drop (0+(V.map Value.string).length)=[]:=List.drop_eq_nil_of_le (by rw [List.length_map,HM.out,HZL.out];omega);rw [Blk,h];show some (Obj.cells (Zs.take 0++V.map Value.string++Zs.drop (0+(V.map Value.string).length)).toArray _ _)=_;rw [e,List.take_zero,List.nil_append,List.append_nil]
      generalize (Zs.toArray.toList.take 0++V.map Value.string++Zs.toArray.toList.drop (0+(V.map Value.string).length)).toArray=xs at hcp hrow;generalize (V.map Value.string).length=nl at hcp;clear hnews hm0 hml;first | subst e | (injection e with e;subst e)
      go_wp2;go_meet
      refine ⟨blk_row hX HSX.out.2.2.2.2.1,blk_row hPx HSX.out.2.2.2.2.2,blk_row hRx HSX.out.2.2.2.1.symm,?_,ss_row hVx hfar,below_setRow hBWx HSX.out.2.1 _⟩;have h:=ss_blk m hrow;rw [HM.out] at h;exact h
    case rest =>
    clear hPxc0 hPxf0 hPxc1 hPxf1 hPxc2 hPxf2;clear hXc0 hXf0 hXc1 hXf1 hXc2 hXf2;clear hPx hX hRx hVx hBWx hPl hXl hSl;obtain ⟨hX,hP,hR,hU,hV,hBW⟩:=hcut;obtain ⟨wy,hwy⟩:∃wx,wx=wc:=⟨_,rfl⟩;subst hwy;obtain ⟨hPc0,hPf0,hPc1,hPf1,hPc2,hPf2⟩:=hP.x3;go_wp2;clear hPc0 hPf0 hPc1 hPf1 hPc2 hPf2;go_loopw [73] (fun i wr=>∃a:Nat,a≤256∧i=.int .i64 (a:Int)∧Hid (∀j,j<a→n≤att sd ti j (nb n))∧Below wy.heap.size wy wr) (fun i _=>256-(intOf i).toNat)
    case atStart=>exact ⟨0,by omega,rfl,fun j h=>absurd h (Nat.not_lt_zero _),Below.refl _ _⟩
    case round =>
     obtain ⟨a,ha,rfl,HA,hbr⟩:=hrel;obtain ⟨wp,hwp⟩:∃wp,wp=wr:=⟨_,rfl⟩;subst hwp;replace hX:=hX.after hbr;replace hP:=hP.after hbr;replace hR:=hR.after hbr;replace hU:=SsAt.after hU hbr;replace hBW:=bt hBW hbr;by_cases hlt:a<256
     ·have HATk:Hid (att sd ti a (nb n)<256^64∧∀(ao:Option Addr) (m c:Nat) (W:World),Below wp.heap.size wp W→Calls Tryz.prog 208 #[.agg #[.slice ao m c,.string sd,.int .i64 (ti:Int)],.int .i64 (a:Int),.int .i64 (nb n)] W fun e w'=>e=.returned (.string (E (att sd ti a (nb n))))∧Below W.heap.size W w'):=⟨(HAX.out a hlt).1,fun ao m c W hW=>(HAX.out a hlt).2 ao m c W (bt hBW hW)⟩;have HXV:Hid (att sd ti a (nb n)<n→rr=(0,att sd ti a (nb n))):=fun h=>HRS.out.trans (coinS_at (att:=att) (T:=⟨V,sd,(ti:Int)⟩) hlt HA.out h)
      have HXW:Hid (n≤att sd ti a (nb n)→∀j,j<a+1→n≤att sd ti j (nb n)):=fun h j hj=>by
       by_cases e:j=a
       ·rw [e];exact h
       ·exact HA.out j (by omega)
      generalize att sd ti a (nb n)=x at HATk HXV HXW;have HCX:=Lib.hid (fun w=>HCM.out x w (Nat.lt_of_lt_of_le HATk.out.1 (Nat.pow_le_pow_right (by decide) (by decide))));obtain ⟨hPc0,hPf0,hPc1,hPf1,hPc2,hPf2⟩:=hP.x3;have hPg0:=hP.gcell 0;have hPg1:=hP.gcell 1;have hPg2:=hP.gcell 2;go_upto_region 12 with fail
      go_wp2_with fail
      refine wp_region_gw (by kernel_rfl) (by kernel_rfl) ?_;repeat (go_big_quiet_step (first | (go_at_call 86;exact gw_same (HBI.out _)) | (go_at_call 208;exact gw_of (HATk.out.2 _ _ _ _ (gw_below _)))))
      refine wpQuiet_nil ?_;rintro w4 ⟨xw4,rfl⟩;have hb4:=gw_below xw4;generalize gw xw4=w4 at hb4;clear hPc0 hPf0 hPc1 hPf1 hPc2 hPf2;clear hPg0 hPg1 hPg2;replace hX:=hX.after hb4;replace hP:=hP.after hb4;replace hR:=hR.after hb4;replace hU:=SsAt.after hU hb4;replace hBW:=bt hBW hb4;replace hbr:=bt hbr hb4;clear hb4;obtain ⟨q,hq⟩:∃q:Int,q=cmpN x n:=⟨_,rfl⟩;rw [←hq] at HCX;rcases Nat.lt_or_ge x n with hxn | hxn
      ·have d1:decide (q<0)=true:=decide_eq_true (by rw [hq];exact cmp_neg x n hxn);have HRR:=Lib.hid (HXV.out hxn);clear hq hxn HXV HXW HATk;go_wp2_with fail
       refine (HCX.out _).mono ?_;rintro e w' ⟨rfl,rfl⟩;have hRl:=hR.lt;have hXl:=hX.lt;have hPl:=hP.lt;obtain ⟨hRc0,hRf0,hRc1,hRf1,hRc2,hRf2⟩:=hR.x3;obtain ⟨hXc0,hXf0,hXc1,hXf1,hXc2,hXf2⟩:=hX.x3;obtain ⟨hPc0,hPf0,hPc1,hPf1,hPc2,hPf2⟩:=hP.x3;go_wp2_with fail
       go_region;go_wp2;refine bodyPost_ret (v:=.tuple #[.string (E x),.agg #[.slice (some ⟨gS,0,none⟩) m m,.string sd,.int .i64 ((ti:Int)+1)],.int .i64 0]) ?_ rfl ?_
       ·simp [results,Tryz.results168,go_sem,hRc0,hRc1,hRc2,hRl]
       ·rw [HRR.out];exact ⟨_,rfl,⟨_,rfl,SsAt.after (((hU.set_other HSX.out.2.2.2.1).set_other HSX.out.2.2.2.1).set_other HSX.out.2.2.2.1) (Below.drew (Below.refl _ _))⟩,TFar.of (fun b hb b' o n c e _=>by injection e with e;injection e with e;injection e with e;have:=HSX.out.2.1;omega),(((hBW.setCell HGR.out _).setCell HGR.out _).setCell HGR.out _).drew⟩
      ·have d1:decide (q<0)=false:=decide_eq_false (by rw [hq];exact cmp_nneg x n hxn);have HXX:=Lib.hid (HXW.out hxn);clear hq hxn HXV HXW HATk;go_wp2_with fail
       refine (HCX.out _).mono ?_;rintro e w' ⟨rfl,rfl⟩;go_wp2;go_roundw
       case rel=>exact ⟨a+1,by omega,by go_num,HXX.out,hbr⟩
       case measure=>simp [intOf];omega
     ·have HRR:Hid (rr=(14,0)):=HRS.out.trans (coinS_no (att:=att) (T:=⟨V,sd,(ti:Int)⟩) (fun j hj=>HA.out j (by omega)));have hRl:=hR.lt;obtain ⟨hRc0,hRf0,hRc1,hRf1,hRc2,hRf2⟩:=hR.x3;go_wp2;refine bodyPost_ret (v:=.tuple #[.string ⟨#[]⟩,.agg #[.slice none 0 0,.string ⟨#[]⟩,.int .i64 0],.int .i64 14]) ?_ rfl ?_
      ·simp [results,Tryz.results168,go_sem,hRc0,hRc1,hRc2,hRl]
      ·rw [HRR.out];exact ⟨_,rfl,⟨_,rfl,ss_nil _⟩,TFar.zero _ _ _,((hBW.setCell HGR.out _).setCell HGR.out _).setCell HGR.out _⟩
end
section
open Go.RowKit Go.Shelf
theorem TFar.mono {t:Value} {g g':Nat} (h:TFar t g) (hg:g'≤g):TFar t g':=fun u x y e b hb=>h u x y e b (by omega)
theorem TFar.far {u x y:Value} {g b:Nat} (h:TFar (.agg #[u,x,y]) g) (hb:b<g):FarS u b:=h u x y rfl b hb
theorem rdy_coin {att:Att} {T:Tp} {n:Nat} (h:T.rdy n≠0):coin att T n=(T.rdy n,0):=by
 unfold Tp.rdy at *;unfold coin;by_cases h1:T.good=false
 ·rw [if_pos h1,if_pos h1]
 ·rw [if_neg h1] at h;rw [if_neg h1,if_neg h1];by_cases h2:n=0
  ·rw [if_pos h2,if_pos h2]
  ·rw [if_neg h2] at h;exact absurd rfl h
theorem rdy_zero {T:Tp} {n:Nat} (h:T.rdy n=0):T.good=true∧1≤n∧∀att,coin att T n=coinD att T n:=by
 unfold Tp.rdy at h;split at h
 ·simp at h
 ·rename_i h1;split at h
  ·simp at h
  ·rename_i h2;refine ⟨by simpa using h1,by omega,fun att=>?_⟩;unfold coin;rw [if_neg h1,if_neg h2]
theorem tp_after {T:Tp} {k:Nat} (h:k≠0):T.after k=Tp.nil:=by unfold Tp.after;rw [if_neg h]
theorem cbelow_c (att:Att) (T:Tp) (v:Value) (n:Nat) (w:World) (hat:HAtt att T.seed w) (hok:T.Ok) (h2:n<256^64) (hV:SsAt w v T.vals) :
  Calls Tryz.prog 122 #[.agg #[v,.string T.seed,.int .i64 T.pos],.string (E n)] w (CPost w T (coin att T n)):=by
 have HRD:Hid (∀w',Below w.heap.size w w'→Calls Tryz.prog 167 #[.agg #[v,.string T.seed,.int .i64 T.pos],.string (E n)] w' fun e w''=>e=.returned (.int .i64 (T.rdy n:Nat))∧Below w'.heap.size w' w''):=fun w' hb=>cready_c T v n w' hok (lt64 h2) (SsAt.after hV hb)
 have HDR:Hid (T.rdy n=0→∀w',Below w.heap.size w w'→Calls Tryz.prog 168 #[.agg #[v,.string T.seed,.int .i64 T.pos],.string (E n)] w' (CPost w' T (coin att T n))):=fun h w' hb=>by
  obtain ⟨a,b,c⟩:=rdy_zero h;rw [c att];exact cdraw_c att T v n w' (hat.after hb) hok a b h2 (SsAt.after hV hb)
 have HRC:Hid (T.rdy n≠0→coin att T n=(T.rdy n,0)):=rdy_coin;obtain ⟨ao,c,rfl⟩:=RAt.form hV;generalize coin att T n=rr at HDR HRC ⊢;generalize T.rdy n=k at HRD HDR HRC;have hP:=blk2a w #[.slice ao T.vals.length c,.string T.seed,.int .i64 T.pos] #[.slice none 0 0,.string ⟨#[]⟩,.int .i64 0] 41 41;have hR:=blk2b w #[.slice ao T.vals.length c,.string T.seed,.int .i64 T.pos] #[.slice none 0 0,.string ⟨#[]⟩,.int .i64 0] 41 41;have hBW:=b2 w (.cells #[.slice ao T.vals.length c,.string T.seed,.int .i64 T.pos] 41) (.cells #[.slice none 0 0,.string ⟨#[]⟩,.int .i64 0] 41);generalize T.vals.length=m at HRD HDR hP hR hBW ⊢;obtain ⟨gR,hgR⟩:∃g,w.heap.size+1=g:=⟨_,rfl⟩;have HGR:Hid (w.heap.size≤gR):=by rw [Hid];omega
 have HGE:=Lib.hid hgR;clear hat hok h2 hV hgR;obtain ⟨hPc0,hPf0,hPc1,hPf1,hPc2,hPf2⟩:=hP.x3;go_enter Tryz.func122,Tryz.ntmps122
 go_wp2_with fail
 refine (HRD.out _ hBW).mono ?_;rintro e w2 ⟨rfl,hb2⟩;clear hPc0 hPf0 hPc1 hPf1 hPc2 hPf2;replace hP:=hP.after hb2;replace hR:=hR.after hb2;replace hBW:=bt hBW hb2;clear hb2 HRD;rw [HGE.out] at hR ⊢;clear HGE;replace hP:Blk w2 w.heap.size 41 [.slice ao m c,.string T.seed,.int .i64 T.pos]:=hP;replace hR:Blk w2 gR 41 [.slice none 0 0,.string ⟨#[]⟩,.int .i64 0]:=hR;have HRW:=Lib.hid hR.lt;by_cases hk:k=0
 ·subst hk;have HD:=Lib.hid (HDR.out rfl);clear HDR HRC;obtain ⟨hPc0,hPf0,hPc1,hPf1,hPc2,hPf2⟩:=hP.x3;go_wp2_with fail
  refine (HD.out _ hBW).mono ?_;rintro e w3 ⟨t,rfl,⟨u,rfl,hU⟩,hF,hb3⟩;clear hPc0 hPf0 hPc1 hPf1 hPc2 hPf2;have HF2:=Lib.hid (hF.far HRW.out);replace hF:=hF.mono hBW.size;replace hR:=hR.after hb3;replace hBW:=bt hBW hb3;clear hb3 hP HD;generalize hT':T.after rr.1=T' at hU hF ⊢;obtain ⟨uo,uc,rfl⟩:=RAt.form hU;obtain ⟨ul,hul⟩:∃l,l=T'.vals.length:=⟨_,rfl⟩;have HUL:=Lib.hid hul;have HTT:=Lib.hid hT';rw [←hul] at hU hF HF2 ⊢;clear hul hT';obtain ⟨us,hus⟩:∃s,s=T'.seed:=⟨_,rfl⟩;obtain ⟨ut,hut⟩:∃s,s=T'.pos:=⟨_,rfl⟩;rw [←hus,←hut] at hF ⊢;have HE:=Lib.hid (And.intro hus hut);clear hus hut;have hRl:=hR.lt;obtain ⟨hRc0,hRf0,hRc1,hRf1,hRc2,hRf2⟩:=hR.x3;go_wp2;refine bodyPost_ret (v:=.tuple #[.string (E rr.2),.agg #[.slice uo ul uc,.string us,.int .i64 ut],.int .i64 (rr.1:Int)]) ?_ rfl ⟨_,rfl,?_,hF,((hBW.setCell HGR.out _).setCell HGR.out _).setCell HGR.out _⟩
  ·simp [results,Tryz.results122,go_sem,hRc0,hRc1,hRc2,hRl]
  ·rw [HTT.out,HE.out.1,HE.out.2];exact ⟨_,rfl,((hU.set_far HF2.out).set_far HF2.out).set_far HF2.out⟩
 ·have hkb:((k:Int) != 0)=true:=by rw [bne_iff_ne];omega
  have HRR:=Lib.hid (HRC.out hk);have HTA:=Lib.hid (tp_after (T:=T) hk);clear hk HRC HDR hP;have hRl:=hR.lt;obtain ⟨hRc0,hRf0,hRc1,hRf1,hRc2,hRf2⟩:=hR.x3;go_wp2;refine bodyPost_ret (v:=.tuple #[.string ⟨#[]⟩,.agg #[.slice none 0 0,.string ⟨#[]⟩,.int .i64 0],.int .i64 (k:Int)]) ?_ rfl ?_
  ·simp [results,Tryz.results122,go_sem,hRc0,hRc1,hRc2,hRl]
  ·rw [HRR.out];exact ⟨_,rfl,by show TAt _ _ (T.after k);rw [HTA.out];exact ⟨_,rfl,ss_nil _⟩,TFar.zero _ _ _,((hBW.setCell HGR.out _).setCell HGR.out _).setCell HGR.out _⟩
def SCPost (w:World) (T:Tp) (r:Nat × Int) (e:Ending) (w':World):Prop:=∃t:Value,e=.returned (.tuple #[.agg #[.bool (sg (r.2)),.string (E (r.2).natAbs)],t,.int .i64 (r.1:Int)])∧TAt w' t (T.after r.1)∧TFar t w.heap.size∧Below w.heap.size w w'
theorem E0v:(Value.agg #[.bool (sg 0),.string (E (0:Int).natAbs)])=.agg #[.bool false,.string ⟨#[]⟩]:=by
 rw [sg_zero];rfl
theorem csigned_c (att:Att) (T:Tp) (v:Value) (n:Nat) (w:World) (hat:HAtt att T.seed w) (hok:T.Ok) (h2:n<256^60) (hV:SsAt w v T.vals) :
  Calls Tryz.prog 121 #[.agg #[v,.string T.seed,.int .i64 T.pos],.string (E n)] w (SCPost w T (csgn att T n)):=by
 have h64:n<256^64:=Nat.lt_of_lt_of_le h2 (Nat.pow_le_pow_right (by decide) (by decide))
 have h65:2*n<256^64:=by
  have:256^60*2≤256^64:=by decide
  omega
 have HRD:Hid (∀w',Below w.heap.size w w'→Calls Tryz.prog 167 #[.agg #[v,.string T.seed,.int .i64 T.pos],.string (E n)] w' fun e w''=>e=.returned (.int .i64 (T.rdy n:Nat))∧Below w'.heap.size w' w''):=fun w' hb=>cready_c T v n w' hok (lt64 h64) (SsAt.after hV hb)
 have HDR:Hid (T.rdy n=0→∀w',Below w.heap.size w w'→Calls Tryz.prog 168 #[.agg #[v,.string T.seed,.int .i64 T.pos],.string (E (2*n-1))] w' (CPost w' T (coinD att T (2*n-1)))):=fun h w' hb=>by
  obtain ⟨a,b,c⟩:=rdy_zero h;exact cdraw_c att T v (2*n-1) w' (hat.after hb) hok a (by omega) (by omega) (SsAt.after hV hb)
 have HAD:Hid (∀w,Calls Tryz.prog 152 #[.string (E n),.string (E n)] w fun e w'=>e=.returned (.tuple #[.string (E (2*n)),.int .i64 0])∧Below w.heap.size w w'):=fun w=>by
  have h:=add_c n n w (lt64 h64) (lt64 h64) (by have:=lt64 h65;omega);rwa [show n+n=2*n by omega] at h
 have HS1:Hid (1≤n→∀w,Calls Tryz.prog 147 #[.string (E n),.string { data:=#[1] }] w fun e w'=>e=.returned (.tuple #[.string (E (n-1)),.int .i64 0])∧Below w.heap.size w w'):=fun h w=>sub_c n 1 w (lt64 h64) h
 have HS2:Hid (1≤n→∀w,Calls Tryz.prog 147 #[.string (E (2*n)),.string { data:=#[1] }] w fun e w'=>e=.returned (.tuple #[.string (E (2*n-1)),.int .i64 0])∧Below w.heap.size w w'):=fun h w=>sub_c (2*n) 1 w (lt64 h65) (by omega)
 have HIS:Hid (∀(x:Nat) w,x<256^64→Calls Tryz.prog 169 #[.agg #[.bool false,.string (E x)],.agg #[.bool false,.string (E (n-1))]] w fun e w'=>e=.returned (.tuple #[.agg #[.bool (sg ((x:Int)-((n-1:Nat):Int))),.string (E ((x:Int)-((n-1:Nat):Int)).natAbs)],.int .i64 0])∧Below w.heap.size w w'):=fun x w hx=>by
  have h:=isub_c (x:=(x:Int)) (y:=((n-1:Nat):Int)) (w:=w) (by rw [Int.natAbs_natCast];exact lt64 hx) (by rw [Int.natAbs_natCast];exact lt64 (by omega)) (by
   have h9:(256:Nat)^64≤256^128:=Nat.pow_le_pow_right (by decide) (by decide);omega)
  rwa [Int.natAbs_natCast,Int.natAbs_natCast,sg_nat,sg_nat] at h
 have HLT:Hid (T.rdy n=0→(coinD att T (2*n-1)).1=0→(coinD att T (2*n-1)).2<256^64):=fun _ h=>by have:=coinD_lt h;omega
 have HC1:Hid (T.rdy n≠0→csgn att T n=(T.rdy n,0)):=fun h=>by unfold csgn;rw [if_pos h]
 have HC2:Hid (T.rdy n=0→csgn att T n=if (coinD att T (2*n-1)).1=0 then (0,((coinD att T (2*n-1)).2:Int)-((n-1:Nat):Int)) else ((coinD att T (2*n-1)).1,0)):=fun h=>by unfold csgn;rw [if_neg (by omega)]
 have HN1:Hid (T.rdy n=0→1≤n):=fun h=>(rdy_zero h).2.1
 obtain ⟨ao,c,rfl⟩:=RAt.form hV;generalize csgn att T n=rr at HC1 HC2 ⊢;generalize coinD att T (2*n-1)=rd at HDR HLT HC2;generalize T.rdy n=k at HRD HDR HLT HC1 HC2 HN1;have hP:=blk3a w #[.slice ao T.vals.length c,.string T.seed,.int .i64 T.pos] #[.bool false,.string { data:=#[] }] #[.slice none 0 0,.string ⟨#[]⟩,.int .i64 0] 41 72 41;have hZ:=blk3b w #[.slice ao T.vals.length c,.string T.seed,.int .i64 T.pos] #[.bool false,.string { data:=#[] }] #[.slice none 0 0,.string ⟨#[]⟩,.int .i64 0] 41 72 41;have hR:=blk3c w #[.slice ao T.vals.length c,.string T.seed,.int .i64 T.pos] #[.bool false,.string { data:=#[] }] #[.slice none 0 0,.string ⟨#[]⟩,.int .i64 0] 41 72 41;have hBW:=b3 w (.cells #[.slice ao T.vals.length c,.string T.seed,.int .i64 T.pos] 41) (.cells #[.bool false,.string { data:=#[] }] 72) (.cells #[.slice none 0 0,.string ⟨#[]⟩,.int .i64 0] 41);generalize T.vals.length=m at HRD HDR hP hZ hR hBW ⊢;obtain ⟨gZ,hgZ⟩:∃g,w.heap.size+1=g:=⟨_,rfl⟩;obtain ⟨gR,hgR⟩:∃g,w.heap.size+1+1=g:=⟨_,rfl⟩;have hgR2:w.heap.size+2=gR:=hgR;have HGR:Hid (w.heap.size≤gR∧w.heap.size≤gZ∧gZ≠gR):=by rw [Hid];omega
 have HG1:=Lib.hid hgZ;have HG2:=Lib.hid hgR;have HG3:=Lib.hid hgR2;clear hat hok h2 hV h64 h65 hgZ hgR hgR2;obtain ⟨hPc0,hPf0,hPc1,hPf1,hPc2,hPf2⟩:=hP.x3;go_enter Tryz.func121,Tryz.ntmps121
 go_wp2_with fail
 refine (HRD.out _ hBW).mono ?_;rintro e w2 ⟨rfl,hb2⟩;clear hPc0 hPf0 hPc1 hPf1 hPc2 hPf2;replace hP:=hP.after hb2;replace hZ:=hZ.after hb2;replace hR:=hR.after hb2;replace hBW:=bt hBW hb2;clear hb2 HRD;rw [HG3.out] at hR;rw [HG1.out] at hZ;rw [HG2.out,HG1.out];clear HG1 HG2 HG3;replace hP:Blk w2 w.heap.size 41 [.slice ao m c,.string T.seed,.int .i64 T.pos]:=hP;replace hZ:Blk w2 gZ 72 [.bool false,.string { data:=#[] }]:=hZ;replace hR:Blk w2 gR 41 [.slice none 0 0,.string ⟨#[]⟩,.int .i64 0]:=hR;have hne:=HGR.out.2.2;have hne2:¬ gR=gZ:=fun e=>hne e.symm
 by_cases hk:k=0
 ·subst hk;have HD:=Lib.hid (HDR.out rfl);have HS1b:=Lib.hid (HS1.out (HN1.out rfl));have HS2b:=Lib.hid (HS2.out (HN1.out rfl));have HLTb:=Lib.hid (HLT.out rfl);have HC:=Lib.hid (HC2.out rfl);clear HDR HS1 HS2 HLT HC1 HC2 HN1;go_wp2_with fail
  refine (HAD.out _).mono ?_;rintro e w3 ⟨rfl,hb3⟩;go_wp2_with fail
  refine (HS1b.out _).mono ?_;rintro e w4 ⟨rfl,hb4⟩;go_wp2_with fail
  refine (HS2b.out _).mono ?_;rintro e w5 ⟨rfl,hb5⟩;have hb6:=bt hb3 (bt hb4 hb5);replace hP:=hP.after hb6;replace hZ:=hZ.after hb6;replace hR:=hR.after hb6;replace hBW:=bt hBW hb6;clear hb3 hb4 hb5 hb6 HAD HS1b HS2b;have HRW:=Lib.hid hR.lt;have HZW:=Lib.hid hZ.lt;obtain ⟨hPc0,hPf0,hPc1,hPf1,hPc2,hPf2⟩:=hP.x3;go_wp2_with fail
  refine (HD.out _ hBW).mono ?_;rintro e w7 ⟨t,rfl,⟨u,rfl,hU⟩,hF,hb7⟩;clear hPc0 hPf0 hPc1 hPf1 hPc2 hPf2;have HF2:=Lib.hid (hF.far HRW.out);have HF3:=Lib.hid (hF.far HZW.out);replace hF:=hF.mono hBW.size;replace hZ:=hZ.after hb7;replace hR:=hR.after hb7;replace hBW:=bt hBW hb7;clear hb7 hP HD;obtain ⟨T',hT'⟩:∃T',T'=T.after rd.1:=⟨_,rfl⟩;have HTT:=Lib.hid hT';rw [←hT'] at hU hF ⊢;obtain ⟨uo,uc,rfl⟩:=RAt.form hU;obtain ⟨ul,hul⟩:∃l,l=T'.vals.length:=⟨_,rfl⟩;rw [←hul] at hU hF HF2 HF3 ⊢;obtain ⟨us,hus⟩:∃s,s=T'.seed:=⟨_,rfl⟩;obtain ⟨ut,hut⟩:∃s,s=T'.pos:=⟨_,rfl⟩;rw [←hus,←hut] at hF ⊢;have HE:=Lib.hid (And.intro hus hut);clear hus hut hul hT';obtain ⟨x,hx⟩:∃x,x=rd.2:=⟨_,rfl⟩;obtain ⟨ke,hke⟩:∃x,x=rd.1:=⟨_,rfl⟩;rw [←hx,←hke] at HC HLTb ⊢;rw [←hke] at HTT;clear hx hke;have hX:=Blk.new w7 #[.slice uo ul uc,.string us,.int .i64 ut] 41;have hbX:=b1 w7 (.cells #[.slice uo ul uc,.string us,.int .i64 ut] 41);have HX7:Hid (gZ<w7.heap.size∧gR<w7.heap.size):=⟨hZ.lt,hR.lt⟩;by_cases hk:ke=0
  ·subst hk;have HRR:Hid (rr=(0,(x:Int)-((n-1:Nat):Int))):=by rw [Hid,HC.out,if_pos rfl]
   have HI:=Lib.hid (fun w=>HIS.out x w (HLTb.out rfl));generalize (x:Int)-((n-1:Nat):Int)=z at HI HRR;clear HC HIS HLTb;go_wp2_with fail
   refine (HI.out _).mono ?_;rintro e w8 ⟨rfl,hb8⟩;have hb9:=bt hbX hb8;replace hX:=hX.after hb8;replace hZ:=hZ.after hb9;replace hR:=hR.after hb9;have hU9:=SsAt.after hU hb9;replace hBW:=bt hBW hb9;clear hb8 hb9 hbX HI hU;obtain ⟨gX,hgX⟩:∃g,w7.heap.size=g:=⟨_,rfl⟩;rw [hgX] at hX HX7 ⊢;clear hgX;have HY8:Hid (gZ<w8.heap.size∧gR<w8.heap.size):=⟨hZ.lt,hR.lt⟩;replace hX:Blk w8 gX 41 [.slice uo ul uc,.string us,.int .i64 ut]:=hX;have hY:=Blk.new w8 #[.bool (sg z),.string (E z.natAbs)] 72;have hbY:=b1 w8 (.cells #[.bool (sg z),.string (E z.natAbs)] 72);have hXl:=hX.lt;have hZl:=hZ.lt;have hRl:=hR.lt;have hX2:=hX.after hbY;have hZ2:=hZ.after hbY;have hR2:=hR.after hbY;have hUa:=SsAt.after hU9 hbY;have hBY:=bt hBW hbY;clear hX hZ hR hU9 hBW hbY hXl hZl hRl;go_upto_region 16 with fail
   generalize w8.alloc (.cells #[.bool (sg z),.string (E z.natAbs)] 72)=w9 at hY hX2 hZ2 hR2 hUa hBY ⊢;obtain ⟨gY,hgY⟩:∃g,w8.heap.size=g:=⟨_,rfl⟩;rw [hgY] at hY HY8 ⊢;clear hgY;replace hY:Blk w9 gY 72 [.bool (sg z),.string (E z.natAbs)]:=hY;have hXl:=hX2.lt;have hZl:=hZ2.lt;have hRl:=hR2.lt;have hYl:=hY.lt;have n1:¬ gX=gZ:=by have:=HX7.out.1;omega
   have n2:¬ gX=gR:=by have:=HX7.out.2;omega
   have n3:¬ gY=gZ:=by have:=HY8.out.1;omega
   have n4:¬ gY=gR:=by have:=HY8.out.2;omega
   have m1:¬ gZ=gX:=fun e=>n1 e.symm
   have m2:¬ gR=gX:=fun e=>n2 e.symm
   obtain ⟨hX2c0,hX2f0,hX2c1,hX2f1,hX2c2,hX2f2⟩:=hX2.x3;obtain ⟨hYc0,hYf0,hYc1,hYf1⟩:=hY.x2;obtain ⟨hZ2c0,hZ2f0,hZ2c1,hZ2f1⟩:=hZ2.x2;obtain ⟨hR2c0,hR2f0,hR2c1,hR2f1,hR2c2,hR2f2⟩:=hR2.x3;go_wp2_with fail
   go_region;go_wp2;refine bodyPost_ret (v:=.tuple #[.agg #[.bool (sg (z)),.string (E (z).natAbs)],.agg #[.slice uo ul uc,.string us,.int .i64 ut],.int .i64 0]) ?_ rfl ?_
   ·simp [results,Tryz.results121,go_sem,hZ2c0,hZ2c1,hR2c0,hR2c1,hR2c2,hZl,hRl,hne,hne2]
   ·rw [HRR.out];refine ⟨_,rfl,?_,hF,(((((hBY.setCell HGR.out.2.1 _).setCell HGR.out.2.1 _).setCell HGR.out.1 _).setCell HGR.out.1 _).setCell HGR.out.1 _).drew⟩;show TAt _ _ (T.after 0);rw [←HTT.out,HE.out.1,HE.out.2];exact ⟨_,rfl,SsAt.after (((((hUa.set_far HF3.out).set_far HF3.out).set_far HF2.out).set_far HF2.out).set_far HF2.out) (Below.drew (Below.refl _ _))⟩
  ·have hkb:((ke:Int) != 0)=true:=by rw [bne_iff_ne];omega
   have HRR:Hid (rr=(ke,0)):=by rw [Hid,HC.out,if_neg hk]
   have HTA:=Lib.hid (tp_after (T:=T) hk);have hZ2:=hZ.after hbX;have hR2:=hR.after hbX;have hBY:=bt hBW hbX;have hZl:=hZ2.lt;have hRl:=hR2.lt;clear hk HC hX hZ hR hBW hbX HIS HLTb;obtain ⟨hZ2c0,hZ2f0,hZ2c1,hZ2f1⟩:=hZ2.x2;obtain ⟨hR2c0,hR2f0,hR2c1,hR2f1,hR2c2,hR2f2⟩:=hR2.x3;go_wp2;refine bodyPost_ret (v:=.tuple #[.agg #[.bool false,.string ⟨#[]⟩],.agg #[.slice none 0 0,.string ⟨#[]⟩,.int .i64 0],.int .i64 (ke:Int)]) ?_ rfl ?_
   ·simp [results,Tryz.results121,go_sem,hZ2c0,hZ2c1,hR2c0,hR2c1,hR2c2,hZl,hRl,hne,hne2]
   ·rw [HRR.out];exact ⟨_,by rw [E0v],by show TAt _ _ (T.after ke);rw [HTA.out];exact ⟨_,rfl,ss_nil _⟩,TFar.zero _ _ _,((((hBY.setCell HGR.out.2.1 _).setCell HGR.out.2.1 _).setCell HGR.out.1 _).setCell HGR.out.1 _).setCell HGR.out.1 _⟩
 ·have hkb:((k:Int) != 0)=true:=by rw [bne_iff_ne];omega
  have HRR:=Lib.hid (HC1.out hk);have HTA:=Lib.hid (tp_after (T:=T) hk);have hZl:=hZ.lt;have hRl:=hR.lt;clear hk HC1 HC2 HDR HLT HN1 HS1 HS2 HAD HIS hP;obtain ⟨hZc0,hZf0,hZc1,hZf1⟩:=hZ.x2;obtain ⟨hRc0,hRf0,hRc1,hRf1,hRc2,hRf2⟩:=hR.x3;go_wp2;refine bodyPost_ret (v:=.tuple #[.agg #[.bool false,.string ⟨#[]⟩],.agg #[.slice none 0 0,.string ⟨#[]⟩,.int .i64 0],.int .i64 (k:Int)]) ?_ rfl ?_
  ·simp [results,Tryz.results121,go_sem,hZc0,hZc1,hRc0,hRc1,hRc2,hZl,hRl,hne,hne2]
  ·rw [HRR.out];exact ⟨_,by rw [E0v],by show TAt _ _ (T.after k);rw [HTA.out];exact ⟨_,rfl,ss_nil _⟩,TFar.zero _ _ _,((((hBW.setCell HGR.out.2.1 _).setCell HGR.out.2.1 _).setCell HGR.out.1 _).setCell HGR.out.1 _).setCell HGR.out.1 _⟩
end
end Go.Proofs.YtcfjcenmcpankaaGreatDoor
