import Derived.Test.YtihjpddbjhcbmaaGreatDoorRsp3
import Derived.Laws.CopyOwn
set_option linter.unusedVariables false
set_option linter.unusedSimpArgs false
set_option maxRecDepth 100000
set_option maxHeartbeats 16000000
namespace Go.Proofs.YtihjpddbjhcbmaaGreatDoor
section
open Go.RowKit
theorem idx_cgd (l:List ByteArray) (p:ByteArray→Bool) (v:Value) (w:World) (hn:l.length≤1000) (hR:SsAt w v l)
  (hf:∀k (hk:k<l.length) (w':World),Bw w w'→Calls Tryz.prog 308 #[.string (l[k]'hk)] w' fun e w''=>e=.returned (.bool (p (l[k]'hk)))∧Bw w' w'') :
  Calls Tryz.prog 252 #[v,.func (.func 308) #[] #[]] w (IPost (l.any p) w):=by
 obtain⟨ao,c,rfl⟩:=RAt.form hR;obtain⟨n,hd⟩:∃n,n=l.length:=⟨_,rfl⟩;have HN:=Kh hd;rw[←hd]at hR hn ⊢;clear hd;have HF:=Kh hf;clear hf;go_enter Tryz.func252,Tryz.ntmps252
 go_wp2;go_loopw [8] (fun i wr=>∃k:Nat,k≤n∧i=.int .i64 k∧Hid ((l.take k).any p=false)∧Bw w wr) (fun i _=>n-(intOf i).toNat)
 case atStart=>exact⟨0,by omega,rfl,rfl,Br⟩
 case round =>
  obtain⟨k,hk,rfl,HA,hc⟩:=hrel;obtain⟨wp,hg⟩:∃wp,wp=wr:=⟨_,rfl⟩;subst hg;replace hR:=SsAt.after hR hc;by_cases hlt:k<n
  ·have hb:k<l.length:=by rw[←HN.out];exact hlt
   have HT:=Kh (any_take p l k hb);have HB:Hid (p (l[k]'hb)=true→l.any p=true):=any_hit p l k hb;obtain⟨b,o,rfl,hi,x1⟩:=SsAt.at_ hR hb;have HC:=Kh (HF.out k hb _ hc);generalize p (l[k]'hb)=pk at HT HB HC;generalize (l[k]'hb)=x at x1 HC;have hh:(0:Int)≤(k:Int):=by omega
   have hj:(k:Int)<(n:Int):=by omega
   clear hR;cases pk
   ·have HX:Hid ((l.take (k+1)).any p=false):=by rw[Hid,HT.out,HA.out];rfl
    clear HT HB;go_wp2_with fail
    refine (HC.out).mono ?_;rintro e w2 ⟨rfl,he⟩;go_wp2;go_roundw
    case rel=>exact⟨k+1,by omega,by go_num,HX,bt hc he⟩
    case measure=>simp[intOf];omega
   ·have HX:Hid (l.any p=true):=HB.out rfl;clear HT HB;go_wp2_with fail
    refine (HC.out).mono ?_;rintro e w2 ⟨rfl,he⟩;go_wp2;go_ret
    exact⟨(k:Int),rfl,by rw[HX.out];exact Dt hh,bt hc he⟩
  ·have HX:Hid (l.any p=false):=any_end p l k (by rw[←HN.out];omega) HA.out;go_wp2;go_ret
   exact⟨-1,rfl,by rw[HX.out];rfl,hc⟩
theorem cont_cgd (l:List ByteArray) (p:ByteArray→Bool) (b:Bool) (v:Value) (w:World) (hn:l.length≤1000) (hR:SsAt w v l) (hb:l.any p=b)
  (hf:∀k (hk:k<l.length) (w':World),Bw w w'→Calls Tryz.prog 308 #[.string (l[k]'hk)] w' fun e w''=>e=.returned (.bool (p (l[k]'hk)))∧Bw w' w'') :
  Calls Tryz.prog 175 #[v,.func (.func 308) #[] #[]] w fun e w'=>e=.returned (.bool b)∧Bw w w':=by
 have HE:=Kh (idx_cgd l p v w hn hR hf);rw[hb]at HE;obtain⟨ao,c,rfl⟩:=RAt.form hR;generalize l.length=n at HE;clear hn hR hf hb;go_enter Tryz.func175,Tryz.ntmps175
 go_wp2_with fail
 refine HE.out.mono ?_;rintro e w1 ⟨i,rfl,hi,hc⟩;have HI:=Kh hi;clear hi;cases b
 ·have hi:decide (0≤i)=false:=HI.out;go_wp2;go_ret
  exact⟨rfl,hc⟩
 ·have hi:decide (0≤i)=true:=HI.out;go_wp2;go_ret
  exact⟨rfl,hc⟩
end
section
open Go.RowKit Go.Shelf
theorem ss_nil (w:World):SsAt w (.slice none 0 0) []:=⟨none,0,rfl,.inl rfl⟩
def FarS (u:Value) (g:Nat):Prop:=∀b o n c,u=.slice (some ⟨b,o,none⟩) n c→n≠0→b≠g
def TFar (t:Value) (g:Nat):Prop:=∀u x y,t=.agg #[u,x,y]→∀b,b<g→FarS u b
theorem TFar.zero (g:Nat) (x y:Value):TFar (.agg #[.slice none 0 0,x,y]) g:=fun u x' y' h b hb b' o n c e _=>by
 injection h with h
 have h:=congrArg (fun a=>a[0]?) h;simp at h;subst h;cases e
theorem TFar.of {u x y:Value} {g:Nat} (hf:∀b,b<g→FarS u b):TFar (.agg #[u,x,y]) g:=fun u' x' y' h b hb=>by
 injection h with h
 have h:=congrArg (fun a=>a[0]?) h;simp at h;subst h;exact hf b hb
theorem SsAt.set_other {w:World} {g n c g2 i:Nat} {x:Value} {V:List ByteArray} (h:SsAt w (.slice (some ⟨g,0,none⟩) n c) V) (hb:g≠g2):SsAt (w.setCell ⟨g2,i,none⟩ x) (.slice (some ⟨g,0,none⟩) n c) V:=by
 obtain⟨ao,c',e,h⟩:=h;refine⟨ao,c',e,?_⟩;rcases h with h | ⟨b,o,h1,h2,h3⟩
 ·exact .inl h
 ·subst h1;injection e with e1 e2 e3
  injection e1 with e1
  injection e1 with e4 e5 e6
  refine .inr ⟨b,o,rfl,by simpa using h2,fun j hj=>?_⟩;obtain⟨cs,hq,hc⟩:=h3 j hj;refine⟨cs,hq,fun i2 hi=>?_⟩;rw[←hc i2 hi];exact World.cell?_of_block (heap_setCell_other w ⟨g2,i,none⟩ b x (fun e=>hb (by rw[e4];exact e)))
theorem SsAt.set_far {w:World} {g i:Nat} {v x:Value} {V:List ByteArray} (h:SsAt w v V) (hf:FarS v g):SsAt (w.setCell ⟨g,i,none⟩ x) v V:=by
 obtain⟨ao,c',rfl,h⟩:=h;refine⟨ao,c',rfl,?_⟩;by_cases h0:V.length=0
 ·exact .inl h0
 rcases h with h | ⟨b,o,rfl,h2,h3⟩
 ·exact .inl h
 ·refine .inr ⟨b,o,rfl,by simpa using h2,fun j hj=>?_⟩;obtain⟨cs,hq,hc⟩:=h3 j hj;refine⟨cs,hq,fun i2 hi=>?_⟩;rw[←hc i2 hi];exact World.cell?_of_block (heap_setCell_other w ⟨g,i,none⟩ b x (fun e=>hf _ _ _ _ rfl h0 e))
theorem SsAt.grown {w w':World} {row:Option Nat} {v:Value} {V:List ByteArray} (h:SsAt w v V) (hg:w.grownBy w' row) (hf:∀g,row=some g→FarS v g):SsAt w' v V:=by
 obtain⟨ao,c',rfl,h⟩:=h;refine⟨ao,c',rfl,?_⟩;by_cases h0:V.length=0
 ·exact .inl h0
 rcases h with h | ⟨b,o,rfl,h2,h3⟩
 ·exact .inl h
 ·refine .inr ⟨b,o,rfl,Nl h2 hg.size,fun j hj=>?_⟩;obtain⟨cs,hq,hc⟩:=h3 j hj;refine⟨cs,hq,fun i hi=>?_⟩;rw[←hc i hi];exact World.cell?_of_block (hg.block b h2 (fun e=>hf b e.symm _ _ _ _ rfl h0 rfl))
theorem blk5 (w:World) (A B C D F:Array Value) (TA TB TC TD TF:TypeId) :
  Blk (((((w.alloc (.cells A TA)).alloc (.cells B TB)).alloc (.cells C TC)).alloc (.cells D TD)).alloc (.cells F TF)) w.heap.size TA A.toList ∧
  Blk (((((w.alloc (.cells A TA)).alloc (.cells B TB)).alloc (.cells C TC)).alloc (.cells D TD)).alloc (.cells F TF)) (w.heap.size+1) TB B.toList ∧
  Blk (((((w.alloc (.cells A TA)).alloc (.cells B TB)).alloc (.cells C TC)).alloc (.cells D TD)).alloc (.cells F TF)) (w.heap.size+1+1) TC C.toList ∧
  Blk (((((w.alloc (.cells A TA)).alloc (.cells B TB)).alloc (.cells C TC)).alloc (.cells D TD)).alloc (.cells F TF)) (w.heap.size+1+1+1) TD D.toList ∧
  Blk (((((w.alloc (.cells A TA)).alloc (.cells B TB)).alloc (.cells C TC)).alloc (.cells D TD)).alloc (.cells F TF)) (w.heap.size+1+1+1+1) TF F.toList ∧
  Bw w (((((w.alloc (.cells A TA)).alloc (.cells B TB)).alloc (.cells C TC)).alloc (.cells D TD)).alloc (.cells F TF)):=by
 refine⟨((((Blk.new w A TA).alloc _).alloc _).alloc _).alloc _,(((blkN (by simp)).alloc _).alloc _).alloc _,((blkN (by simp)).alloc _).alloc _,(blkN (by simp)).alloc _,blkN (by simp),ba (ba (b3 w _ _ _) _) _⟩
theorem IsAt.set_far {w:World} {g i:Nat} {v x:Value} {V:List (Bool × ByteArray)} (h:IsAt w v V) (hf:FarS v g):IsAt (w.setCell ⟨g,i,none⟩ x) v V:=by
 obtain⟨ao,c',rfl,h⟩:=h;refine⟨ao,c',rfl,?_⟩;by_cases h0:V.length=0
 ·exact .inl h0
 rcases h with h | ⟨b,o,rfl,h2,h3⟩
 ·exact .inl h
 ·refine .inr ⟨b,o,rfl,by simpa using h2,fun j hj=>?_⟩;obtain⟨cs,hq,hc⟩:=h3 j hj;refine⟨cs,hq,fun i2 hi=>?_⟩;rw[←hc i2 hi];exact World.cell?_of_block (heap_setCell_other w ⟨g,i,none⟩ b x (fun e=>hf _ _ _ _ rfl h0 e))
end
section
open Go.RowKit Go.Shelf
structure Tp where
 vals:List ByteArray
 seed:ByteArray
 pos:Int
def numb (s:ByteArray):Nat:=val s.data.toList
theorem numb_E (n:Nat):numb (E n)=n:=val_E n
def Tp.good (T:Tp):Bool:=T.vals.all vldB&&(decide (0≤T.pos)&&decide (T.pos≤2147483647))
def Tp.nil:Tp:=⟨[],⟨#[]⟩,0⟩
def Tp.on (T:Tp) (k:Nat):Tp:=⟨T.vals,T.seed,T.pos+k⟩
theorem Tp.on_on (T:Tp) (a b:Nat):(T.on a).on b=T.on (a+b):=by simp[Tp.on];omega
abbrev Att:=ByteArray→Nat→Nat→Nat→Nat
def coinS (att:Att) (T:Tp) (n:Nat):Nat × Nat:=
 match (List.range 256).find? (fun a=>decide (att T.seed T.pos.toNat a (nb n)<n)) with
 | some a=>(0,att T.seed T.pos.toNat a (nb n))
 | none=>(14,0)
def coinD (att:Att) (T:Tp) (n:Nat):Nat × Nat:=
 if T.pos.toNat<T.vals.length then (if numb (T.vals.getD T.pos.toNat ⟨#[]⟩)<n then (0,numb (T.vals.getD T.pos.toNat ⟨#[]⟩)) else (2,0))
 else if T.seed.size=0∨T.pos=2147483647 then (14,0) else coinS att T n
def coin (att:Att) (T:Tp) (n:Nat):Nat × Nat:=if T.good=false then (3,0) else if n=0 then (11,0) else coinD att T n
def Tp.after (T:Tp) (e:Nat):Tp:=if e=0 then T.on 1 else Tp.nil
theorem coinD_val {att:Att} {T:Tp} {n x:Nat} (h:T.pos.toNat<T.vals.length) (hx:T.vals[T.pos.toNat]=E x) (hn:x<n):coinD att T n=(0,x):=by
 have e:numb (T.vals.getD T.pos.toNat ⟨#[]⟩)=x:=by rw[List.getD_eq_getElem?_getD,List.getElem?_eq_getElem h,Option.getD_some,hx,numb_E]
 unfold coinD;rw[if_pos h,e,if_pos hn]
theorem coinD_big {att:Att} {T:Tp} {n x:Nat} (h:T.pos.toNat<T.vals.length) (hx:T.vals[T.pos.toNat]=E x) (hn:n≤x):coinD att T n=(2,0):=by
 have e:numb (T.vals.getD T.pos.toNat ⟨#[]⟩)=x:=by rw[List.getD_eq_getElem?_getD,List.getElem?_eq_getElem h,Option.getD_some,hx,numb_E]
 unfold coinD;rw[if_pos h,e,if_neg (by omega)]
theorem coinD_no {att:Att} {T:Tp} {n:Nat} (h:T.vals.length≤T.pos.toNat) (hs:T.seed.size=0∨T.pos=2147483647):coinD att T n=(14,0):=by
 unfold coinD;rw[if_neg (by omega),if_pos hs]
theorem coinD_s {att:Att} {T:Tp} {n:Nat} (h:T.vals.length≤T.pos.toNat) (hs:T.seed.size≠0) (hp:T.pos≠2147483647):coinD att T n=coinS att T n:=by
 unfold coinD;rw[if_neg (by omega),if_neg (by omega)]
theorem find_range {p:Nat→Bool} {k n:Nat} (hk:k<n) (h:∀j,j<k→p j=false) (hp:p k=true):(List.range n).find? p=some k:=by
 rw[List.find?_range_eq_some];exact⟨hp,List.mem_range.2 hk,fun j hj=>by rw[h j hj];rfl⟩
theorem coinS_at {att:Att} {T:Tp} {n a:Nat} (ha:a<256) (h:∀j,j<a→n≤att T.seed T.pos.toNat j (nb n)) (hx:att T.seed T.pos.toNat a (nb n)<n):coinS att T n=(0,att T.seed T.pos.toNat a (nb n)):=by
 unfold coinS;rw[find_range (p:=fun a=>decide (att T.seed T.pos.toNat a (nb n)<n)) ha (fun j hj=>decide_eq_false (by have:=h j hj;omega)) (Dt hx)]
theorem coinS_no {att:Att} {T:Tp} {n:Nat} (h:∀j,j<256→n≤att T.seed T.pos.toNat j (nb n)):coinS att T n=(14,0):=by
 unfold coinS;rw[List.find?_eq_none.2 (fun j hj=>by have:=h j (List.mem_range.1 hj);simp;omega)]
theorem coinD_lt {att:Att} {T:Tp} {n:Nat} (h:(coinD att T n).1=0):(coinD att T n).2<n:=by
 unfold coinD coinS at *;split at h
 ·split at h
  ·rename_i h1 h2;rw[if_pos h1,if_pos h2];exact h2
  ·simp at h
 ·rename_i h1;split at h
  ·simp at h
  ·rename_i h2;rw[if_neg h1,if_neg h2];split at h
   ·rename_i a ha;have:=List.find?_some ha;simpa using this
   ·simp at h
def Tp.rdy (T:Tp) (n:Nat):Nat:=if T.good=false then 3 else if n=0 then 11 else 0
def csgn (att:Att) (T:Tp) (m:Nat):Nat × Int:=
 if T.rdy m≠0 then (T.rdy m,0) else if (coinD att T (2*m-1)).1=0 then (0,((coinD att T (2*m-1)).2:Int)-((m-1:Nat):Int)) else ((coinD att T (2*m-1)).1,0)
def TAt (w:World) (v:Value) (T:Tp):Prop:=∃u,v=.agg #[u,.string T.seed,.int .i64 T.pos]∧SsAt w u T.vals
structure Tp.Ok (T:Tp):Prop where
 n:T.vals.length≤100
 s:∀x∈T.vals,x.size≤100
 d:T.seed.size≤100
theorem Tp.Ok.on {T:Tp} (h:T.Ok) (k:Nat):(T.on k).Ok:=⟨h.n,h.s,h.d⟩
def drwJ (att:Att) (q C K b:Nat) (T:Tp):Nat × Int:=
 if b=0 then ((coin att T (lim q C K b).1).1,((coin att T (lim q C K b).1).2:Int)) else csgn att T (lim q C K b).1
def NSta.drw (N:NSta) (att:Att) (C K:Nat) (T:Tp) (j:Nat):Nat × Int:=drwJ att N.ord C K (N.vars.getD j 0) (T.on j)
def NSta.drwL (N:NSta) (att:Att) (C K:Nat) (T:Tp):List Int:=(List.range N.vars.length).map fun j=>(N.drw att C K T j).2
structure Drw where
 err:Nat
 msk:List Int
 tp:Tp
def NSta.drwR (N:NSta) (att:Att) (C K:Nat) (T:Tp):Drw:=
 match (List.range N.vars.length).find? (fun j=>(N.drw att C K T j).1 != 0) with
 | some j=>⟨(N.drw att C K T j).1,[],Tp.nil⟩
 | none=>⟨0,N.drwL att C K T,T.on N.vars.length⟩
theorem drw_bad {N:NSta} {att:Att} {C K:Nat} {T:Tp} {k:Nat} (hk:k<N.vars.length) (h:∀j,j<k→(N.drw att C K T j).1=0) (he:(N.drw att C K T k).1≠0):N.drwR att C K T=⟨(N.drw att C K T k).1,[],Tp.nil⟩:=by
 unfold NSta.drwR;rw[find_range (p:=fun j=>(N.drw att C K T j).1 != 0) hk (fun j hj=>by rw[h j hj];rfl) (bne_iff_ne.2 he)]
theorem drw_ok {N:NSta} {att:Att} {C K:Nat} {T:Tp} (h:∀j,j<N.vars.length→(N.drw att C K T j).1=0):N.drwR att C K T=⟨0,N.drwL att C K T,T.on N.vars.length⟩:=by
 unfold NSta.drwR;rw[List.find?_eq_none.2 (fun j hj=>by have:=h j (List.mem_range.1 hj);simp[this])]
theorem drw_step (N:NSta) (att:Att) (C K:Nat) (T:Tp) (k:Nat) (h:k<N.vars.length):(N.drwL att C K T).take (k+1)=(N.drwL att C K T).take k++[(N.drw att C K T k).2]:=by
 unfold NSta.drwL;rw[←List.map_take,List.take_succ_eq_append_getElem (by simpa using h),List.map_append,List.map_take];simp only[List.getElem_range,List.map_cons,List.map_nil]
theorem drw_at (N:NSta) (att:Att) (C K:Nat) (T:Tp) (k:Nat) (h:k<N.vars.length):N.drw att C K T k=drwJ att N.ord C K N.vars[k] (T.on k):=by
 unfold NSta.drw;rw[List.getD_eq_getElem?_getD,List.getElem?_eq_getElem h,Option.getD_some]
def NSta.prv (N:NSta) (att:Att) (C K c:Nat) (W:List Int):Nat→Tp→Drw
 | 0,_=>⟨15,[],Tp.nil⟩
 | f+1,T=>if (N.drwR att C K T).err≠0 then ⟨(N.drwR att C K T).err,[],Tp.nil⟩
  else if N.rsp2 C K c W (N.drwR att C K T).msk=0 then N.drwR att C K T else N.prv att C K c W f (N.drwR att C K T).tp
end
section
open Go.RowKit Go.Shelf
def CPost (w:World) (T:Tp) (r:Nat × Nat) (e:Ending) (w':World):Prop:=∃t:Value,e=.returned (.tuple #[.string (E r.2),t,.int .i64 (r.1:Int)])∧TAt w' t (T.after r.1)∧TFar t w.heap.size∧Bw w w'
def HAtt (att:Att) (sd:ByteArray) (w0:World):Prop:=sd.size≠0→∀(p a k:Nat),p≤2147483647→a<256→1≤k→k≤512→att sd p a k<256^64 ∧
 ∀(ao:Option Addr) (m c:Nat) (w:World),Bw w0 w→Calls Tryz.prog 265 #[.agg #[.slice ao m c,.string sd,.int .i64 (p:Int)],.int .i64 (a:Int),.int .i64 (k:Int)] w fun e w'=>e=.returned (.string (E (att sd p a k)))∧Bw w w'
theorem HAtt.after {att:Att} {sd:ByteArray} {w w':World} (h:HAtt att sd w) (hb:Bw w w'):HAtt att sd w':=fun hs p a k h1 h2 h3 h4=>⟨(h hs p a k h1 h2 h3 h4).1,fun ao m c W hW=>(h hs p a k h1 h2 h3 h4).2 ao m c W (bt hb hW)⟩
theorem cgd1_c (s:ByteArray) (w:World) (hs:s.size≤1000) :
  Calls Tryz.prog 308 #[.string s] w fun e w'=>e=.returned (.bool (!(vldB s)))∧Bw w w':=by
 have HV:Hid (∀w,Calls Tryz.prog 79 #[.string s] w fun e w'=>e=.returned (.bool (vldB s))∧w'=w):=fun w=>valB_c s _ w hs rfl
 generalize vldB s=b at HV ⊢;cases b
 ·go_enter Tryz.func308,Tryz.ntmps308
  go_wp2_with fail
  refine (HV.out _).mono ?_;rintro e w2 ⟨rfl,rfl⟩;go_wp2;go_ret
  exact⟨rfl,Br⟩
 ·go_enter Tryz.func308,Tryz.ntmps308
  go_wp2_with fail
  refine (HV.out _).mono ?_;rintro e w2 ⟨rfl,rfl⟩;go_wp2;go_ret
  exact⟨rfl,Br⟩
theorem any_not (V:List ByteArray):V.any (fun x=>!(vldB x))=!(V.all vldB):=by
 induction V with
 | nil=>rfl
 | cons a t ih=>rw[List.any_cons,List.all_cons,ih];cases vldB a <;> rfl
theorem cgood_c (T:Tp) (v:Value) (w:World) (hd:T.Ok) (hV:SsAt w v T.vals) :
  Calls Tryz.prog 261 #[.agg #[v,.string T.seed,.int .i64 T.pos]] w fun e w'=>e=.returned (.bool T.good)∧Bw w w':=by
 obtain⟨V,sd,p⟩:=T;have HG:Hid (Tp.good ⟨V,sd,p⟩=(V.all vldB&&(decide (0≤p)&&decide (p≤2147483647)))):=rfl
 have HC:Hid (∀w',Bw w w'→Calls Tryz.prog 175 #[v,.func (.func 308) #[] #[]] w' fun e w''=>e=.returned (.bool (!(V.all vldB)))∧Bw w' w''):=fun w' hb =>
  cont_cgd V (fun x=>!(vldB x)) _ v w' (by have:=hd.n;simp only[]at this;omega) (SsAt.after hV hb) (any_not V) (fun k hk w2 _=>cgd1_c _ w2 (by have:=hd.s _ (Gm hk);omega))
 obtain⟨ao,c,rfl⟩:=RAt.form hV;simp only[];generalize Tp.good ⟨V,sd,p⟩=g at HG ⊢;generalize V.all vldB=b at HG HC;generalize V.length=n at HC ⊢;clear hd hV;obtain⟨hP,hc⟩:=blk1 w #[.slice ao n c,.string sd,.int .i64 p] 33;obtain⟨t1,he⟩:∃t:Bool,t=decide (0≤p):=⟨_,rfl⟩;obtain⟨t2,hf⟩:∃t:Bool,t=decide (p≤2147483647):=⟨_,rfl⟩;rw[←he,←hf]at HG;have d1:=he.symm;have d2:=hf.symm;clear he hf;obtain⟨hh,hi,hj,hl,hm,hn⟩:=hP.x3;cases t1
 ·have HX:Hid (g=false):=by rw[Hid,HG.out];simp
  go_enter Tryz.func261,Tryz.ntmps261
  go_wp2;go_ret
  rw[HX.out];exact⟨rfl,hc⟩
 ·cases t2
  ·have HX:Hid (g=false):=by rw[Hid,HG.out];simp
   go_enter Tryz.func261,Tryz.ntmps261
   go_wp2;go_ret
   rw[HX.out];exact⟨rfl,hc⟩
  ·have HX:Hid (g=b):=by rw[Hid,HG.out];simp
   cases b
   ·go_enter Tryz.func261,Tryz.ntmps261
    go_wp2_with fail
    refine (HC.out _ hc).mono ?_;rintro e w2 ⟨rfl,hg⟩;go_wp2;go_ret
    rw[HX.out];exact⟨rfl,bt hc hg⟩
   ·go_enter Tryz.func261,Tryz.ntmps261
    go_wp2_with fail
    refine (HC.out _ hc).mono ?_;rintro e w2 ⟨rfl,hg⟩;go_wp2;go_ret
    rw[HX.out];exact⟨rfl,bt hc hg⟩
theorem cready_c (T:Tp) (v:Value) (n:Nat) (w:World) (he:T.Ok) (hn:n<256^128) (hV:SsAt w v T.vals) :
  Calls Tryz.prog 193 #[.agg #[v,.string T.seed,.int .i64 T.pos],.string (E n)] w fun e w'=>e=.returned (.int .i64 (T.rdy n:Nat))∧Bw w w':=by
 have HG:Hid (∀w',Bw w w'→Calls Tryz.prog 261 #[.agg #[v,.string T.seed,.int .i64 T.pos]] w' fun e w''=>e=.returned (.bool T.good)∧Bw w' w''):=fun w' hb=>cgood_c T v w' he (SsAt.after hV hb)
 have HV:Hid (∀w,Calls Tryz.prog 79 #[.string (E n)] w fun e w'=>e=.returned (.bool true)∧w=w'):=fun w=>validE_c n w hn
 have HR:Hid (T.rdy n=if T.good=false then 3 else if n=0 then 11 else 0):=rfl;obtain⟨ao,c,rfl⟩:=RAt.form hV;obtain⟨V,sd,p⟩:=T;simp only[]at HG ⊢;generalize Tp.rdy ⟨V,sd,p⟩ n=r at HR ⊢;generalize Tp.good ⟨V,sd,p⟩=g at HG HR;generalize V.length=m at HG ⊢;clear he hn hV;obtain⟨hP,hc⟩:=blk1 w #[.slice ao m c,.string sd,.int .i64 p] 33;obtain⟨hf,hg,hh,hi,hj,hk⟩:=hP.x3;cases g
 ·have HX:Hid (r=3):=by rw[Hid,HR.out];rfl
  go_enter Tryz.func193,Tryz.ntmps193
  go_wp2_with fail
  refine (HG.out _ hc).mono ?_;rintro e w2 ⟨rfl,hd⟩;go_wp2;go_ret
  rw[HX.out];exact⟨rfl,bt hc hd⟩
 ·by_cases h0:n=0
  ·have HX:Hid (r=11):=by rw[Hid,HR.out,if_neg (by decide),if_pos h0]
   have hz:=zE h0;have hl:((E n).toList==[])=true:=by simpa using hz
   clear h0;go_enter Tryz.func193,Tryz.ntmps193
   go_wp2_with fail
   refine (HG.out _ hc).mono ?_;rintro e w2 ⟨rfl,hd⟩;go_wp2_with fail
   refine (HV.out _).mono ?_;rintro e w' ⟨rfl,rfl⟩;go_wp2;go_ret
   rw[HX.out];exact⟨rfl,bt hc hd⟩
  ·have HX:Hid (r=0):=by rw[Hid,HR.out,if_neg (by decide),if_neg h0]
   have hz:=nzE (Nat.pos_of_ne_zero h0);have hl:=nzE2 (Nat.pos_of_ne_zero h0);clear h0;go_enter Tryz.func193,Tryz.ntmps193
   go_wp2_with fail
   refine (HG.out _ hc).mono ?_;rintro e w2 ⟨rfl,hd⟩;go_wp2_with fail
   refine (HV.out _).mono ?_;rintro e w' ⟨rfl,rfl⟩;go_wp2;go_ret
   rw[HX.out];exact⟨rfl,bt hc hd⟩
end
section
open Go.RowKit Go.Shelf
theorem ss_src {w:World} {ao:Option Addr} {m c:Nat} {V:List ByteArray} (h:SsAt w (.slice ao m c) V) (h0:V.length≠0):∃ad,ao=some ad∧∀j u,(V.map Value.string)[j]?=some u→w.cell? (ad.add j)=some u:=by
 obtain⟨ao',c',hf,hd⟩:=h;rcases hd with hd | ⟨b,o,rfl,hb,hd⟩
 ·exact absurd hd h0
 ·injection hf with e1 e2 e3
  refine⟨_,e1,fun j u hj=>?_⟩;rw[List.getElem?_map]at hj;by_cases he:j<V.length
  ·obtain⟨cs,hq,hc⟩:=hd j he;rw[List.getElem?_eq_getElem he]at hj;have h:=hc 0 (by omega);rw[show (⟨b,o,none⟩:Addr).add j=⟨b,o+j*1+0,none⟩ by rw[Addr.add_lit];simp,h,hq];simpa using hj
  ·rw[List.getElem?_eq_none (by omega)]at hj;simp at hj
theorem ss_far {w:World} {v:Value} {V:List ByteArray} {g:Nat} (h:SsAt w v V) (hg:w.heap.size≤g):FarS v g:=fun b9 o9 n9 c9 e9 h9=>by
 obtain⟨ao',c',hb,hc⟩:=h;rcases hc with hc | ⟨b8,o8,e8,hd,_⟩
 ·have h:=hb.symm.trans e9;injection h with h h2 h3
  omega
 ·have h:=hb.symm.trans e9;injection h with h
  rw[e8]at h;injection h with h
  injection h with h
  omega
theorem blk_row {w:World} {g k:Nat} {T:TypeId} {cs:List Value} {xs:Array Value} (h:Blk w k T cs) (hb:k≠g):Blk (w.setRow g xs) k T cs:=by
 rw[Blk,setRow_other w g k xs hb];exact h
theorem ss_blk {w:World} {g:Nat} {V:List ByteArray} (c:Nat) (h:Blk w g 22 (V.map Value.string)):SsAt w (.slice (some ⟨g,0,none⟩) V.length c) V:=by
 refine⟨_,_,rfl,.inr ⟨g,0,rfl,h.lt,fun j hj=>⟨[.string V[j]],rfl,fun i hi=>?_⟩⟩⟩;obtain rfl:i=0:=by omega
 have h2:=h.cell j;rw[List.getElem?_map,List.getElem?_eq_getElem hj]at h2;simpa using h2
theorem ss_row {w:World} {g:Nat} {v:Value} {V:List ByteArray} {xs:Array Value} (h:SsAt w v V) (hf:FarS v g):SsAt (w.setRow g xs) v V:=by
 obtain⟨ao,c',rfl,h⟩:=h;refine⟨ao,c',rfl,?_⟩;by_cases h0:V.length=0
 ·exact .inl h0
 rcases h with h | ⟨b,o,rfl,h2,h3⟩
 ·exact .inl h
 ·have hb:b≠g:=hf _ _ _ _ rfl h0;refine .inr ⟨b,o,rfl,by simpa [World.setRow] using h2,fun j hj=>?_⟩;obtain⟨cs,hq,hc⟩:=h3 j hj;refine⟨cs,hq,fun i2 hi=>?_⟩;rw[←hc i2 hi];exact World.cell?_of_block (setRow_other w g b xs hb)
set_option exponentiation.threshold 600 in
theorem cdraw_c (att:Att) (T:Tp) (v:Value) (n:Nat) (w:World) (HL:HAtt att T.seed w) (Ht:T.Ok) (hg:T.good=true) (h1:1≤n) (h2:n<256^64) (hV:SsAt w v T.vals) :
  Calls Tryz.prog 196 #[.agg #[v,.string T.seed,.int .i64 T.pos],.string (E n)] w (CPost w T (coinD att T n)):=by
 obtain⟨V,sd,pz⟩:=T;have HU:=hg;unfold Tp.good at hg;simp only[Bool.and_eq_true,decide_eq_true_eq]at hg;obtain⟨HN,HO,HV⟩:=hg;obtain⟨ti,rfl⟩:=Int.eq_ofNat_of_zero_le HO;have HW:ti≤2147483647:=by omega
 have HP:=Kh HL;obtain⟨rr,Hu⟩:∃r,r=coinD att ⟨V,sd,(ti:Int)⟩ n:=⟨_,rfl⟩;have Ha:=Kh Hu;rw[←Hu];have H3:Hid (∀(e:Ending) (w':World) (k x:Nat),rr=(k,x)→CPost w ⟨V,sd,(ti:Int)⟩ (k,x) e w'→CPost w ⟨V,sd,(ti:Int)⟩ rr e w'):=fun e w' k x h h'=>by rw[h];exact h'
 have Hv:Hid (∀k (h:k<V.length),∃x,x<256^100∧V[k]'h=E x):=fun k h=>by
  have h1:=(List.all_eq_true.1 HN) _ (Gm h);have h2:=Ht.s _ (Gm h);obtain⟨x,hx,e⟩:=of_vldB h1;rw[e]at h2;exact⟨x,lt_of_size h2,e⟩
 have h7:V.length≤100:=Ht.n;have HQ:∀(m:Nat) (W:World),m≤100→(Instr.makeSlice 31 (.int .i64 (m:Int)) (.int .i64 (m:Int))).run Tryz.prog W=.ok (.slice (some ⟨W.heap.size,0,none⟩) m m) (W.alloc (.cells (List.replicate m (Value.string { data:=#[] })).toArray 22)):=fun m W h=>run_mks (P:=Tryz.prog) Tryz.underlying31 info_nat m (by omega) (by omega) W
 simp only[]at hV;obtain⟨ao,c,rfl⟩:=RAt.form hV;obtain⟨m,hm⟩:∃m,V.length=m:=⟨_,rfl⟩;have HM:=Kh hm;rw[hm]at hV h7 ⊢;have Hb:=fun W=>HQ m W h7
 clear HQ hm Ht HN HO HV HU HL Hu;obtain⟨Zs,Hw⟩:∃l,l=List.replicate m (Value.string { data:=#[] }):=⟨_,rfl⟩;have Hn:Hid (Zs.length=m):=by rw[Hid,Hw];simp
 rw[←Hw]at Hb;clear Hw;obtain⟨hP,hR,hp⟩:=blk2 w #[.slice ao m c,.string sd,.int .i64 (ti:Int)] #[.slice none 0 0,.string ⟨#[]⟩,.int .i64 0] 33 33;replace hV:=SsAt.after hV hp;obtain⟨hd,he,hf,hh,hi,hk⟩:=hP.x3;go_enter Tryz.func196,Tryz.ntmps196
 go_upto_region 1 with fail
 clear hd he hf hh hi hk;generalize (w.alloc (.cells #[.slice ao m c,.string sd,.int .i64 (ti:Int)] 33)).alloc (.cells #[.slice none 0 0,.string ⟨#[]⟩,.int .i64 0] 33)=w1 at hP hR hp hV ⊢;obtain⟨gP,Hx⟩:∃g,w.heap.size=g:=⟨_,rfl⟩;obtain⟨gR,Hy⟩:∃g,w.heap.size+1=g:=⟨_,rfl⟩;have hr:Hid (w.heap.size≤gR):=by rw[Hid];omega
 have Ho:Hid (gP≠gR∧gP<w1.heap.size∧gR<w1.heap.size):=⟨by omega,hP.lt |> fun h=>by omega,hR.lt |> fun h=>by omega⟩;rw[Hy,Hx];rw[Hy]at hR;rw[Hx]at hP;clear Hx Hy;replace hP:Blk w1 gP 33 [.slice ao m c,.string sd,.int .i64 (ti:Int)]:=hP;replace hR:Blk w1 gR 33 [.slice none 0 0,.string ⟨#[]⟩,.int .i64 0]:=hR;have h8:∀w,Calls Tryz.prog 266 #[.string (E n)] w fun e w'=>e=.returned (.int .i64 (nb n))∧w=w':=fun w=>bits_c n w (Nl h2 P8)
 have HX:=Kh h8;have Hz:Hid (∀(x:Nat) (w:World),x<256^100→Calls Tryz.prog 34 #[.string (E x),.string (E n)] w fun e w'=>e=.returned (.int .i64 (cmpN x n))∧w=w'):=fun x w hx=>cmp_c x n w (Nl hx P8) (Nl h2 P8)
 have HR:Hid (1≤nb n∧nb n≤512):=by
  refine⟨nb_pos n (by omega),?_⟩;apply Classical.byContradiction
  intro hc;have h3:=nb_low n (by omega);have h5:(2:Nat)^(8*64)≤2^(nb n-1):=Nat.pow_le_pow_right (by decide) (by omega);rw[Nat.pow_mul]at h5;exact Nat.lt_irrefl _ (Nl h2 (Nat.le_trans h5 h3))
 clear h8 h2;have hB:=hR.lt;by_cases Hj:ti<m
 ·have Hh:ti<V.length:=by rw[HM.out];exact Hj
  obtain⟨b,o,rfl,hb,HY⟩:=SsAt.at_ hV Hh;obtain⟨x,hx,HB⟩:=Hv.out ti Hh;have HC:=Kh HB;rw[HB]at HY;have Hc:=Kh (fun w=>Hz.out x w hx);clear HB Hz;have t0:(0:Int)≤(ti:Int):=by omega
  have t1:(ti:Int)<(m:Int):=by omega
  have t3:¬ (m:Int)≤(ti:Int):=by omega
  have t4:((ti:Int)==2147483647)=false:=by rw[beq_eq_false_iff_ne];omega
  obtain⟨q,hq⟩:∃q:Int,q=cmpN x n:=⟨_,rfl⟩;rw[←hq]at Hc;obtain⟨hd,he,hf,hh,hi,hk⟩:=hP.x3;go_wp2_with fail
  refine (Hc.out _).mono ?_;rintro e w' ⟨rfl,rfl⟩;clear hd he hf hh hi hk;clear Hc;rcases Nat.lt_or_ge x n with hy | hy
  ·have d1:decide (0≤q)=false:=decide_eq_false (by rw[hq];have:=cmp_neg x n hy;omega);have hC:Hid (rr=(0,x)):=Ha.out.trans (coinD_val (att:=att) (T:=⟨V,sd,(ti:Int)⟩) (by exact Hh) (by exact HC.out) hy);clear hq hy;obtain⟨hd,he,hf,hh,hi,hk⟩:=hP.x3;have h4:gP<w1.heap.size:=Ho.out.2.1;go_upto_region 5 with fail
   go_cut [7] (fun s7 wx=>∃gX gS,s7=.pointer (some ⟨gX,0,none⟩)∧gX≠gS∧w1.heap.size≤gX∧w1.heap.size≤gS∧Blk wx gX 33 [.slice (some ⟨gS,0,none⟩) m m,.string sd,.int .i64 ((ti:Int)+1)]∧Blk wx gS 22 Zs∧Bw w1 wx)
   case first =>
    go_region
    all_goals
     go_wp2_with fail
     go_meet
     first
      | exact⟨w1.heap.size+1,w1.heap.size,rfl,by omega,by omega,by omega,(blkN (by simp)).drew,((Blk.new w1 Zs.toArray _).alloc _).drew,(ba (b1 _ _) _).drew⟩
      | exact⟨w1.heap.size,w1.heap.size+1,rfl,by omega,by omega,by omega,((Blk.new w1 #[.slice (some ⟨w1.heap.size+1,0,none⟩) m m,.string sd,.int .i64 ((ti:Int)+1)] _).alloc _).drew,(blkN (cs:=Zs.toArray) (by simp)).drew,(ba (b1 _ _) _).drew⟩
   case rest =>
   obtain⟨gX,gS,rfl,Hi,HD,Hk,hX,Hd,hD⟩:=hcut;obtain⟨wx,HE⟩:∃wx,wx=wc:=⟨_,rfl⟩;subst HE;clear hd he hf hh hi hk
   have ht:Hid (w.heap.size≤gX∧w.heap.size≤gS∧gX≠gR∧gS≠gR∧gX≠gS∧gP≠gS):=by
    have h1:=Ho.out;have h2:=hp.size;exact⟨by omega,by omega,by omega,by omega,Hi,by omega⟩
   have hz:=hP.after hD;have He:=hR.after hD;have h6:=SsAt.after hV hD;have Hf:=ss_far hV Hk;have hA:=bt hp hD;clear hP hR hV hp hD hB Hb Hi HD Hk h4;replace hz:Blk wx gP 33 [.slice (some ⟨b,o,none⟩) m c,.string sd,.int .i64 (ti:Int)]:=hz;replace hX:Blk wx gX 33 [.slice (some ⟨gS,0,none⟩) m m,.string sd,.int .i64 ((ti:Int)+1)]:=hX;obtain⟨hE,hF,hG,hH,hI,hJ⟩:=hz.x3;obtain⟨hK,hL,hM,hN,hO,hQ⟩:=hX.x3;have h4:=hz.lt;have Hl:=hX.lt;go_upto_region 6 with fail
   go_cut [59] (fun s59 wy=>Blk wy gX 33 [.slice (some ⟨gS,0,none⟩) m m,.string sd,.int .i64 ((ti:Int)+1)]∧Blk wy gP 33 [.slice (some ⟨b,o,none⟩) m c,.string sd,.int .i64 (ti:Int)]∧Blk wy gR 33 [.slice none 0 0,.string ⟨#[]⟩,.int .i64 0]∧SsAt wy (.slice (some ⟨gS,0,none⟩) m m) V∧SsAt wy (.slice (some ⟨b,o,none⟩) m c) V∧Bw w wy)
   case first =>
    by_cases hv:m=0
    ·have HF:Hid (V=[]):=List.length_eq_zero_iff.1 (by rw[HM.out];exact hv);have HG:=Kh hv;have Hg:=run_copy_none (P:=Tryz.prog) wx 31 31 3 22 (some ⟨gS,0,none⟩) (some ⟨b,o,none⟩) m m m c Tryz.underlying31 (by kernel_rfl) (by rw[hv];rfl);clear hv;go_wp2;go_meet
     refine⟨hX,hz,He,?_,h6,hA⟩;have hv:=HG.out;subst hv;rw[HF.out];exact⟨_,_,rfl,.inl rfl⟩
    ·have Hm:V.length≠0:=by rw[HM.out];exact hv
     obtain⟨ad,e,hw⟩:=ss_src h6 Hm;have Hg:=run_copy_row (P:=Tryz.prog) wx 31 31 3 22 gS 0 m m ad m c Zs.toArray 22 (V.map Value.string) Tryz.underlying31 (by kernel_rfl) Hd (by rw[List.length_map,HM.out];exact (Nat.min_self m).symm) hw (by rw[List.length_map,HM.out,List.size_toArray,Hn.out];omega) (by intro u hu;obtain⟨x,_,rfl⟩:=List.mem_map.1 hu;rfl)
     have hS:Blk (wx.setRow gS (Zs.toArray.toList.take 0++V.map Value.string++Zs.toArray.toList.drop (0+(V.map Value.string).length)).toArray) gS 22 (V.map Value.string):=by
      have h:=setRow_heap wx gS Zs.toArray (Zs.toArray.toList.take 0++V.map Value.string++Zs.toArray.toList.drop (0+(V.map Value.string).length)).toArray 22 (0,0) Hd;have e:Zs.drop (0+(V.map Value.string).length)=[]:=List.drop_eq_nil_of_le (by rw[List.length_map,HM.out,Hn.out];omega);rw[Blk,h];show some (Obj.cells (Zs.take 0++V.map Value.string++Zs.drop (0+(V.map Value.string).length)).toArray _ _)=_;rw[e,List.take_zero,List.nil_append,List.append_nil]
     generalize (Zs.toArray.toList.take 0++V.map Value.string++Zs.toArray.toList.drop (0+(V.map Value.string).length)).toArray=xs at Hg hS;generalize (V.map Value.string).length=nl at Hg;clear hw hv Hm;first | subst e | (injection e with e;subst e)
     go_wp2;go_meet
     refine⟨blk_row hX ht.out.2.2.2.2.1,blk_row hz ht.out.2.2.2.2.2,blk_row He ht.out.2.2.2.1.symm,?_,ss_row h6 Hf,below_setRow hA ht.out.2.1 _⟩;have h:=ss_blk m hS;rw[HM.out]at h;exact h
   case rest =>
   clear hE hF hG hH hI hJ;clear hK hL hM hN hO hQ;clear hz hX He h6 hA h4 Hl Hd;obtain⟨hX,hP,hR,hU,hV,hp⟩:=hcut;obtain⟨wy,HH⟩:∃wx,wx=wc:=⟨_,rfl⟩;subst HH;clear Ha Hv d1;obtain⟨b2,o2,e2,H4,HZ⟩:=SsAt.at_ hV Hh;injection e2 with e2
   injection e2 with e1 e3 e4
   subst e1 e3;clear e4;rw[HC.out]at HZ;have hB:=hR.lt;have Hl:=hX.lt;have h4:=hP.lt;obtain⟨hl,hT,hn,hY,ho,hZ⟩:=hR.x3;obtain⟨hK,hL,hM,hN,hO,hQ⟩:=hX.x3;obtain⟨hd,he,hf,hh,hi,hk⟩:=hP.x3;go_wp2_with fail
   go_region;go_wp2;refine bodyPost_ret (v:=.tuple #[.string (E x),.agg #[.slice (some ⟨gS,0,none⟩) m m,.string sd,.int .i64 ((ti:Int)+1)],.int .i64 0]) ?_ rfl ?_
   ·simp[results,Tryz.results196,go_sem,hl,hn,ho,hB]
   ·rw[hC.out];exact⟨_,rfl,⟨_,rfl,SsAt.after (((hU.set_other ht.out.2.2.2.1).set_other ht.out.2.2.2.1).set_other ht.out.2.2.2.1) (Below.drew Br)⟩,TFar.of (fun b hb b' o n c e _=>by injection e with e;injection e with e;injection e with e;have:=ht.out.2.1;omega),(((hp.setCell hr.out _).setCell hr.out _).setCell hr.out _).drew⟩
  ·have d1:decide (0≤q)=true:=Dt (by rw[hq];have:=cmp_nneg x n hy;omega);have hC:Hid (rr=(2,0)):=Ha.out.trans (coinD_big (att:=att) (T:=⟨V,sd,(ti:Int)⟩) (by exact Hh) (by exact HC.out) hy);clear hq hy;obtain⟨hl,hT,hn,hY,ho,hZ⟩:=hR.x3;go_wp2;refine bodyPost_ret (v:=.tuple #[.string ⟨#[]⟩,.agg #[.slice none 0 0,.string ⟨#[]⟩,.int .i64 0],.int .i64 2]) ?_ rfl ?_
   ·simp[results,Tryz.results196,go_sem,hl,hn,ho,hB]
   ·rw[hC.out];exact⟨_,rfl,⟨_,rfl,ss_nil _⟩,TFar.zero _ _ _,((hp.setCell hr.out _).setCell hr.out _).setCell hr.out _⟩
 ·have Hh:¬ ti<V.length:=by rw[HM.out];exact Hj
  have t1:¬ (ti:Int)<(m:Int):=by omega
  have t3:(m:Int)≤(ti:Int):=by omega
  have Hp:V.length≤((ti:Int)).toNat:=by rw[Int.toNat_natCast];omega
  by_cases Hq:sd.size=0
  ·have hC:Hid (rr=(14,0)):=Ha.out.trans (coinD_no (att:=att) (T:=⟨V,sd,(ti:Int)⟩) Hp (.inl Hq));obtain rfl:sd=ByteArray.empty:=by apply ByteArray.ext;apply Array.eq_empty_of_size_eq_zero;exact Hq
   obtain⟨hd,he,hf,hh,hi,hk⟩:=hP.x3;obtain⟨hl,hT,hn,hY,ho,hZ⟩:=hR.x3;go_wp2;refine bodyPost_ret (v:=.tuple #[.string ⟨#[]⟩,.agg #[.slice none 0 0,.string ⟨#[]⟩,.int .i64 0],.int .i64 14]) ?_ rfl ?_
   ·simp[results,Tryz.results196,go_sem,hl,hn,ho,hB]
   ·rw[hC.out];exact⟨_,rfl,⟨_,rfl,ss_nil _⟩,TFar.zero _ _ _,((hp.setCell hr.out _).setCell hr.out _).setCell hr.out _⟩
  ·have Hi:=nz_str (s:=sd) (by omega);by_cases H0:ti=2147483647
   ·have hC:Hid (rr=(14,0)):=Ha.out.trans (coinD_no (att:=att) (T:=⟨V,sd,(ti:Int)⟩) Hp (.inr (by show (ti:Int)=2147483647;omega)));subst H0;obtain⟨hd,he,hf,hh,hi,hk⟩:=hP.x3;obtain⟨hl,hT,hn,hY,ho,hZ⟩:=hR.x3;go_wp2;refine bodyPost_ret (v:=.tuple #[.string ⟨#[]⟩,.agg #[.slice none 0 0,.string ⟨#[]⟩,.int .i64 0],.int .i64 14]) ?_ rfl ?_
    ·simp[results,Tryz.results196,go_sem,hl,hn,ho,hB]
    ·rw[hC.out];exact⟨_,rfl,⟨_,rfl,ss_nil _⟩,TFar.zero _ _ _,((hp.setCell hr.out _).setCell hr.out _).setCell hr.out _⟩
   ·have H5:((ti:Int)==2147483647)=false:=by rw[beq_eq_false_iff_ne];omega
    have HS:Hid (rr=coinS att ⟨V,sd,(ti:Int)⟩ n):=Ha.out.trans (coinD_s (att:=att) (T:=⟨V,sd,(ti:Int)⟩) Hp Hq (by show (ti:Int)≠2147483647;omega));have HT:Hid (∀a,a<256→att sd ti a (nb n)<256^64∧∀(ao:Option Addr) (m c:Nat) (W:World),Bw w W→Calls Tryz.prog 265 #[.agg #[.slice ao m c,.string sd,.int .i64 (ti:Int)],.int .i64 (a:Int),.int .i64 (nb n)] W fun e w'=>e=.returned (.string (E (att sd ti a (nb n))))∧Bw W w'):=fun a ha=>HP.out Hq ti a (nb n) HW ha HR.out.1 HR.out.2
    clear HP Ha Hp Hv;obtain⟨hd,he,hf,hh,hi,hk⟩:=hP.x3;have h4:gP<w1.heap.size:=Ho.out.2.1;go_upto_region 5 with fail
    go_cut [7] (fun s7 wx=>∃gX gS,s7=.pointer (some ⟨gX,0,none⟩)∧gX≠gS∧w1.heap.size≤gX∧w1.heap.size≤gS∧Blk wx gX 33 [.slice (some ⟨gS,0,none⟩) m m,.string sd,.int .i64 ((ti:Int)+1)]∧Blk wx gS 22 Zs∧Bw w1 wx)
    case first =>
     go_region
     all_goals
      go_wp2_with fail
      go_meet
      first
       | exact⟨w1.heap.size+1,w1.heap.size,rfl,by omega,by omega,by omega,(blkN (by simp)).drew,((Blk.new w1 Zs.toArray _).alloc _).drew,(ba (b1 _ _) _).drew⟩
       | exact⟨w1.heap.size,w1.heap.size+1,rfl,by omega,by omega,by omega,((Blk.new w1 #[.slice (some ⟨w1.heap.size+1,0,none⟩) m m,.string sd,.int .i64 ((ti:Int)+1)] _).alloc _).drew,(blkN (cs:=Zs.toArray) (by simp)).drew,(ba (b1 _ _) _).drew⟩
    case rest =>
    obtain⟨gX,gS,rfl,Hi,HD,Hk,hX,Hd,hD⟩:=hcut;obtain⟨wx,HE⟩:∃wx,wx=wc:=⟨_,rfl⟩;subst HE;clear hd he hf hh hi hk
    have ht:Hid (w.heap.size≤gX∧w.heap.size≤gS∧gX≠gR∧gS≠gR∧gX≠gS∧gP≠gS):=by
     have h1:=Ho.out;have h2:=hp.size;exact⟨by omega,by omega,by omega,by omega,Hi,by omega⟩
    have hz:=hP.after hD;have He:=hR.after hD;have h6:=SsAt.after hV hD;have Hf:=ss_far hV Hk;have hA:=bt hp hD;clear hP hR hV hp hD hB Hb Hi HD Hk h4;replace hz:Blk wx gP 33 [.slice ao m c,.string sd,.int .i64 (ti:Int)]:=hz;replace hX:Blk wx gX 33 [.slice (some ⟨gS,0,none⟩) m m,.string sd,.int .i64 ((ti:Int)+1)]:=hX;obtain⟨hE,hF,hG,hH,hI,hJ⟩:=hz.x3;obtain⟨hK,hL,hM,hN,hO,hQ⟩:=hX.x3;have h4:=hz.lt;have Hl:=hX.lt;go_upto_region 6 with fail
    go_cut [59] (fun s59 wy=>Blk wy gX 33 [.slice (some ⟨gS,0,none⟩) m m,.string sd,.int .i64 ((ti:Int)+1)]∧Blk wy gP 33 [.slice ao m c,.string sd,.int .i64 (ti:Int)]∧Blk wy gR 33 [.slice none 0 0,.string ⟨#[]⟩,.int .i64 0]∧SsAt wy (.slice (some ⟨gS,0,none⟩) m m) V∧SsAt wy (.slice ao m c) V∧Bw w wy)
    case first =>
     by_cases hv:m=0
     ·have HF:Hid (V=[]):=List.length_eq_zero_iff.1 (by rw[HM.out];exact hv);have HG:=Kh hv;have Hg:=run_copy_none (P:=Tryz.prog) wx 31 31 3 22 (some ⟨gS,0,none⟩) ao m m m c Tryz.underlying31 (by kernel_rfl) (by rw[hv];rfl);clear hv;go_wp2;go_meet
      refine⟨hX,hz,He,?_,h6,hA⟩;have hv:=HG.out;subst hv;rw[HF.out];exact⟨_,_,rfl,.inl rfl⟩
     ·have Hm:V.length≠0:=by rw[HM.out];exact hv
      obtain⟨ad,e,hw⟩:=ss_src h6 Hm;have Hg:=run_copy_row (P:=Tryz.prog) wx 31 31 3 22 gS 0 m m ad m c Zs.toArray 22 (V.map Value.string) Tryz.underlying31 (by kernel_rfl) Hd (by rw[List.length_map,HM.out];exact (Nat.min_self m).symm) hw (by rw[List.length_map,HM.out,List.size_toArray,Hn.out];omega) (by intro u hu;obtain⟨x,_,rfl⟩:=List.mem_map.1 hu;rfl)
      have hS:Blk (wx.setRow gS (Zs.toArray.toList.take 0++V.map Value.string++Zs.toArray.toList.drop (0+(V.map Value.string).length)).toArray) gS 22 (V.map Value.string):=by
       have h:=setRow_heap wx gS Zs.toArray (Zs.toArray.toList.take 0++V.map Value.string++Zs.toArray.toList.drop (0+(V.map Value.string).length)).toArray 22 (0,0) Hd;have e:Zs.drop (0+(V.map Value.string).length)=[]:=List.drop_eq_nil_of_le (by rw[List.length_map,HM.out,Hn.out];omega);rw[Blk,h];show some (Obj.cells (Zs.take 0++V.map Value.string++Zs.drop (0+(V.map Value.string).length)).toArray _ _)=_;rw[e,List.take_zero,List.nil_append,List.append_nil]
      generalize (Zs.toArray.toList.take 0++V.map Value.string++Zs.toArray.toList.drop (0+(V.map Value.string).length)).toArray=xs at Hg hS;generalize (V.map Value.string).length=nl at Hg;clear hw hv Hm;first | subst e | (injection e with e;subst e)
      go_wp2;go_meet
      refine⟨blk_row hX ht.out.2.2.2.2.1,blk_row hz ht.out.2.2.2.2.2,blk_row He ht.out.2.2.2.1.symm,?_,ss_row h6 Hf,below_setRow hA ht.out.2.1 _⟩;have h:=ss_blk m hS;rw[HM.out]at h;exact h
    case rest =>
    clear hE hF hG hH hI hJ;clear hK hL hM hN hO hQ;clear hz hX He h6 hA h4 Hl Hd;obtain⟨hX,hP,hR,hU,hV,hp⟩:=hcut;obtain⟨wy,HH⟩:∃wx,wx=wc:=⟨_,rfl⟩;subst HH;obtain⟨hd,he,hf,hh,hi,hk⟩:=hP.x3;go_wp2;clear hd he hf hh hi hk;go_loopw [73] (fun i wr=>∃a:Nat,a≤256∧i=.int .i64 (a:Int)∧Hid (∀j,j<a→n≤att sd ti j (nb n))∧Bw wy wr) (fun i _=>256-(intOf i).toNat)
    case atStart=>exact⟨0,by omega,rfl,fun j h=>absurd h (Nat.not_lt_zero _),Br⟩
    case round =>
     obtain⟨a,ha,rfl,HA,h9⟩:=hrel;obtain⟨wp,H1⟩:∃wp,wp=wr:=⟨_,rfl⟩;subst H1;replace hX:=hX.after h9;replace hP:=hP.after h9;replace hR:=hR.after h9;replace hU:=SsAt.after hU h9;replace hp:=bt hp h9;by_cases hlt:a<256
     ·have h0:Hid (att sd ti a (nb n)<256^64∧∀(ao:Option Addr) (m c:Nat) (W:World),Bw wp W→Calls Tryz.prog 265 #[.agg #[.slice ao m c,.string sd,.int .i64 (ti:Int)],.int .i64 (a:Int),.int .i64 (nb n)] W fun e w'=>e=.returned (.string (E (att sd ti a (nb n))))∧Bw W w'):=⟨(HT.out a hlt).1,fun ao m c W hW=>(HT.out a hlt).2 ao m c W (bt hp hW)⟩;have Hr:Hid (att sd ti a (nb n)<n→rr=(0,att sd ti a (nb n))):=fun h=>HS.out.trans (coinS_at (att:=att) (T:=⟨V,sd,(ti:Int)⟩) hlt HA.out h)
      have Hs:Hid (n≤att sd ti a (nb n)→∀j,j<a+1→n≤att sd ti j (nb n)):=fun h j hj=>by
       by_cases e:j=a
       ·rw[e];exact h
       ·exact HA.out j (by omega)
      generalize att sd ti a (nb n)=x at h0 Hr Hs;have Hc:=Kh (fun w=>Hz.out x w (Nl h0.out.1 P8));obtain⟨hd,he,hf,hh,hi,hk⟩:=hP.x3;have HI:=hP.gcell 0;have HJ:=hP.gcell 1;have HK:=hP.gcell 2;go_upto_region 12 with fail
      go_wp2_with fail
      refine wp_region_gw (by kernel_rfl) (by kernel_rfl) ?_;repeat (go_big_quiet_step (first | (go_at_call 266;exact gw_same (HX.out _)) | (go_at_call 265;exact gw_of (h0.out.2 _ _ _ _ (gw_below _)))))
      refine wpQuiet_nil ?_;rintro w4 ⟨xw4,rfl⟩;have hb4:=gw_below xw4;generalize gw xw4=w4 at hb4;clear hd he hf hh hi hk;clear HI HJ HK;replace hX:=hX.after hb4;replace hP:=hP.after hb4;replace hR:=hR.after hb4;replace hU:=SsAt.after hU hb4;replace hp:=bt hp hb4;replace h9:=bt h9 hb4;clear hb4;obtain⟨q,hq⟩:∃q:Int,q=cmpN x n:=⟨_,rfl⟩;rw[←hq]at Hc;rcases Nat.lt_or_ge x n with hy | hy
      ·have d1:decide (q<0)=true:=Dt (by rw[hq];exact cmp_neg x n hy);have hC:=Kh (Hr.out hy);clear hq hy Hr Hs h0;go_wp2_with fail
       refine (Hc.out _).mono ?_;rintro e w' ⟨rfl,rfl⟩;have hB:=hR.lt;have Hl:=hX.lt;have h4:=hP.lt;obtain⟨hl,hT,hn,hY,ho,hZ⟩:=hR.x3;obtain⟨hK,hL,hM,hN,hO,hQ⟩:=hX.x3;obtain⟨hd,he,hf,hh,hi,hk⟩:=hP.x3;go_wp2_with fail
       go_region;go_wp2;refine bodyPost_ret (v:=.tuple #[.string (E x),.agg #[.slice (some ⟨gS,0,none⟩) m m,.string sd,.int .i64 ((ti:Int)+1)],.int .i64 0]) ?_ rfl ?_
       ·simp[results,Tryz.results196,go_sem,hl,hn,ho,hB]
       ·rw[hC.out];exact⟨_,rfl,⟨_,rfl,SsAt.after (((hU.set_other ht.out.2.2.2.1).set_other ht.out.2.2.2.1).set_other ht.out.2.2.2.1) (Below.drew Br)⟩,TFar.of (fun b hb b' o n c e _=>by injection e with e;injection e with e;injection e with e;have:=ht.out.2.1;omega),(((hp.setCell hr.out _).setCell hr.out _).setCell hr.out _).drew⟩
      ·have d1:decide (q<0)=false:=decide_eq_false (by rw[hq];exact cmp_nneg x n hy);have H2:=Kh (Hs.out hy);clear hq hy Hr Hs h0;go_wp2_with fail
       refine (Hc.out _).mono ?_;rintro e w' ⟨rfl,rfl⟩;go_wp2;go_roundw
       case rel=>exact⟨a+1,by omega,by go_num,H2.out,h9⟩
       case measure=>simp[intOf];omega
     ·have hC:Hid (rr=(14,0)):=HS.out.trans (coinS_no (att:=att) (T:=⟨V,sd,(ti:Int)⟩) (fun j hj=>HA.out j (by omega)));have hB:=hR.lt;obtain⟨hl,hT,hn,hY,ho,hZ⟩:=hR.x3;go_wp2;refine bodyPost_ret (v:=.tuple #[.string ⟨#[]⟩,.agg #[.slice none 0 0,.string ⟨#[]⟩,.int .i64 0],.int .i64 14]) ?_ rfl ?_
      ·simp[results,Tryz.results196,go_sem,hl,hn,ho,hB]
      ·rw[hC.out];exact⟨_,rfl,⟨_,rfl,ss_nil _⟩,TFar.zero _ _ _,((hp.setCell hr.out _).setCell hr.out _).setCell hr.out _⟩
end
section
open Go.RowKit Go.Shelf
theorem TFar.mono {t:Value} {g g':Nat} (h:TFar t g) (hg:g'≤g):TFar t g':=fun u x y e b hb=>h u x y e b (by omega)
theorem TFar.far {u x y:Value} {g b:Nat} (h:TFar (.agg #[u,x,y]) g) (hb:b<g):FarS u b:=h u x y rfl b hb
theorem rdy_coin {att:Att} {T:Tp} {n:Nat} (h:T.rdy n≠0):coin att T n=(T.rdy n,0):=by
 unfold Tp.rdy at *;unfold coin;by_cases h1:T.good=false
 ·rw[if_pos h1,if_pos h1]
 ·rw[if_neg h1]at h;rw[if_neg h1,if_neg h1];by_cases h2:n=0
  ·rw[if_pos h2,if_pos h2]
  ·rw[if_neg h2]at h;exact absurd rfl h
theorem rdy_zero {T:Tp} {n:Nat} (h:T.rdy n=0):T.good=true∧1≤n∧∀att,coin att T n=coinD att T n:=by
 unfold Tp.rdy at h;split at h
 ·simp at h
 ·rename_i h1;split at h
  ·simp at h
  ·rename_i h2;refine⟨by simpa using h1,by omega,fun att=>?_⟩;unfold coin;rw[if_neg h1,if_neg h2]
theorem tp_after {T:Tp} {k:Nat} (h:k≠0):T.after k=Tp.nil:=by unfold Tp.after;rw[if_neg h]
theorem cbelow_c (att:Att) (T:Tp) (v:Value) (n:Nat) (w:World) (hD:HAtt att T.seed w) (hu:T.Ok) (h2:n<256^64) (hV:SsAt w v T.vals) :
  Calls Tryz.prog 99 #[.agg #[v,.string T.seed,.int .i64 T.pos],.string (E n)] w (CPost w T (coin att T n)):=by
 have hq:Hid (∀w',Bw w w'→Calls Tryz.prog 193 #[.agg #[v,.string T.seed,.int .i64 T.pos],.string (E n)] w' fun e w''=>e=.returned (.int .i64 (T.rdy n:Nat))∧Bw w' w''):=fun w' hb=>cready_c T v n w' hu (lt64 h2) (SsAt.after hV hb)
 have hn:Hid (T.rdy n=0→∀w',Bw w w'→Calls Tryz.prog 196 #[.agg #[v,.string T.seed,.int .i64 T.pos],.string (E n)] w' (CPost w' T (coin att T n))):=fun h w' hb=>by
  obtain⟨a,b,c⟩:=rdy_zero h;rw[c att];exact cdraw_c att T v n w' (hD.after hb) hu a b h2 (SsAt.after hV hb)
 have hp:Hid (T.rdy n≠0→coin att T n=(T.rdy n,0)):=rdy_coin;obtain⟨ao,c,rfl⟩:=RAt.form hV;generalize coin att T n=rr at hn hp ⊢;generalize T.rdy n=k at hq hn hp;obtain⟨hP,hR,hc⟩:=blk2 w #[.slice ao T.vals.length c,.string T.seed,.int .i64 T.pos] #[.slice none 0 0,.string ⟨#[]⟩,.int .i64 0] 33 33;generalize T.vals.length=m at hq hn hP hR hc ⊢;obtain⟨gR,hE⟩:∃g,w.heap.size+1=g:=⟨_,rfl⟩;have ho:Hid (w.heap.size≤gR):=by rw[Hid];omega
 have hG:=Kh hE;clear hD hu h2 hV hE;obtain⟨hd,he,hf,hg,hh,hi⟩:=hP.x3;go_enter Tryz.func99,Tryz.ntmps99
 go_wp2_with fail
 refine (hq.out _ hc).mono ?_;rintro e w2 ⟨rfl,hr⟩;clear hd he hf hg hh hi;replace hP:=hP.after hr;replace hR:=hR.after hr;replace hc:=bt hc hr;clear hr hq;rw[hG.out]at hR ⊢;clear hG;replace hP:Blk w2 w.heap.size 33 [.slice ao m c,.string T.seed,.int .i64 T.pos]:=hP;replace hR:Blk w2 gR 33 [.slice none 0 0,.string ⟨#[]⟩,.int .i64 0]:=hR;have hI:=Kh hR.lt;by_cases hk:k=0
 ·subst hk;have HD:=Kh (hn.out rfl);clear hn hp;obtain⟨hd,he,hf,hg,hh,hi⟩:=hP.x3;go_wp2_with fail
  refine (HD.out _ hc).mono ?_;rintro e w3 ⟨t,rfl,⟨u,rfl,hU⟩,hF,hv⟩;clear hd he hf hg hh hi;have ht:=Kh (hF.far hI.out);replace hF:=hF.mono hc.size;replace hR:=hR.after hv;replace hc:=bt hc hv;clear hv hP HD;generalize hH:T.after rr.1=T' at hU hF ⊢;obtain⟨uo,uc,rfl⟩:=RAt.form hU;obtain⟨ul,hw⟩:∃l,l=T'.vals.length:=⟨_,rfl⟩;have hM:=Kh hw;have hJ:=Kh hH;rw[←hw]at hU hF ht ⊢;clear hw hH;obtain⟨us,hx⟩:∃s,s=T'.seed:=⟨_,rfl⟩;obtain⟨ut,hy⟩:∃s,s=T'.pos:=⟨_,rfl⟩;rw[←hx,←hy]at hF ⊢;have HE:=Kh (And.intro hx hy);clear hx hy;have hz:=hR.lt;obtain⟨hj,hA,hl,hB,hm,hC⟩:=hR.x3;go_wp2;refine bodyPost_ret (v:=.tuple #[.string (E rr.2),.agg #[.slice uo ul uc,.string us,.int .i64 ut],.int .i64 (rr.1:Int)]) ?_ rfl ⟨_,rfl,?_,hF,((hc.setCell ho.out _).setCell ho.out _).setCell ho.out _⟩
  ·simp[results,Tryz.results99,go_sem,hj,hl,hm,hz]
  ·rw[hJ.out,HE.out.1,HE.out.2];exact⟨_,rfl,((hU.set_far ht.out).set_far ht.out).set_far ht.out⟩
 ·have hN:((k:Int) != 0)=true:=by rw[bne_iff_ne];omega
  have hK:=Kh (hp.out hk);have hL:=Kh (tp_after (T:=T) hk);clear hk hp hn hP;have hz:=hR.lt;obtain⟨hj,hA,hl,hB,hm,hC⟩:=hR.x3;go_wp2;refine bodyPost_ret (v:=.tuple #[.string ⟨#[]⟩,.agg #[.slice none 0 0,.string ⟨#[]⟩,.int .i64 0],.int .i64 (k:Int)]) ?_ rfl ?_
  ·simp[results,Tryz.results99,go_sem,hj,hl,hm,hz]
  ·rw[hK.out];exact⟨_,rfl,by show TAt _ _ (T.after k);rw[hL.out];exact⟨_,rfl,ss_nil _⟩,TFar.zero _ _ _,((hc.setCell ho.out _).setCell ho.out _).setCell ho.out _⟩
def SCPost (w:World) (T:Tp) (r:Nat × Int) (e:Ending) (w':World):Prop:=∃t:Value,e=.returned (.tuple #[.agg #[.bool (sg (r.2)),.string (E (r.2).natAbs)],t,.int .i64 (r.1:Int)])∧TAt w' t (T.after r.1)∧TFar t w.heap.size∧Bw w w'
theorem E0v:(Value.agg #[.bool (sg 0),.string (E (0:Int).natAbs)])=.agg #[.bool false,.string ⟨#[]⟩]:=by
 rw[sg_zero];rfl
theorem csigned_c (att:Att) (T:Tp) (v:Value) (n:Nat) (w:World) (Ht:HAtt att T.seed w) (h6:T.Ok) (h2:n<256^60) (hV:SsAt w v T.vals) :
  Calls Tryz.prog 98 #[.agg #[v,.string T.seed,.int .i64 T.pos],.string (E n)] w (SCPost w T (csgn att T n)):=by
 have hD:n<256^64:=Nl h2 P8
 have h7:2*n<256^64:=by
  have:256^60*2≤256^64:=by decide
  omega
 have hW:Hid (∀w',Bw w w'→Calls Tryz.prog 193 #[.agg #[v,.string T.seed,.int .i64 T.pos],.string (E n)] w' fun e w''=>e=.returned (.int .i64 (T.rdy n:Nat))∧Bw w' w''):=fun w' hb=>cready_c T v n w' h6 (lt64 hD) (SsAt.after hV hb)
 have hv:Hid (T.rdy n=0→∀w',Bw w w'→Calls Tryz.prog 196 #[.agg #[v,.string T.seed,.int .i64 T.pos],.string (E (2*n-1))] w' (CPost w' T (coinD att T (2*n-1)))):=fun h w' hb=>by
  obtain⟨a,b,c⟩:=rdy_zero h;exact cdraw_c att T v (2*n-1) w' (Ht.after hb) h6 a (by omega) (by omega) (SsAt.after hV hb)
 have h8:Hid (∀w,Calls Tryz.prog 194 #[.string (E n),.string (E n)] w fun e w'=>e=.returned (.tuple #[.string (E (2*n)),.int .i64 0])∧Bw w w'):=fun w=>by
  have h:=add_c n n w (lt64 hD) (lt64 hD) (by have:=lt64 h7;omega);rwa [show n+n=2*n by omega]at h
 have Ha:Hid (1≤n→∀w,Calls Tryz.prog 195 #[.string (E n),.string { data:=#[1] }] w fun e w'=>e=.returned (.tuple #[.string (E (n-1)),.int .i64 0])∧Bw w w'):=fun h w=>sub_c n 1 w (lt64 hD) h
 have Hb:Hid (1≤n→∀w,Calls Tryz.prog 195 #[.string (E (2*n)),.string { data:=#[1] }] w fun e w'=>e=.returned (.tuple #[.string (E (2*n-1)),.int .i64 0])∧Bw w w'):=fun h w=>sub_c (2*n) 1 w (lt64 h7) (by omega)
 have h0:Hid (∀(x:Nat) w,x<256^64→Calls Tryz.prog 115 #[.agg #[.bool false,.string (E x)],.agg #[.bool false,.string (E (n-1))]] w fun e w'=>e=.returned (.tuple #[.agg #[.bool (sg ((x:Int)-((n-1:Nat):Int))),.string (E ((x:Int)-((n-1:Nat):Int)).natAbs)],.int .i64 0])∧Bw w w'):=fun x w hx=>by
  have h:=isub_c (x:=(x:Int)) (y:=((n-1:Nat):Int)) (w:=w) (by rw[Int.natAbs_natCast];exact lt64 hx) (by rw[Int.natAbs_natCast];exact lt64 (by omega)) (by
   have h9:(256:Nat)^64≤256^128:=Nat.pow_le_pow_right (by decide) (by decide);omega)
  rwa [Int.natAbs_natCast,Int.natAbs_natCast,sg_nat,sg_nat]at h
 have hE:Hid (T.rdy n=0→(coinD att T (2*n-1)).1=0→(coinD att T (2*n-1)).2<256^64):=fun _ h=>by have:=coinD_lt h;omega
 have hG:Hid (T.rdy n≠0→csgn att T n=(T.rdy n,0)):=fun h=>by unfold csgn;rw[if_pos h]
 have hw:Hid (T.rdy n=0→csgn att T n=if (coinD att T (2*n-1)).1=0 then (0,((coinD att T (2*n-1)).2:Int)-((n-1:Nat):Int)) else ((coinD att T (2*n-1)).1,0)):=fun h=>by unfold csgn;rw[if_neg (by omega)]
 have hH:Hid (T.rdy n=0→1≤n):=fun h=>(rdy_zero h).2.1
 obtain⟨ao,c,rfl⟩:=RAt.form hV;generalize csgn att T n=rr at hG hw ⊢;generalize coinD att T (2*n-1)=rd at hv hE hw;generalize T.rdy n=k at hW hv hE hG hw hH;obtain⟨hP,hZ,hR,hc⟩:=blk3 w #[.slice ao T.vals.length c,.string T.seed,.int .i64 T.pos] #[.bool false,.string { data:=#[] }] #[.slice none 0 0,.string ⟨#[]⟩,.int .i64 0] 33 74 33;generalize T.vals.length=m at hW hv hP hZ hR hc ⊢;obtain⟨gZ,Hu⟩:∃g,w.heap.size+1=g:=⟨_,rfl⟩;obtain⟨gR,Hc⟩:∃g,w.heap.size+1+1=g:=⟨_,rfl⟩;have hI:w.heap.size+2=gR:=Hc;have hd:Hid (w.heap.size≤gR∧w.heap.size≤gZ∧gZ≠gR):=by rw[Hid];omega
 have Hd:=Kh Hu;have Hv:=Kh Hc;have Hw:=Kh hI;clear Ht h6 h2 hV hD h7 Hu Hc hI;obtain⟨hl,hm,hn,ho,hp,hq⟩:=hP.x3;go_enter Tryz.func98,Tryz.ntmps98
 go_wp2_with fail
 refine (hW.out _ hc).mono ?_;rintro e w2 ⟨rfl,hJ⟩;clear hl hm hn ho hp hq;replace hP:=hP.after hJ;replace hZ:=hZ.after hJ;replace hR:=hR.after hJ;replace hc:=bt hc hJ;clear hJ hW;rw[Hw.out]at hR;rw[Hd.out]at hZ;rw[Hv.out,Hd.out];clear Hd Hv Hw;replace hP:Blk w2 w.heap.size 33 [.slice ao m c,.string T.seed,.int .i64 T.pos]:=hP;replace hZ:Blk w2 gZ 74 [.bool false,.string { data:=#[] }]:=hZ;replace hR:Blk w2 gR 33 [.slice none 0 0,.string ⟨#[]⟩,.int .i64 0]:=hR;have h1:=hd.out.2.2;have hr:¬ gR=gZ:=fun e=>h1 e.symm
 by_cases hk:k=0
 ·subst hk;have HD:=Kh (hv.out rfl);have hK:=Kh (Ha.out (hH.out rfl));have hL:=Kh (Hb.out (hH.out rfl));have hj:=Kh (hE.out rfl);have HC:=Kh (hw.out rfl);clear hv Ha Hb hE hG hw hH;go_wp2_with fail
  refine (h8.out _).mono ?_;rintro e w3 ⟨rfl,Hx⟩;go_wp2_with fail
  refine (hK.out _).mono ?_;rintro e w4 ⟨rfl,hb4⟩;go_wp2_with fail
  refine (hL.out _).mono ?_;rintro e w5 ⟨rfl,Hy⟩;have hM:=bt Hx (bt hb4 Hy);replace hP:=hP.after hM;replace hZ:=hZ.after hM;replace hR:=hR.after hM;replace hc:=bt hc hM;clear Hx hb4 Hy hM h8 hK hL;have HQ:=Kh hR.lt;have HR:=Kh hZ.lt;obtain⟨hl,hm,hn,ho,hp,hq⟩:=hP.x3;go_wp2_with fail
  refine (HD.out _ hc).mono ?_;rintro e w7 ⟨t,rfl,⟨u,rfl,hU⟩,hF,h3⟩;clear hl hm hn ho hp hq;have h4:=Kh (hF.far HQ.out);have He:=Kh (hF.far HR.out);replace hF:=hF.mono hc.size;replace hZ:=hZ.after h3;replace hR:=hR.after h3;replace hc:=bt hc h3;clear h3 hP HD;obtain⟨T',Hf⟩:∃T',T'=T.after rd.1:=⟨_,rfl⟩;have Hz:=Kh Hf;rw[←Hf]at hU hF ⊢;obtain⟨uo,uc,rfl⟩:=RAt.form hU;obtain⟨ul,HA⟩:∃l,l=T'.vals.length:=⟨_,rfl⟩;rw[←HA]at hU hF h4 He ⊢;obtain⟨us,Hg⟩:∃s,s=T'.seed:=⟨_,rfl⟩;obtain⟨ut,Hh⟩:∃s,s=T'.pos:=⟨_,rfl⟩;rw[←Hg,←Hh]at hF ⊢;have HE:=Kh (And.intro Hg Hh);clear Hg Hh HA Hf;obtain⟨x,hx⟩:∃x,x=rd.2:=⟨_,rfl⟩;obtain⟨ke,Hi⟩:∃x,x=rd.1:=⟨_,rfl⟩;rw[←hx,←Hi]at HC hj ⊢;rw[←Hi]at Hz;clear hx Hi;obtain⟨hX,hy⟩:=blk1 w7 #[.slice uo ul uc,.string us,.int .i64 ut] 33;have Hj:Hid (gZ<w7.heap.size∧gR<w7.heap.size):=⟨hZ.lt,hR.lt⟩;by_cases hk:ke=0
  ·subst hk;have hz:Hid (rr=(0,(x:Int)-((n-1:Nat):Int))):=by rw[Hid,HC.out,if_pos rfl]
   have HI:=Kh (fun w=>h0.out x w (hj.out rfl));generalize (x:Int)-((n-1:Nat):Int)=z at HI hz;clear HC h0 hj;go_wp2_with fail
   refine (HI.out _).mono ?_;rintro e w8 ⟨rfl,Hk⟩;have hb9:=bt hy Hk;replace hX:=hX.after Hk;replace hZ:=hZ.after hb9;replace hR:=hR.after hb9;have HB:=SsAt.after hU hb9;replace hc:=bt hc hb9;clear Hk hb9 hy HI hU;obtain⟨gX,HF⟩:∃g,w7.heap.size=g:=⟨_,rfl⟩;rw[HF]at hX Hj ⊢;clear HF;have Hl:Hid (gZ<w8.heap.size∧gR<w8.heap.size):=⟨hZ.lt,hR.lt⟩;replace hX:Blk w8 gX 33 [.slice uo ul uc,.string us,.int .i64 ut]:=hX;obtain⟨hY,hA⟩:=blk1 w8 #[.bool (sg z),.string (E z.natAbs)] 74;have HG:=hX.lt;have ht:=hZ.lt;have hu:=hR.lt;have Hm:=hX.after hA;have hB:=hZ.after hA;have hC:=hR.after hA;have HH:=SsAt.after HB hA;have h5:=bt hc hA;clear hX hZ hR HB hc hA HG ht hu;go_upto_region 16 with fail
   generalize w8.alloc (.cells #[.bool (sg z),.string (E z.natAbs)] 74)=w9 at hY Hm hB hC HH h5 ⊢;obtain⟨gY,HJ⟩:∃g,w8.heap.size=g:=⟨_,rfl⟩;rw[HJ]at hY Hl ⊢;clear HJ;replace hY:Blk w9 gY 74 [.bool (sg z),.string (E z.natAbs)]:=hY;have HG:=Hm.lt;have ht:=hB.lt;have hu:=hC.lt;have H2:=hY.lt;have n1:¬ gX=gZ:=by have:=Hj.out.1;omega
   have n2:¬ gX=gR:=by have:=Hj.out.2;omega
   have n3:¬ gY=gZ:=by have:=Hl.out.1;omega
   have n4:¬ gY=gR:=by have:=Hl.out.2;omega
   have m1:¬ gZ=gX:=fun e=>n1 e.symm
   have m2:¬ gR=gX:=fun e=>n2 e.symm
   obtain⟨HK,HL,HM,HN,HO,HP⟩:=Hm.x3;obtain⟨HS,HT,HU,HV⟩:=hY.x2;obtain⟨he,hN,hf,hO⟩:=hB.x2;obtain⟨hg,hQ,hh,hS,hi,hT⟩:=hC.x3;go_wp2_with fail
   go_region;go_wp2;refine bodyPost_ret (v:=.tuple #[.agg #[.bool (sg (z)),.string (E (z).natAbs)],.agg #[.slice uo ul uc,.string us,.int .i64 ut],.int .i64 0]) ?_ rfl ?_
   ·simp[results,Tryz.results98,go_sem,he,hf,hg,hh,hi,ht,hu,h1,hr]
   ·rw[hz.out];refine⟨_,rfl,?_,hF,(((((h5.setCell hd.out.2.1 _).setCell hd.out.2.1 _).setCell hd.out.1 _).setCell hd.out.1 _).setCell hd.out.1 _).drew⟩;show TAt _ _ (T.after 0);rw[←Hz.out,HE.out.1,HE.out.2];exact⟨_,rfl,SsAt.after (((((HH.set_far He.out).set_far He.out).set_far h4.out).set_far h4.out).set_far h4.out) (Below.drew Br)⟩
  ·have HW:((ke:Int) != 0)=true:=by rw[bne_iff_ne];omega
   have hz:Hid (rr=(ke,0)):=by rw[Hid,HC.out,if_neg hk]
   have Hn:=Kh (tp_after (T:=T) hk);have hB:=hZ.after hy;have hC:=hR.after hy;have h5:=bt hc hy;have ht:=hB.lt;have hu:=hC.lt;clear hk HC hX hZ hR hc hy h0 hj;obtain⟨he,hN,hf,hO⟩:=hB.x2;obtain⟨hg,hQ,hh,hS,hi,hT⟩:=hC.x3;go_wp2;refine bodyPost_ret (v:=.tuple #[.agg #[.bool false,.string ⟨#[]⟩],.agg #[.slice none 0 0,.string ⟨#[]⟩,.int .i64 0],.int .i64 (ke:Int)]) ?_ rfl ?_
   ·simp[results,Tryz.results98,go_sem,he,hf,hg,hh,hi,ht,hu,h1,hr]
   ·rw[hz.out];exact⟨_,by rw[E0v],by show TAt _ _ (T.after ke);rw[Hn.out];exact⟨_,rfl,ss_nil _⟩,TFar.zero _ _ _,((((h5.setCell hd.out.2.1 _).setCell hd.out.2.1 _).setCell hd.out.1 _).setCell hd.out.1 _).setCell hd.out.1 _⟩
 ·have HW:((k:Int) != 0)=true:=by rw[bne_iff_ne];omega
  have hz:=Kh (hG.out hk);have Hn:=Kh (tp_after (T:=T) hk);have ht:=hZ.lt;have hu:=hR.lt;clear hk hG hw hv hE hH Ha Hb h8 h0 hP;obtain⟨Ho,HX,Hp,HY⟩:=hZ.x2;obtain⟨Hq,HZ,Hr,H0,Hs,H1⟩:=hR.x3;go_wp2;refine bodyPost_ret (v:=.tuple #[.agg #[.bool false,.string ⟨#[]⟩],.agg #[.slice none 0 0,.string ⟨#[]⟩,.int .i64 0],.int .i64 (k:Int)]) ?_ rfl ?_
  ·simp[results,Tryz.results98,go_sem,Ho,Hp,Hq,Hr,Hs,ht,hu,h1,hr]
  ·rw[hz.out];exact⟨_,by rw[E0v],by show TAt _ _ (T.after k);rw[Hn.out];exact⟨_,rfl,ss_nil _⟩,TFar.zero _ _ _,((((hc.setCell hd.out.2.1 _).setCell hd.out.2.1 _).setCell hd.out.1 _).setCell hd.out.1 _).setCell hd.out.1 _⟩
end
end Go.Proofs.YtihjpddbjhcbmaaGreatDoor
