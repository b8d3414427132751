/- Rows that a call owns,read as lists;append onto a part of such a row. -/
import Derived.Deep.DrawnRows
import Derived.Deep.RegionLaw
import Derived.Laws.OwnMore
import Derived.Test.YtdgddpnjkinciaaGreatDoorLck5
import Derived.ArgAppend
import Derived.Deep.AppendLies
set_option linter.all false
set_option maxRecDepth 100000
set_option maxHeartbeats 16000000
namespace Go.Proofs.YtdgddpnjkinciaaGreatDoor
section
open Go.RowKit Go.Shelf
/- rows that a call owns -/
theorem own_keep {w w':World} {base:Nat} {e:TypeId} {size:Nat} {v:Value} {n:Nat} {xs:List Value} (h:w.ownsRow base e size v n xs) (hk:∀g,v.ownBlock=some g→w'.heap[g]?=w.heap[g]?):w'.ownsRow base e size v n xs:=by
 refine⟨h.1,?_⟩;rcases h.2 with h2 | ⟨g,cap,cur,rfl,h3,h4,h5⟩
 ·exact .inl h2
 ·exact .inr ⟨g,cap,cur,rfl,h3,by rw[hk g rfl];exact h4,h5⟩
theorem own_lt {w:World} {base:Nat} {e:TypeId} {size:Nat} {v:Value} {n:Nat} {xs:List Value} (h:w.ownsRow base e size v n xs) {g:Nat} (hg:v.ownBlock=some g):g<w.heap.size∧base≤g:=by
 rcases h.2 with⟨rfl,_⟩ | ⟨g',cap,cur,rfl,h3,h4,_⟩
 ·simp[Value.ownBlock]at hg
 ·have:g'=g:=by simpa [Value.ownBlock] using hg
  subst this;exact⟨(Array.getElem?_eq_some_iff.1 h4).1,h3⟩
theorem own_after {w w':World} {base:Nat} {e:TypeId} {size:Nat} {v:Value} {n:Nat} {xs:List Value} (h:w.ownsRow base e size v n xs) (hb:Bw w w'):w'.ownsRow base e size v n xs:=
 own_keep h fun g hg=>hb.block g (own_lt h hg).1
theorem own_ne {w:World} {base:Nat} {e T:TypeId} {size g:Nat} {v:Value} {n:Nat} {xs cs:List Value} (h:w.ownsRow base e size v n xs) (hg:Blk w g T cs) (hb:e≠T):v.ownBlock≠some g:=by
 intro hv;rcases h.2 with⟨rfl,_⟩ | ⟨g',cap,cur,rfl,h3,h4,_⟩
 ·simp[Value.ownBlock]at hv
 ·have:g'=g:=by simpa [Value.ownBlock] using hv
  subst this;rw[show w.heap[g']?=some (.cells cs.toArray T (0,0)) from hg]at h4;injection h4 with h4
  injection h4 with _ h4
  exact hb h4.symm
theorem own_ne2 {w:World} {b1 b2:Nat} {e1 e2:TypeId} {s1 s2 n1 n2:Nat} {v1 v2:Value} {x1 x2:List Value} (h:w.ownsRow b1 e1 s1 v1 n1 x1) (k:w.ownsRow b2 e2 s2 v2 n2 x2) (hb:e1≠e2) {g:Nat} (h1:v1.ownBlock=some g):v2.ownBlock≠some g:=by
 intro h2;rcases h.2 with⟨rfl,_⟩ | ⟨g',cap,cur,rfl,_,h4,_⟩
 ·simp[Value.ownBlock]at h1
 ·rcases k.2 with⟨rfl,_⟩ | ⟨g2,cap2,cur2,rfl,_,k4,_⟩
  ·simp[Value.ownBlock]at h2
  ·have e1:g'=g:=by simpa [Value.ownBlock] using h1
   have e2:g2=g:=by simpa [Value.ownBlock] using h2
   subst e1;subst e2;rw[h4]at k4;injection k4 with k4
   injection k4 with _ k4
   exact hb k4
theorem Blk.grown {w w':World} {g:Nat} {T:TypeId} {cs:List Value} {row:Option Nat} (h:Blk w g T cs) (hg:w.grownBy w' row) (hb:row≠some g):Blk w' g T cs:=by
 unfold Blk;rw[hg.block g h.lt (fun e=>hb e.symm)];exact h
theorem own_set {w:World} {base:Nat} {e:TypeId} {size:Nat} {v:Value} {n:Nat} {xs:List Value} {g i:Nat} {u:Value} (h:w.ownsRow base e size v n xs) (hc:v.ownBlock≠some g):(w.setCell ⟨g,i,none⟩ u).ownsRow base e size v n xs:=
 own_keep h fun b hb=>heap_setCell_other w ⟨g,i,none⟩ b u (fun e=>hc (by rw[hb,e]))
theorem own_cellS {w:World} {base g n c size:Nat} {e:TypeId} {xs:List Value} (h:w.ownsRow base e size (.slice (some ⟨g,0,none⟩) n c) n xs) (j:Nat) (u:Value) (hj:xs[j]?=some u):w.cell? ⟨g,j,none⟩=some u:=by
 have:=h.cells (g:=g) rfl j u hj;rwa [Addr.add_lit,Nat.zero_add]at this
theorem own_cap {w:World} {base g n c size:Nat} {e:TypeId} {xs:List Value} (h:w.ownsRow base e size (.slice (some ⟨g,0,none⟩) n c) n xs):g<w.heap.size∧n≤c:=by
 rcases h.2 with⟨h1,_⟩ | ⟨g',cap,cur,hv,h3,h4,h5,_⟩
 ·cases h1
 ·cases hv
  exact⟨(Array.getElem?_eq_some_iff.1 h4).1,h5⟩
theorem own_mono {w:World} {base b':Nat} {e:TypeId} {size:Nat} {v:Value} {n:Nat} {xs:List Value} (h:w.ownsRow base e size v n xs) (hb:b'≤base):w.ownsRow b' e size v n xs:=by
 refine⟨h.1,?_⟩;rcases h.2 with h1 | ⟨g,cap,cur,h3,h4,h5⟩
 ·exact .inl h1
 ·exact .inr ⟨g,cap,cur,h3,Nat.le_trans hb h4,h5⟩
theorem own_grown {w w':World} {b1 b2:Nat} {e1 e2:TypeId} {s1 s2 n1 n2:Nat} {v1 v2:Value} {x1 x2:List Value} (h:w.ownsRow b1 e1 s1 v1 n1 x1) (k:w.ownsRow b2 e2 s2 v2 n2 x2) (hb:e1≠e2) (hg:w.grownBy w' v2.ownBlock):w'.ownsRow b1 e1 s1 v1 n1 x1:=
 own_keep h fun x hv=>hg.block x (own_lt h hv).1 (fun e'=>own_ne2 h k hb hv e'.symm)
def ics (L:List (Bool × ByteArray)):List Value:=L.flatMap fun x=>[.bool x.1,.string x.2]
theorem ics_get (L:List (Bool × ByteArray)) (j:Nat) (h:j<L.length):(ics L)[j*2]?=some (.bool L[j].1)∧(ics L)[j*2+1]?=some (.string L[j].2):=by
 induction L generalizing j with
 | nil=>simp at h
 | cons x t ih =>
  cases j with
  | zero=>exact⟨rfl,rfl⟩
  | succ j =>
   have h':j<t.length:=by simpa using h
   have:=ih j h';rw[show (j+1)*2=j*2+2 by omega];simpa [ics] using this
theorem own_blk {w:World} {b:Nat} {T:TypeId} {size n:Nat} {cs:List Value} (h:Blk w b T cs) (hn:cs.length=n*size) (hm:n≤maxLen):w.ownsRow 0 T size (.slice (some ⟨b,0,none⟩) n n) n cs:=
 ⟨hn,.inr ⟨b,n,cs.toArray,rfl,Nat.zero_le _,h,Nat.le_refl _,hm,by simpa using hn,by simp[←hn]⟩⟩
end
section
/- dominoref23.SameOpenings and dominoref15.SameInts at equal lists of any bytes. -/
open Go.RowKit Go.Shelf
end
section
open Go.RowKit
theorem flat_len {α:Type} (f:α→List Value) (size:Nat) (hf:∀x,(f x).length=size) (L:List α):(L.flatMap f).length=L.length*size:=by
 induction L with
 | nil=>simp
 | cons x t ih=>rw[List.flatMap_cons,List.length_append,ih,hf,List.length_cons,Nat.add_mul];omega
theorem flat_get {α:Type} (f:α→List Value) (size:Nat) (hf:∀x,(f x).length=size) (L:List α) (j i:Nat) (hj:j<L.length) (hi:i<size):(L.flatMap f)[j*size+i]?=(f L[j])[i]?:=by
 induction L generalizing j with
 | nil=>simp at hj
 | cons x t ih =>
  rw[List.flatMap_cons];cases j with
  | zero=>rw[Nat.zero_mul,Nat.zero_add,List.getElem?_append_left (by rw[hf];exact hi)];rfl
  | succ j =>
   have h':j<t.length:=by simpa using hj
   have e:(j+1)*size+i=size+(j*size+i):=by rw[Nat.add_mul];omega
   rw[e,List.getElem?_append_right (by rw[hf];omega),hf,Nat.add_sub_cancel_left,ih j h'];simp
theorem rat_cells {α:Type} {Q:World→α→List Value→Prop} {size:Nat} {w:World} (f:α→List Value) (hf:∀x,(f x).length=size) (hQ:∀x,Q w x (f x)) (L:List α) (g o c n:Nat) (hn:n=L.length) (hg:g<w.heap.size)
  (h:∀j u,(L.flatMap f)[j]?=some u→w.cell? ⟨g,o+j,none⟩=some u):RAt Q size w (.slice (some ⟨g,o,none⟩) n c) L:=by
 subst hn;refine⟨_,_,rfl,.inr ⟨g,o,rfl,hg,fun j hj=>⟨f L[j],hQ _,fun i hi=>?_⟩⟩⟩;have e:=flat_get f size hf L j i hj hi;have hlt:i<(f L[j]).length:=by rw[hf];exact hi
 rw[List.getElem?_eq_getElem hlt]at e ⊢;have:=h _ _ e;rwa [←Nat.add_assoc]at this
theorem rat_own {α:Type} {Q:World→α→List Value→Prop} {size base n:Nat} {T:TypeId} {w:World} {v:Value} (f:α→List Value) (hf:∀x,(f x).length=size) (hQ:∀x,Q w x (f x)) (L:List α) (hn:n=L.length) (h:w.ownsRow base T size v n (L.flatMap f)):RAt Q size w v L:=by
 subst hn;rcases h.2 with⟨rfl,h0⟩ | ⟨g,cap,cur,rfl,_,hg,_⟩
 ·exact⟨none,0,by rw[h0],.inl h0⟩
 ·refine rat_cells f hf hQ L g 0 cap L.length rfl (Array.getElem?_eq_some_iff.1 hg).1 fun j u hj=>?_
  rw[Nat.zero_add];exact own_cellS h j u hj
theorem own_blkB {w:World} {b base:Nat} {T:TypeId} {size n:Nat} {cs:List Value} (h:Blk w b T cs) (hn:cs.length=n*size) (hm:n≤maxLen) (hb:base≤b):w.ownsRow base T size (.slice (some ⟨b,0,none⟩) n n) n cs:=
 ⟨hn,.inr ⟨b,n,cs.toArray,rfl,hb,h,Nat.le_refl _,hm,by simpa using hn,by simp[←hn]⟩⟩
def opc (o:Opn):List Value:=[.bool o.vn,.string o.va,.bool o.rn,.string o.ra]
theorem flat_strs (L:List ByteArray):L.flatMap (fun s=>[Value.string s])=L.map .string:=by
 induction L with
 | nil=>rfl
 | cons x t ih=>rw[List.flatMap_cons,ih];rfl
theorem ss_own {base n:Nat} {w:World} {v:Value} (L:List ByteArray) (hn:n=L.length) (h:w.ownsRow base 22 1 v n (L.map .string)):SsAt w v L:=
 rat_own (fun s=>[Value.string s]) (fun _=>rfl) (fun _=>rfl) L hn (by rw[flat_strs];exact h)
theorem is_own {base n:Nat} {w:World} {v:Value} (L:List (Bool × ByteArray)) (hn:n=L.length) (h:w.ownsRow base 28 2 v n (ics L)):IsAt w v L:=
 rat_own (fun x=>[Value.bool x.1,.string x.2]) (fun _=>rfl) (fun _=>rfl) L hn h
theorem os_own {base n:Nat} {w:World} {v:Value} (L:List Opn) (hn:n=L.length) (h:w.ownsRow base 30 4 v n (L.flatMap opc)):OsAt w v L:=
 rat_own opc (fun _=>rfl) (fun _=>rfl) L hn h
theorem below_cells {B b:Nat} {a:World} (hb:B≤b):∀(vs:List Value) (o:Nat) (w:World),Below B a w→Below B a (w.setCells b o vs)
 | [],_,_,h=>h
 | v :: r,o,w,h=>below_cells hb r (o+1) _ (h.setCell (by exact hb) v)
theorem run_append_part {P:Program} (w:World) (t ty:TypeId) (base:Nat) (e:TypeId) (i:TypeInfo) (z:Value) (size bytes:Nat) (ht:P.underlying t=some (.slice e)) (hi:P.info? e=some i) (hz:i.zero=some z)
  (hn:i.size=size) (hB:i.bytes=bytes) (hC:z.cells.size=size) (hD:0<size)
  (g n cap k:Nat) (xs:List Value) (hf:w.ownsRow base e size (.slice (some ⟨g,0,none⟩) n cap) n xs) (hk:k≤n)
  (ad:Addr) (m c:Nat) (news:List Value) (hl:news.length=m*size) (hd:∀j u,news[j]?=some u→w.cell? (ad.add j)=some u) (h1:∀u∈news,u.oneCell'=true)
  (hm:0<m) (hE:n-k+m≤maxLen) (hh:(n-k+m)*bytes≤140737488355328) (hp:base≤w.heap.size) :
  ∃g' o' cap' w',(Builtin.append_ #[t,t] ty #[.slice (some ⟨g,k*size,none⟩) (n-k) (cap-k),.slice (some ad) m c]).run P w=.ok (.slice (some ⟨g',o',none⟩) (n-k+m) cap') w' ∧
   (∀j u,(xs.drop (k*size)++news)[j]?=some u→w'.cell? ⟨g',o'+j,none⟩=some u)∧Below base w w'∧base≤g'∧g'<w'.heap.size:=by
 subst hn;rcases hf.2 with⟨h0,_⟩ | ⟨g2,cap2,cur,hv,hy,hg,hM,hN,hO,hA⟩
 ·cases h0
 cases hv
 have hF:=hf.1
 have hc:∀j u,xs[j]?=some u→w.cell? ⟨g,j,none⟩=some u:=fun j u hj=>by
  have:=hf.cells (g:=g) rfl j u hj;rwa [Addr.add_lit,Nat.zero_add]at this
 have hG:k*i.size+(n-k)*i.size=n*i.size:=by rw[←Nat.add_mul];congr 1;omega
 have hH:(xs.drop (k*i.size)).length=(n-k)*i.size:=by rw[List.length_drop,hF];omega
 have hq:∀o,w.cell? ⟨g,o,none⟩=cur[o]?:=fun o=>by rw[cell_of_row w g o cur e _ hg]
 have hw:∀o,w.frozen? ⟨g,o,none⟩=false:=fun o=>frozen_of_row w g o cur e hg
 have hx:g<w.heap.size:=(Array.getElem?_eq_some_iff.1 hg).1;by_cases hu:n-k+m≤cap-k
 ·have hI:(n+m)*i.size≤cap*i.size:=Nat.mul_le_mul_right _ (by omega);rw[Nat.add_mul]at hI
  have he:∀j,j<news.length→(w.cell? ⟨g,k*i.size+(n-k)*i.size+j,none⟩).isSome=true:=fun j hj=>by
   rw[hq,hG,Array.getElem?_eq_getElem (by omega)];rfl
  have hr:=run_append_room_cells (P:=P) w t ty e i ht hi g (k*i.size) (n-k) (cap-k) ad m c news hl hd h1 hu he (fun j _=>hw _);have hb:=below_cells hy news (k*i.size+(n-k)*i.size) w (Below.refl base w);refine⟨g,k*i.size,cap-k,_,hr,?_,hb,hy,Nl hx hb.size⟩;intro j u hj;by_cases hlt:j<(xs.drop (k*i.size)).length
  ·rw[List.getElem?_append_left hlt,List.getElem?_drop]at hj;rw[World.cell?_setCells_out g _ _ _ _ (fun _ _=>Or.inl (by show k*i.size+j<_;omega))];exact hc _ _ hj
  ·rw[List.getElem?_append_right (by omega)]at hj;obtain⟨hJ,hK⟩:=List.getElem?_eq_some_iff.1 hj;have:=World.cell?_setCells_in g news (k*i.size+(n-k)*i.size) w he (j-(xs.drop (k*i.size)).length) hJ;rw[show k*i.size+(n-k)*i.size+(j-(xs.drop (k*i.size)).length)=k*i.size+j by omega,hK]at this;exact this
 ·obtain⟨v',w',hr,ho,hL⟩:=run_append_arg_grows (P:=P) w t ty e i z i.size bytes ht hi hz rfl hB hC hD ⟨g,k*i.size,none⟩ (n-k) (cap-k) (xs.drop (k*i.size)) hH
   (fun j u hj=>by rw[List.getElem?_drop]at hj;rw[Addr.add_lit];exact hc _ _ hj) ad m c news hl hd (by omega) hE hh
  obtain⟨g',cap',rfl,hb,hlt⟩:=ho.form (by omega);refine⟨g',0,cap',w',hr,fun j u hj=>?_,(Below.refl base w).grown hL hp (by intro k hk;simp at hk),by omega,hlt⟩;have:=ho.cells (g:=g') rfl j u hj;rwa [Addr.add_lit]at this
theorem step_append_run {P:Program} {w:World} {ops:Array Oper} {o:Oper} {a:Act} {K:Act→World→Prop} {Q:Exit→Act→World→Prop} {E:Prop} (hb:o.guard=none) (s x:Operand) (t:TypeId)
  (ho:o.op=.call { callee:=.builtin .append,args:=#[s,x],argTypes:=#[t,t] }) (vs vx:Value) (hs:a.eval s=vs) (hx:a.eval x=vx)
  (hr:∃v' w',(Builtin.append_ #[t,t] o.type #[vs,vx]).run P w=.ok v' w'∧K (a.put o.dst v') w'):if Region.wanted o (yielded ops a.tmps)=true then Oper.wp P o a w K Q else E:=by
 have hw:Region.wanted o (yielded ops a.tmps)=true:=by simp[Region.wanted,hb]
 rw[if_pos hw];obtain⟨v',w',h1,h2⟩:=hr;unfold Oper.wp execOp;simp only[ho,resolve,invoke,builtin,Sem.run_bind,Sem.run_pure,Result.andThen_ok,List.map_toArray,List.map_cons,List.map_nil,hs,hx,h1];exact h2
theorem run_append_all {P:Program} (w:World) (t ty:TypeId) (base:Nat) (e:TypeId) (i:TypeInfo) (z:Value) (bytes:Nat) (ht:P.underlying t=some (.slice e)) (hi:P.info? e=some i) (hz:i.zero=some z)
  (hf:i.size=1) (hh:i.bytes=bytes) (hk:z.cells.size=1)
  (v:Value) (n:Nat) (xs:List Value) (he:w.ownsRow base e 1 v n xs) (ao:Option Addr) (m c:Nat) (M:List ByteArray) (hM:SsAt w (.slice ao m c) M)
  (hl:n+m≤maxLen) (hd:(n+m)*bytes≤140737488355328) (hg:base≤w.heap.size) :
  ∃v' w',(Builtin.append_ #[t,t] ty #[v,.slice ao m c]).run P w=.ok v' w'∧w'.ownsRow base e 1 v' (n+m) (xs++M.map .string)∧w.grownBy w' v.ownBlock:=by
 obtain⟨ao',c',hv,hR⟩:=hM;injection hv with e1 e2 e3
 subst e1;subst e2;subst e3;by_cases h0:M.length=0
 ·obtain rfl:=List.eq_nil_of_length_eq_zero h0;cases ao with
  | none =>
   have hr:(Builtin.append_ #[t,t] ty #[v,.slice none 0 c]).run P w=.ok v w:=by
    rcases he.2 with⟨rfl,rfl⟩ | ⟨g,cap,cur,rfl,_,_,hm,_⟩
    ·simp[Builtin.append_,run_underlying ht,sizeOf,typeInfo,hi,Builtin.lenOf,Builtin.firstCells]
    ·simp[Builtin.append_,run_underlying ht,sizeOf,typeInfo,hi,Builtin.lenOf,Builtin.firstCells,hm,storeCells]
   exact⟨v,w,hr,by simpa using he,⟨rfl,rfl,rfl,Nat.le_refl _,fun _ _ _=>rfl⟩⟩
  | some a =>
   obtain⟨v',w',h1,h2,h3,_⟩:=run_append_own (P:=P) w base t ty e i z 1 bytes ht hi hz hf hh hk (by decide) v n xs he a 0 c [] rfl (by intro j u h;simp at h) (by simp) (by simpa using hl) (by simpa using hd) hg;exact⟨v',w',by simpa using h1,by simpa using h2,h3⟩
 ·rcases hR with h | ⟨b,o,rfl,hb,h3⟩
  ·exact absurd h h0
  ·obtain⟨v',w',h1,h2,h4,_⟩:=run_append_own (P:=P) w base t ty e i z 1 bytes ht hi hz hf hh hk (by decide) v n xs he ⟨b,o,none⟩ M.length c (M.map .string) (by simp) (fun j u hu=>by
    rw[List.getElem?_map]at hu;obtain⟨s,hs,rfl⟩:=Option.map_eq_some_iff.1 hu;obtain⟨hj,hn⟩:=List.getElem?_eq_some_iff.1 hs;obtain⟨cs,hq,hc⟩:=h3 j hj;have hq:cs=[.string M[j]]:=hq;have:=hc 0 (by decide);rw[Addr.add_lit];rw[hq,hn]at this;simpa using this) (by intro u hu;obtain⟨s,_,rfl⟩:=List.mem_map.1 hu;rfl) hl hd hg
   exact⟨v',w',h1,h2,h4⟩
theorem step_append_all {P:Program} {w:World} {ops:Array Oper} {o:Oper} {a:Act} {K:Act→World→Prop} {Q:Exit→Act→World→Prop} {E:Prop} (hf:o.guard=none) (s x:Operand) (t:TypeId)
  (ho:o.op=.call { callee:=.builtin .append,args:=#[s,x],argTypes:=#[t,t] }) {v:Value} {ao:Option Addr} {m c:Nat} (hs:a.eval s=v) (hx:a.eval x=.slice ao m c)
  (base:Nat) (e:TypeId) (i:TypeInfo) (z:Value) (bytes:Nat) (ht:P.underlying t=some (.slice e)) (hi:P.info? e=some i) (hz:i.zero=some z)
  (hd:i.size=1) (hh:i.bytes=bytes) (hj:z.cells.size=1) (n:Nat) (xs:List Value) (hb:w.ownsRow base e 1 v n xs) (M:List ByteArray) (hM:SsAt w (.slice ao m c) M)
  (hk:n+m≤maxLen) (hc:(n+m)*bytes≤140737488355328) (he:base≤w.heap.size)
  (h:∀v' w',w'.ownsRow base e 1 v' (n+m) (xs++M.map .string)→w.grownBy w' v.ownBlock→(∀g,v.ownBlock=some g→base≤g∧g<w.heap.size)→K (a.put o.dst v') w'):if Region.wanted o (yielded ops a.tmps)=true then Oper.wp P o a w K Q else E:=by
 obtain⟨v',w',h1,h2,h3⟩:=run_append_all (P:=P) w t o.type base e i z bytes ht hi hz hd hh hj v n xs hb ao m c M hM hk hc he;exact step_append_run hf s x t ho v _ hs hx ⟨v',w',h1,h v' w' h2 h3 (fun g hg=>⟨(own_lt hb hg).2,(own_lt hb hg).1⟩)⟩
theorem ss_drew {w:World} {v:Value} {V:List ByteArray} (h:SsAt w v V):SsAt w.drew v V:=SsAt.after h (Below.drew Br)
theorem ss_alloc {w:World} {v:Value} {V:List ByteArray} (h:SsAt w v V) (o:Obj):SsAt (w.alloc o) v V:=SsAt.after h (b1 _ _)
theorem is_blk {w:World} {g c n:Nat} (L:List (Bool × ByteArray)) (hn:n=L.length) (h:Blk w g 28 (ics L)):IsAt w (.slice (some ⟨g,0,none⟩) n c) L:=
 rat_cells (fun x=>[Value.bool x.1,.string x.2]) (fun _=>rfl) (fun _=>rfl) L g 0 c n hn h.lt fun j u hj=>by rw[Nat.zero_add,h.cell];exact hj
end
end Go.Proofs.YtdgddpnjkinciaaGreatDoor
