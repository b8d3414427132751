/- squarerange.Witness. -/
import Derived.Test.YtdoacbdkbbpamaaGreatDoorCo1
import Derived.Test.YtdoacbdkbbpamaaGreatDoorLck6
import Derived.Test.YtdoacbdkbbpamaaGreatDoorRd24
import Derived.Test.YtdoacbdkbbpamaaGreatDoorSqr
import Derived.Test.YtdoacbdkbbpamaaGreatDoorIsm
import Derived.ArgAppend
import Derived.Deep.AppendLies
import Derived.Test.YtdoacbdkbbpamaaGreatDoorLg4
set_option linter.unusedVariables false
set_option linter.unusedSimpArgs false
set_option maxRecDepth 100000
set_option maxHeartbeats 16000000
namespace Go.Proofs.YtdoacbdkbbpamaaGreatDoor
section
/- Keys of bytes: pedersen.Check,dominoref14.Check,squarerange.checked,dominoref27.formed,key. -/
open Go.RowKit Go.Shelf
def intb (n:Bool) (s:ByteArray):Int:=if n then -(numb s:Int) else (numb s:Int)
theorem intb_I (z:Int):intb (sg z) (E z.natAbs)=z:=by
 unfold intb sg;rw [numb_E];by_cases h:z<0
 ·rw [decide_eq_true h,if_pos rfl];omega
 ·rw [decide_eq_false h,if_neg (by decide)];omega
theorem empty_E {n:Nat}:(E n).size=0↔n=0:=by
 constructor
 ·intro h;apply Classical.byContradiction;intro h0;have:=(E_size_pos n).2 (by omega);omega
 ·rintro rfl;rfl
def pedV (a b c d:ByteArray):Nat:=if vl4 a b c d=true then pedE (numb a) (numb b) (numb c) (numb d) else 3
def kyV (a b c d:ByteArray):Nat:=if pedV a b c d=0 then (if b.size=0 then 0 else 1) else pedV a b c d
def iv2 (x:Bool × ByteArray):Bool:=ivB x.1 x.2
def chkV (L:List (Bool × ByteArray)) (M:List ByteArray) (a b c d:ByteArray):Nat:=if L.all iv2=true∧M.all vldB=true then kyV a b c d else 3
theorem vl4_of {a b c d:ByteArray} (h:vl4 a b c d=true):∃p q g k,(p<256^128∧q<256^128∧g<256^128∧k<256^128)∧a=E p∧b=E q∧c=E g∧d=E k:=by
 unfold vl4 at h;simp only [Bool.and_eq_true] at h;obtain ⟨p,h1,e1⟩:=of_vldB h.1.1.1;obtain ⟨q,h2,e2⟩:=of_vldB h.1.1.2;obtain ⟨g,h3,e3⟩:=of_vldB h.1.2;obtain ⟨k,h4,e4⟩:=of_vldB h.2;exact ⟨p,q,g,k,⟨h1,h2,h3,h4⟩,e1,e2,e3,e4⟩
theorem pedV_E {p q g h:Nat} (hp:p<256^128) (hq:q<256^128) (hg:g<256^128) (hh:h<256^128):pedV (E p) (E q) (E g) (E h)=pedE p q g h:=by
 unfold pedV;rw [if_pos (vl4_E hp hq hg hh),numb_E,numb_E,numb_E,numb_E]
theorem kyV_zero {a b c d:ByteArray} (h:kyV a b c d=0) (ha:a.size≤8):∃p g k,(p<256^8∧g<256^128∧k<256^128)∧a=E p∧b=E 0∧c=E g∧d=E k∧pedE p 0 g k=0:=by
 unfold kyV at h;split at h
 ·rename_i h1;split at h
  ·rename_i h2;by_cases hv:vl4 a b c d=true
   ·obtain ⟨p,q,g,k,⟨l1,l2,l3,l4⟩,rfl,rfl,rfl,rfl⟩:=vl4_of hv;rw [pedV_E l1 l2 l3 l4] at h1;obtain rfl:=empty_E.1 h2;exact ⟨p,g,k,⟨lt_of_size ha,l3,l4⟩,rfl,rfl,rfl,rfl,h1⟩
   ·unfold pedV at h1;rw [if_neg hv] at h1;omega
  ·omega
 ·omega
theorem kyV_cases (a b c d:ByteArray):kyV a b c d=0∨kyV a b c d=1∨kyV a b c d=3∨kyV a b c d=13:=by
 have h1:pedV a b c d=0∨pedV a b c d=3∨pedV a b c d=13:=by
  unfold pedV;split
  ·rcases pedE_cases (numb a) (numb b) (numb c) (numb d) with h | h <;> omega
  ·exact .inr (.inl rfl)
 unfold kyV;split
 ·split
  ·exact .inl rfl
  ·exact .inr (.inl rfl)
 ·omega
theorem pedA_c (a b c d:ByteArray) (k:Nat) (w:World) (ha:a.size≤8) (hb:b.size≤100) (hc:c.size≤100) (hd:d.size≤100) (hk:pedV a b c d=k) :
  Calls Tryz.prog 60 #[.agg #[.string a,.string b,.string c,.string d]] w fun e w'=>e=.returned (.int .i64 k)∧Below w.heap.size w w':=by
 by_cases hv:vl4 a b c d=true
 ·obtain ⟨p,q,g,h,⟨l1,l2,l3,l4⟩,rfl,rfl,rfl,rfl⟩:=vl4_of hv;rw [pedV_E l1 l2 l3 l4] at hk;exact pedcheckV_c p q g h k w (lt_of_size ha) l2 l3 l4 hk
 ·unfold pedV at hk;rw [if_neg hv] at hk;subst hk;exact pedcheck_bad a b c d w (by omega) (by omega) (by omega) (by omega) (Bool.eq_false_iff.2 hv)
theorem rpedA_c (a b c d:ByteArray) (k:Nat) (w:World) (ha:a.size≤8) (hb:b.size≤100) (hc:c.size≤100) (hd:d.size≤100) (hk:pedV a b c d=k) :
  Calls Tryz.prog 80 #[.agg #[.string a,.string b,.string c,.string d]] w fun e w'=>e=.returned (.int .i64 k)∧Below w.heap.size w w':=by
 by_cases hv:vl4 a b c d=true
 ·obtain ⟨p,q,g,h,⟨l1,l2,l3,l4⟩,rfl,rfl,rfl,rfl⟩:=vl4_of hv;rw [pedV_E l1 l2 l3 l4] at hk;exact rpedcheckV_c p q g h k w (lt_of_size ha) l2 l3 l4 hk
 ·unfold pedV at hk;rw [if_neg hv] at hk;subst hk;exact rpedcheck_bad a b c d w (by omega) (by omega) (by omega) (by omega) (Bool.eq_false_iff.2 hv)
theorem z_str {s:ByteArray} (h:s.size=0):s.toList.isEmpty=true:=by
 rw [ByteArray.toList_eq];cases e:s.data.toList with
 | nil=>rfl
 | cons x t =>
  have h2:s.data.toList.length=s.size:=by simp
  rw [e,h] at h2;simp at h2
end
section
/- Rows that a call owns,read as lists;append onto a part of such a row. -/
open Go.RowKit
theorem flat_len {α:Type} (f:α→List Value) (size:Nat) (hf:∀x,(f x).length=size) (L:List α):(L.flatMap f).length=L.length*size:=by
 induction L with
 | nil=>simp
 | cons x t ih=>rw [List.flatMap_cons,List.length_append,ih,hf,List.length_cons,Nat.add_mul];omega
theorem flat_get {α:Type} (f:α→List Value) (size:Nat) (hf:∀x,(f x).length=size) (L:List α) (j i:Nat) (hj:j<L.length) (hi:i<size):(L.flatMap f)[j*size+i]?=(f L[j])[i]?:=by
 induction L generalizing j with
 | nil=>simp at hj
 | cons x t ih =>
  rw [List.flatMap_cons];cases j with
  | zero=>rw [Nat.zero_mul,Nat.zero_add,List.getElem?_append_left (by rw [hf];exact hi)];rfl
  | succ j =>
   have h':j<t.length:=by simpa using hj
   have e:(j+1)*size+i=size+(j*size+i):=by rw [Nat.add_mul];omega
   rw [e,List.getElem?_append_right (by rw [hf];omega),hf,Nat.add_sub_cancel_left,ih j h'];simp
theorem rat_cells {α:Type} {Q:World→α→List Value→Prop} {size:Nat} {w:World} (f:α→List Value) (hf:∀x,(f x).length=size) (hQ:∀x,Q w x (f x)) (L:List α) (g o c n:Nat) (hn:n=L.length) (hg:g<w.heap.size)
  (h:∀j u,(L.flatMap f)[j]?=some u→w.cell? ⟨g,o+j,none⟩=some u):RAt Q size w (.slice (some ⟨g,o,none⟩) n c) L:=by
 subst hn;refine ⟨_,_,rfl,.inr ⟨g,o,rfl,hg,fun j hj=>⟨f L[j],hQ _,fun i hi=>?_⟩⟩⟩;have e:=flat_get f size hf L j i hj hi;have hlt:i<(f L[j]).length:=by rw [hf];exact hi
 rw [List.getElem?_eq_getElem hlt] at e ⊢;have:=h _ _ e;rwa [←Nat.add_assoc] at this
theorem rat_own {α:Type} {Q:World→α→List Value→Prop} {size base n:Nat} {T:TypeId} {w:World} {v:Value} (f:α→List Value) (hf:∀x,(f x).length=size) (hQ:∀x,Q w x (f x)) (L:List α) (hn:n=L.length) (h:w.ownsRow base T size v n (L.flatMap f)):RAt Q size w v L:=by
 subst hn;rcases h.2 with ⟨rfl,h0⟩ | ⟨g,cap,cur,rfl,_,hg,_⟩
 ·exact ⟨none,0,by rw [h0],.inl h0⟩
 ·refine rat_cells f hf hQ L g 0 cap L.length rfl (Array.getElem?_eq_some_iff.1 hg).1 fun j u hj=>?_
  rw [Nat.zero_add];exact own_cellS h j u hj
theorem own_blkB {w:World} {b base:Nat} {T:TypeId} {size n:Nat} {cs:List Value} (h:Blk w b T cs) (hn:cs.length=n*size) (hm:n≤maxLen) (hb:base≤b):w.ownsRow base T size (.slice (some ⟨b,0,none⟩) n n) n cs:=
 ⟨hn,.inr ⟨b,n,cs.toArray,rfl,hb,h,Nat.le_refl _,hm,by simpa using hn,by simp [←hn]⟩⟩
def opc (o:Opn):List Value:=[.bool o.vn,.string o.va,.bool o.rn,.string o.ra]
theorem flat_strs (L:List ByteArray):L.flatMap (fun s=>[Value.string s])=L.map .string:=by
 induction L with
 | nil=>rfl
 | cons x t ih=>rw [List.flatMap_cons,ih];rfl
theorem ss_own {base n:Nat} {w:World} {v:Value} (L:List ByteArray) (hn:n=L.length) (h:w.ownsRow base 31 1 v n (L.map .string)):SsAt w v L:=
 rat_own (fun s=>[Value.string s]) (fun _=>rfl) (fun _=>rfl) L hn (by rw [flat_strs];exact h)
theorem is_own {base n:Nat} {w:World} {v:Value} (L:List (Bool × ByteArray)) (hn:n=L.length) (h:w.ownsRow base 37 2 v n (ics L)):IsAt w v L:=
 rat_own (fun x=>[Value.bool x.1,.string x.2]) (fun _=>rfl) (fun _=>rfl) L hn h
theorem os_own {base n:Nat} {w:World} {v:Value} (L:List Opn) (hn:n=L.length) (h:w.ownsRow base 39 4 v n (L.flatMap opc)):OsAt w v L:=
 rat_own opc (fun _=>rfl) (fun _=>rfl) L hn h
theorem below_cells {B b:Nat} {a:World} (hb:B≤b):∀(vs:List Value) (o:Nat) (w:World),Below B a w→Below B a (w.setCells b o vs)
 | [],_,_,h=>h
 | v :: r,o,w,h=>below_cells hb r (o+1) _ (h.setCell (by exact hb) v)
theorem run_append_part {P:Program} (w:World) (t ty:TypeId) (base:Nat) (e:TypeId) (i:TypeInfo) (z:Value) (size bytes:Nat) (ht:P.underlying t=some (.slice e)) (hi:P.info? e=some i) (hz:i.zero=some z)
  (hsize:i.size=size) (hby:i.bytes=bytes) (hzs:z.cells.size=size) (hsz:0<size)
  (g n cap k:Nat) (xs:List Value) (hown:w.ownsRow base e size (.slice (some ⟨g,0,none⟩) n cap) n xs) (hk:k≤n)
  (ad:Addr) (m c:Nat) (news:List Value) (hl:news.length=m*size) (hnews:∀j u,news[j]?=some u→w.cell? (ad.add j)=some u) (h1:∀u∈news,u.oneCell'=true)
  (hm:0<m) (h63:n-k+m≤maxLen) (hbytes:(n-k+m)*bytes≤140737488355328) (hbase:base≤w.heap.size) :
  ∃g' o' cap' w',(Builtin.append_ #[t,t] ty #[.slice (some ⟨g,k*size,none⟩) (n-k) (cap-k),.slice (some ad) m c]).run P w=.ok (.slice (some ⟨g',o',none⟩) (n-k+m) cap') w' ∧
   (∀j u,(xs.drop (k*size)++news)[j]?=some u→w'.cell? ⟨g',o'+j,none⟩=some u)∧Below base w w'∧base≤g'∧g'<w'.heap.size:=by
 subst hsize;rcases hown.2 with ⟨h0,_⟩ | ⟨g2,cap2,cur,hv,hbg,hg,hnc,hcm,hcs,htake⟩
 ·cases h0
 cases hv
 have hxl:=hown.1
 have hcells:∀j u,xs[j]?=some u→w.cell? ⟨g,j,none⟩=some u:=fun j u hj=>by
  have:=hown.cells (g:=g) rfl j u hj;rwa [Addr.add_lit,Nat.zero_add] at this
 have hkn:k*i.size+(n-k)*i.size=n*i.size:=by rw [←Nat.add_mul];congr 1;omega
 have hdl:(xs.drop (k*i.size)).length=(n-k)*i.size:=by rw [List.length_drop,hxl];omega
 have hcell:∀o,w.cell? ⟨g,o,none⟩=cur[o]?:=fun o=>by rw [cell_of_row w g o cur e _ hg]
 have hfro:∀o,w.frozen? ⟨g,o,none⟩=false:=fun o=>frozen_of_row w g o cur e hg
 have hglt:g<w.heap.size:=(Array.getElem?_eq_some_iff.1 hg).1;by_cases hroom:n-k+m≤cap-k
 ·have hle:(n+m)*i.size≤cap*i.size:=Nat.mul_le_mul_right _ (by omega);rw [Nat.add_mul] at hle
  have hsome:∀j,j<news.length→(w.cell? ⟨g,k*i.size+(n-k)*i.size+j,none⟩).isSome=true:=fun j hj=>by
   rw [hcell,hkn,Array.getElem?_eq_getElem (by omega)];rfl
  have hr:=run_append_room_cells (P:=P) w t ty e i ht hi g (k*i.size) (n-k) (cap-k) ad m c news hl hnews h1 hroom hsome (fun j _=>hfro _);have hb:=below_cells hbg news (k*i.size+(n-k)*i.size) w (Below.refl base w);refine ⟨g,k*i.size,cap-k,_,hr,?_,hb,hbg,Nat.lt_of_lt_of_le hglt hb.size⟩;intro j u hj;by_cases hlt:j<(xs.drop (k*i.size)).length
  ·rw [List.getElem?_append_left hlt,List.getElem?_drop] at hj;rw [World.cell?_setCells_out g _ _ _ _ (fun _ _=>Or.inl (by show k*i.size+j<_;omega))];exact hcells _ _ hj
  ·rw [List.getElem?_append_right (by omega)] at hj;obtain ⟨hjl,hju⟩:=List.getElem?_eq_some_iff.1 hj;have:=World.cell?_setCells_in g news (k*i.size+(n-k)*i.size) w hsome (j-(xs.drop (k*i.size)).length) hjl;rw [show k*i.size+(n-k)*i.size+(j-(xs.drop (k*i.size)).length)=k*i.size+j by omega,hju] at this;exact this
 ·obtain ⟨v',w',hr,ho,hgr⟩:=run_append_arg_grows (P:=P) w t ty e i z i.size bytes ht hi hz rfl hby hzs hsz ⟨g,k*i.size,none⟩ (n-k) (cap-k) (xs.drop (k*i.size)) hdl
   (fun j u hj=>by rw [List.getElem?_drop] at hj;rw [Addr.add_lit];exact hcells _ _ hj) ad m c news hl hnews (by omega) h63 hbytes
  obtain ⟨g',cap',rfl,hb,hlt⟩:=ho.form (by omega);refine ⟨g',0,cap',w',hr,fun j u hj=>?_,(Below.refl base w).grown hgr hbase (by intro k hk;simp at hk),by omega,hlt⟩;have:=ho.cells (g:=g') rfl j u hj;rwa [Addr.add_lit] at this
theorem step_append_run {P:Program} {w:World} {ops:Array Oper} {o:Oper} {a:Act} {K:Act→World→Prop} {Q:Exit→Act→World→Prop} {E:Prop} (hgd:o.guard=none) (s x:Operand) (t:TypeId)
  (ho:o.op=.call { callee:=.builtin .append,args:=#[s,x],argTypes:=#[t,t] }) (vs vx:Value) (hs:a.eval s=vs) (hx:a.eval x=vx)
  (hr:∃v' w',(Builtin.append_ #[t,t] o.type #[vs,vx]).run P w=.ok v' w'∧K (a.put o.dst v') w'):if Region.wanted o (yielded ops a.tmps)=true then Oper.wp P o a w K Q else E:=by
 have hw:Region.wanted o (yielded ops a.tmps)=true:=by simp [Region.wanted,hgd]
 rw [if_pos hw];obtain ⟨v',w',h1,h2⟩:=hr;unfold Oper.wp execOp;simp only [ho,resolve,invoke,builtin,Sem.run_bind,Sem.run_pure,Result.andThen_ok,List.map_toArray,List.map_cons,List.map_nil,hs,hx,h1];exact h2
theorem run_append_all {P:Program} (w:World) (t ty:TypeId) (base:Nat) (e:TypeId) (i:TypeInfo) (z:Value) (bytes:Nat) (ht:P.underlying t=some (.slice e)) (hi:P.info? e=some i) (hz:i.zero=some z)
  (hsize:i.size=1) (hby:i.bytes=bytes) (hzs:z.cells.size=1)
  (v:Value) (n:Nat) (xs:List Value) (hown:w.ownsRow base e 1 v n xs) (ao:Option Addr) (m c:Nat) (M:List ByteArray) (hM:SsAt w (.slice ao m c) M)
  (h63:n+m≤maxLen) (hbytes:(n+m)*bytes≤140737488355328) (hbase:base≤w.heap.size) :
  ∃v' w',(Builtin.append_ #[t,t] ty #[v,.slice ao m c]).run P w=.ok v' w'∧w'.ownsRow base e 1 v' (n+m) (xs++M.map .string)∧w.grownBy w' v.ownBlock:=by
 obtain ⟨ao',c',hv,hR⟩:=hM;injection hv with e1 e2 e3
 subst e1;subst e2;subst e3;by_cases h0:M.length=0
 ·obtain rfl:=List.eq_nil_of_length_eq_zero h0;cases ao with
  | none =>
   have hr:(Builtin.append_ #[t,t] ty #[v,.slice none 0 c]).run P w=.ok v w:=by
    rcases hown.2 with ⟨rfl,rfl⟩ | ⟨g,cap,cur,rfl,_,_,hnc,_⟩
    ·simp [Builtin.append_,run_underlying ht,sizeOf,typeInfo,hi,Builtin.lenOf,Builtin.firstCells]
    ·simp [Builtin.append_,run_underlying ht,sizeOf,typeInfo,hi,Builtin.lenOf,Builtin.firstCells,hnc,storeCells]
   exact ⟨v,w,hr,by simpa using hown,⟨rfl,rfl,rfl,Nat.le_refl _,fun _ _ _=>rfl⟩⟩
  | some a =>
   obtain ⟨v',w',h1,h2,h3,_⟩:=run_append_own (P:=P) w base t ty e i z 1 bytes ht hi hz hsize hby hzs (by decide) v n xs hown a 0 c [] rfl (by intro j u h;simp at h) (by simp) (by simpa using h63) (by simpa using hbytes) hbase;exact ⟨v',w',by simpa using h1,by simpa using h2,h3⟩
 ·rcases hR with h | ⟨b,o,rfl,hb,h3⟩
  ·exact absurd h h0
  ·obtain ⟨v',w',h1,h2,h4,_⟩:=run_append_own (P:=P) w base t ty e i z 1 bytes ht hi hz hsize hby hzs (by decide) v n xs hown ⟨b,o,none⟩ M.length c (M.map .string) (by simp) (fun j u hu=>by
    rw [List.getElem?_map] at hu;obtain ⟨s,hs,rfl⟩:=Option.map_eq_some_iff.1 hu;obtain ⟨hj,hjs⟩:=List.getElem?_eq_some_iff.1 hs;obtain ⟨cs,hq,hc⟩:=h3 j hj;have hq:cs=[.string M[j]]:=hq;have:=hc 0 (by decide);rw [Addr.add_lit];rw [hq,hjs] at this;simpa using this) (by intro u hu;obtain ⟨s,_,rfl⟩:=List.mem_map.1 hu;rfl) h63 hbytes hbase
   exact ⟨v',w',h1,h2,h4⟩
theorem step_append_all {P:Program} {w:World} {ops:Array Oper} {o:Oper} {a:Act} {K:Act→World→Prop} {Q:Exit→Act→World→Prop} {E:Prop} (hgd:o.guard=none) (s x:Operand) (t:TypeId)
  (ho:o.op=.call { callee:=.builtin .append,args:=#[s,x],argTypes:=#[t,t] }) {v:Value} {ao:Option Addr} {m c:Nat} (hs:a.eval s=v) (hx:a.eval x=.slice ao m c)
  (base:Nat) (e:TypeId) (i:TypeInfo) (z:Value) (bytes:Nat) (ht:P.underlying t=some (.slice e)) (hi:P.info? e=some i) (hz:i.zero=some z)
  (hsize:i.size=1) (hby:i.bytes=bytes) (hzs:z.cells.size=1) (n:Nat) (xs:List Value) (hown:w.ownsRow base e 1 v n xs) (M:List ByteArray) (hM:SsAt w (.slice ao m c) M)
  (h63:n+m≤maxLen) (hbytes:(n+m)*bytes≤140737488355328) (hbase:base≤w.heap.size)
  (h:∀v' w',w'.ownsRow base e 1 v' (n+m) (xs++M.map .string)→w.grownBy w' v.ownBlock→(∀g,v.ownBlock=some g→base≤g∧g<w.heap.size)→K (a.put o.dst v') w'):if Region.wanted o (yielded ops a.tmps)=true then Oper.wp P o a w K Q else E:=by
 obtain ⟨v',w',h1,h2,h3⟩:=run_append_all (P:=P) w t o.type base e i z bytes ht hi hz hsize hby hzs v n xs hown ao m c M hM h63 hbytes hbase;exact step_append_run hgd s x t ho v _ hs hx ⟨v',w',h1,h v' w' h2 h3 (fun g hg=>⟨(own_lt hown hg).2,(own_lt hown hg).1⟩)⟩
theorem ss_drew {w:World} {v:Value} {V:List ByteArray} (h:SsAt w v V):SsAt w.drew v V:=SsAt.after h (Below.drew (Below.refl _ _))
theorem ss_alloc {w:World} {v:Value} {V:List ByteArray} (h:SsAt w v V) (o:Obj):SsAt (w.alloc o) v V:=SsAt.after h (b1 _ _)
theorem is_drew {w:World} {v:Value} {V:List (Bool × ByteArray)} (h:IsAt w v V):IsAt w.drew v V:=IsAt.after h (Below.drew (Below.refl _ _))
theorem is_alloc {w:World} {v:Value} {V:List (Bool × ByteArray)} (h:IsAt w v V) (o:Obj):IsAt (w.alloc o) v V:=IsAt.after h (b1 _ _)
theorem is_blk {w:World} {g c n:Nat} (L:List (Bool × ByteArray)) (hn:n=L.length) (h:Blk w g 37 (ics L)):IsAt w (.slice (some ⟨g,0,none⟩) n c) L:=
 rat_cells (fun x=>[Value.bool x.1,.string x.2]) (fun _=>rfl) (fun _=>rfl) L g 0 c n hn h.lt fun j u hj=>by rw [Nat.zero_add,h.cell];exact hj
theorem blkE {w:World} {cs:Array Value} {T:TypeId} {g:Nat} (h:w.heap.size=g):Blk (w.alloc (.cells cs T)) g T cs.toList:=by subst h;exact Blk.new _ _ _
end
section
open Go.RowKit Go.Shelf
def oL (P:List Opn):List (Bool × ByteArray):=P.flatMap fun o=>[(o.vn,o.va),(o.rn,o.ra)]
def oZ (P:List Opn):List Int:=P.flatMap fun o=>[intb o.vn o.va,intb o.rn o.ra]
def restL (r:Int) (P:List Opn):Int:=P.foldl (fun s o=>s-intb o.vn o.va*intb o.rn o.ra) r
def witR (a b c d:ByteArray) (vn:Bool) (va:ByteArray) (rn:Bool) (ra:ByteArray) (P:List Opn):Nat × List Int:=
 if chkV ((vn,va) :: (rn,ra) :: oL P) [] a b c d≠0 then (chkV ((vn,va) :: (rn,ra) :: oL P) [] a b c d,[]) else if P.length≠4 then (6,[]) else (0,oZ P++[restL (intb rn ra) P])
def WtPost (w:World) (r:Nat × List Int) (e:Ending) (w':World):Prop:=∃v,e=.returned (.tuple #[v,.int .i64 (r.1:Int)])∧ZsAt w' v r.2∧Below w.heap.size w w'
theorem zs_nil (w:World):ZsAt w (.slice none 0 0) []:=⟨none,0,rfl,.inl rfl⟩
theorem take_snoc {α:Type} (L:List α) (k:Nat) (h:k<L.length):L.take (k+1)=L.take k++[L[k]]:=List.take_succ_eq_append_getElem h
theorem oL_snoc (P:List Opn) (k:Nat) (h:k<P.length):oL (P.take (k+1))=oL (P.take k)++[(P[k].vn,P[k].va),(P[k].rn,P[k].ra)]:=by
 unfold oL;rw [take_snoc P k h,List.flatMap_append];simp
theorem oL_len (P:List Opn):(oL P).length=P.length*2:=by
 unfold oL;induction P with
 | nil=>rfl
 | cons x t ih=>rw [List.flatMap_cons,List.length_append,ih,List.length_cons];simp;omega
theorem restL_snoc (r:Int) (P:List Opn) (k:Nat) (h:k<P.length):restL r (P.take (k+1))=restL r (P.take k)-intb P[k].vn P[k].va*intb P[k].rn P[k].ra:=by
 unfold restL;rw [take_snoc P k h,List.foldl_append];rfl
theorem ics_app2 (A B:List (Bool × ByteArray)):ics (A++B)=ics A++ics B:=by unfold ics;rw [List.flatMap_append]
theorem numb_lt {s:ByteArray} {k:Nat} (h:s.size≤k):numb s<256^k:=by
 unfold numb;have h1:=val_lt s.data.toList;have h2:s.data.toList.length=s.size:=by simp
 rw [h2] at h1;exact Nat.lt_of_lt_of_le h1 (Nat.pow_le_pow_right (by decide) h)
theorem intb_abs (n:Bool) (s:ByteArray):(intb n s).natAbs=numb s:=by
 unfold intb;cases n <;> simp
theorem restL_lt (r:Int) (P:List Opn) (hr:r.natAbs<256^12) (hP:∀o∈P,o.va.size≤12∧o.ra.size≤12):(restL r P).natAbs≤256^12+P.length*256^24:=by
 suffices h:∀(P:List Opn) (r:Int) (B:Nat),r.natAbs≤B→(∀o∈P,o.va.size≤12∧o.ra.size≤12)→(restL r P).natAbs≤B+P.length*256^24 from h P r _ (Nat.le_of_lt hr) hP
 intro P;induction P with
 | nil=>intro r B h _;simpa [restL] using h
 | cons x t ih =>
  intro r B h hx;have h1:=hx x (List.mem_cons_self ..);have e1:=numb_lt h1.1;have e2:=numb_lt h1.2
  have e3:(intb x.vn x.va*intb x.rn x.ra).natAbs≤256^24:=by
   rw [Int.natAbs_mul,intb_abs,intb_abs];have:=Nat.mul_le_mul (Nat.le_of_lt e1) (Nat.le_of_lt e2);rwa [←Nat.pow_add] at this
  have h2:=ih (r-intb x.vn x.va*intb x.rn x.ra) (B+256^24) (by omega) (fun o ho=>hx o (List.mem_cons_of_mem _ ho));show (restL (r-intb x.vn x.va*intb x.rn x.ra) t).natAbs≤_;rw [List.length_cons,Nat.add_mul];omega
theorem oL_zI (P:List Opn) (h:(oL P).all iv2=true):oL P=(oZ P).map zI:=by
 induction P with
 | nil=>rfl
 | cons x t ih =>
  have h':(ivB x.vn x.va=true∧ivB x.rn x.ra=true)∧(oL t).all iv2=true:=by
   have:((oL (x :: t)).all iv2)=((ivB x.vn x.va&&ivB x.rn x.ra)&&(oL t).all iv2):=by
    unfold oL;rw [List.flatMap_cons,List.all_append];simp [iv2]
   rw [this,Bool.and_eq_true,Bool.and_eq_true] at h;exact h
  obtain ⟨z1,_,e1,e2⟩:=of_ivB h'.1.1;obtain ⟨z2,_,e3,e4⟩:=of_ivB h'.1.2;have e5:=ih h'.2;unfold oL oZ at e5 ⊢;rw [List.flatMap_cons,List.flatMap_cons,List.map_append,e5,e1,e2,e3,e4,intb_I,intb_I];rfl
theorem oZ_len (P:List Opn):(oZ P).length=P.length*2:=by
 unfold oZ;induction P with
 | nil=>rfl
 | cons x t ih=>rw [List.flatMap_cons,List.length_append,ih,List.length_cons];simp;omega
theorem oL_sz (P:List Opn) (hP:∀o∈P,o.va.size≤12∧o.ra.size≤12):∀x∈oL P,x.2.size≤12:=by
 intro x hx;unfold oL at hx;obtain ⟨o,ho,h⟩:=List.mem_flatMap.1 hx;have:=hP o ho;simp only [List.mem_cons,List.not_mem_nil,or_false] at h;rcases h with rfl | rfl
 ·exact this.1
 ·exact this.2
theorem oL_at (P:List Opn) (h:(oL P).all iv2=true) (k:Nat) (hk:k<P.length):ivB P[k].vn P[k].va=true∧ivB P[k].rn P[k].ra=true:=by
 rw [List.all_eq_true] at h;have hm:∀y∈[(P[k].vn,P[k].va),(P[k].rn,P[k].ra)],y∈oL P:=fun y hy=>List.mem_flatMap.2 ⟨P[k],List.getElem_mem hk,hy⟩
 exact ⟨h (P[k].vn,P[k].va) (hm _ (by simp)),h (P[k].rn,P[k].ra) (hm _ (by simp))⟩
end
end Go.Proofs.YtdoacbdkbbpamaaGreatDoor
