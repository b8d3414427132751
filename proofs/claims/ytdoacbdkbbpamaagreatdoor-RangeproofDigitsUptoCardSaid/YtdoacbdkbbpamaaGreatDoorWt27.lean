/- squarerange.Witness. -/
import Derived.Test.YtdoacbdkbbpamaaGreatDoorCo1
import Derived.Test.YtdoacbdkbbpamaaGreatDoorLck6
import Derived.Test.YtdoacbdkbbpamaaGreatDoorRPed1
import Derived.Test.YtdoacbdkbbpamaaGreatDoorFwx24
import Derived.Test.YtdoacbdkbbpamaaGreatDoorCmt2
import Derived.Test.YtdoacbdkbbpamaaGreatDoorIsm
import Derived.ArgAppend
import Derived.Deep.AppendLies
import Derived.Test.YtdoacbdkbbpamaaGreatDoorEqn
set_option linter.unusedVariables false
set_option linter.unusedSimpArgs false
set_option maxRecDepth 100000
set_option maxHeartbeats 16000000
namespace Go.Proofs.YtdoacbdkbbpamaaGreatDoor
section
/- Keys of bytes: pedersen.Check,dominoref14.Check,squarerange.checked,dominoref27.formed,key. -/
open Go.RowKit Go.Shelf
def intb (n:Bool) (s:ByteArray):Int:=if n then -(numb s:Int) else (numb s:Int)
theorem intb_I (z:Int):intb (sg z) (E z.natAbs)=z:=by
 unfold intb sg;rw [numb_E];by_cases h:z<0
 ·rw [decide_eq_true h,if_pos rfl];omega
 ·rw [decide_eq_false h,if_neg (by decide)];omega
theorem empty_E {n:Nat}:(E n).size=0↔n=0:=by
 constructor
 ·intro h;apply Classical.byContradiction;intro h0;have:=(E_size_pos n).2 (by omega);omega
 ·rintro rfl;rfl
def pedV (a b c d:ByteArray):Nat:=if vl4 a b c d=true then pedE (numb a) (numb b) (numb c) (numb d) else 3
theorem vl4_of {a b c d:ByteArray} (h:vl4 a b c d=true):∃p q g k,(p<256^128∧q<256^128∧g<256^128∧k<256^128)∧a=E p∧b=E q∧c=E g∧d=E k:=by
 unfold vl4 at h;simp only [Bool.and_eq_true] at h;obtain ⟨p,h1,e1⟩:=of_vldB h.1.1.1;obtain ⟨q,h2,e2⟩:=of_vldB h.1.1.2;obtain ⟨g,h3,e3⟩:=of_vldB h.1.2;obtain ⟨k,h4,e4⟩:=of_vldB h.2;exact ⟨p,q,g,k,⟨h1,h2,h3,h4⟩,e1,e2,e3,e4⟩
theorem pedV_E {p q g h:Nat} (hp:p<256^128) (hq:q<256^128) (hg:g<256^128) (hh:h<256^128):pedV (E p) (E q) (E g) (E h)=pedE p q g h:=by
 unfold pedV;rw [if_pos (vl4_E hp hq hg hh),numb_E,numb_E,numb_E,numb_E]
theorem pedA_c (a b c d:ByteArray) (k:Nat) (w:World) (ha:a.size≤8) (hb:b.size≤100) (hc:c.size≤100) (hd:d.size≤100) (hk:pedV a b c d=k) :
  Calls Tryz.prog 60 #[.agg #[.string a,.string b,.string c,.string d]] w fun e w'=>e=.returned (.int .i64 k)∧Below w.heap.size w w':=by
 by_cases hv:vl4 a b c d=true
 ·obtain ⟨p,q,g,h,⟨l1,l2,l3,l4⟩,rfl,rfl,rfl,rfl⟩:=vl4_of hv;rw [pedV_E l1 l2 l3 l4] at hk;exact pedcheckV_c p q g h k w (lt_of_size ha) l2 l3 l4 hk
 ·unfold pedV at hk;rw [if_neg hv] at hk;subst hk;exact pedcheck_bad a b c d w (by omega) (by omega) (by omega) (by omega) (Bool.eq_false_iff.2 hv)
theorem rpedA_c (a b c d:ByteArray) (k:Nat) (w:World) (ha:a.size≤8) (hb:b.size≤100) (hc:c.size≤100) (hd:d.size≤100) (hk:pedV a b c d=k) :
  Calls Tryz.prog 80 #[.agg #[.string a,.string b,.string c,.string d]] w fun e w'=>e=.returned (.int .i64 k)∧Below w.heap.size w w':=by
 by_cases hv:vl4 a b c d=true
 ·obtain ⟨p,q,g,h,⟨l1,l2,l3,l4⟩,rfl,rfl,rfl,rfl⟩:=vl4_of hv;rw [pedV_E l1 l2 l3 l4] at hk;exact rpedcheckV_c p q g h k w (lt_of_size ha) l2 l3 l4 hk
 ·unfold pedV at hk;rw [if_neg hv] at hk;subst hk;exact rpedcheck_bad a b c d w (by omega) (by omega) (by omega) (by omega) (Bool.eq_false_iff.2 hv)
theorem z_str {s:ByteArray} (h:s.size=0):s.toList.isEmpty=true:=by
 rw [ByteArray.toList_eq];cases e:s.data.toList with
 | nil=>rfl
 | cons x t =>
  have h2:s.data.toList.length=s.size:=by simp
  rw [e,h] at h2;simp at h2
end
section
/- Rows that a call owns,read as lists;append onto a part of such a row. -/
open Go.RowKit
theorem flat_get {α:Type} (f:α→List Value) (size:Nat) (hf:∀x,(f x).length=size) (L:List α) (j i:Nat) (hj:j<L.length) (hi:i<size):(L.flatMap f)[j*size+i]?=(f L[j])[i]?:=by
 induction L generalizing j with
 | nil=>simp at hj
 | cons x t ih =>
  rw [List.flatMap_cons];cases j with
  | zero=>rw [Nat.zero_mul,Nat.zero_add,List.getElem?_append_left (by rw [hf];exact hi)];rfl
  | succ j =>
   have h':j<t.length:=by simpa using hj
   have e:(j+1)*size+i=size+(j*size+i):=by rw [Nat.add_mul];omega
   rw [e,List.getElem?_append_right (by rw [hf];omega),hf,Nat.add_sub_cancel_left,ih j h'];simp
theorem rat_cells {α:Type} {Q:World→α→List Value→Prop} {size:Nat} {w:World} (f:α→List Value) (hf:∀x,(f x).length=size) (hQ:∀x,Q w x (f x)) (L:List α) (g o c n:Nat) (hn:n=L.length) (hg:g<w.heap.size)
  (h:∀j u,(L.flatMap f)[j]?=some u→w.cell? ⟨g,o+j,none⟩=some u):RAt Q size w (.slice (some ⟨g,o,none⟩) n c) L:=by
 subst hn;refine ⟨_,_,rfl,.inr ⟨g,o,rfl,hg,fun j hj=>⟨f L[j],hQ _,fun i hi=>?_⟩⟩⟩;have e:=flat_get f size hf L j i hj hi;have hlt:i<(f L[j]).length:=by rw [hf];exact hi
 rw [List.getElem?_eq_getElem hlt] at e ⊢;have:=h _ _ e;rwa [←Nat.add_assoc] at this
theorem rat_own {α:Type} {Q:World→α→List Value→Prop} {size base n:Nat} {T:TypeId} {w:World} {v:Value} (f:α→List Value) (hf:∀x,(f x).length=size) (hQ:∀x,Q w x (f x)) (L:List α) (hn:n=L.length) (h:w.ownsRow base T size v n (L.flatMap f)):RAt Q size w v L:=by
 subst hn;rcases h.2 with ⟨rfl,h0⟩ | ⟨g,cap,cur,rfl,_,hg,_⟩
 ·exact ⟨none,0,by rw [h0],.inl h0⟩
 ·refine rat_cells f hf hQ L g 0 cap L.length rfl (Array.getElem?_eq_some_iff.1 hg).1 fun j u hj=>?_
  rw [Nat.zero_add];exact own_cellS h j u hj
theorem own_blkB {w:World} {b base:Nat} {T:TypeId} {size n:Nat} {cs:List Value} (h:Blk w b T cs) (hn:cs.length=n*size) (hm:n≤maxLen) (hb:base≤b):w.ownsRow base T size (.slice (some ⟨b,0,none⟩) n n) n cs:=
 ⟨hn,.inr ⟨b,n,cs.toArray,rfl,hb,h,Nat.le_refl _,hm,by simpa using hn,by simp [←hn]⟩⟩
def opc (o:Opn):List Value:=[.bool o.vn,.string o.va,.bool o.rn,.string o.ra]
theorem flat_strs (L:List ByteArray):L.flatMap (fun s=>[Value.string s])=L.map .string:=by
 induction L with
 | nil=>rfl
 | cons x t ih=>rw [List.flatMap_cons,ih];rfl
theorem ss_own {base n:Nat} {w:World} {v:Value} (L:List ByteArray) (hn:n=L.length) (h:w.ownsRow base 31 1 v n (L.map .string)):SsAt w v L:=
 rat_own (fun s=>[Value.string s]) (fun _=>rfl) (fun _=>rfl) L hn (by rw [flat_strs];exact h)
theorem os_own {base n:Nat} {w:World} {v:Value} (L:List Opn) (hn:n=L.length) (h:w.ownsRow base 39 4 v n (L.flatMap opc)):OsAt w v L:=
 rat_own opc (fun _=>rfl) (fun _=>rfl) L hn h
theorem run_append_all {P:Program} (w:World) (t ty:TypeId) (base:Nat) (e:TypeId) (i:TypeInfo) (z:Value) (bytes:Nat) (ht:P.underlying t=some (.slice e)) (hi:P.info? e=some i) (hz:i.zero=some z)
  (hsize:i.size=1) (hby:i.bytes=bytes) (hzs:z.cells.size=1)
  (v:Value) (n:Nat) (xs:List Value) (hown:w.ownsRow base e 1 v n xs) (ao:Option Addr) (m c:Nat) (M:List ByteArray) (hM:SsAt w (.slice ao m c) M)
  (h63:n+m≤maxLen) (hbytes:(n+m)*bytes≤140737488355328) (hbase:base≤w.heap.size) :
  ∃v' w',(Builtin.append_ #[t,t] ty #[v,.slice ao m c]).run P w=.ok v' w'∧w'.ownsRow base e 1 v' (n+m) (xs++M.map .string)∧w.grownBy w' v.ownBlock:=by
 obtain ⟨ao',c',hv,hR⟩:=hM;injection hv with e1 e2 e3
 subst e1;subst e2;subst e3;by_cases h0:M.length=0
 ·obtain rfl:=List.eq_nil_of_length_eq_zero h0;cases ao with
  | none =>
   have hr:(Builtin.append_ #[t,t] ty #[v,.slice none 0 c]).run P w=.ok v w:=by
    rcases hown.2 with ⟨rfl,rfl⟩ | ⟨g,cap,cur,rfl,_,_,hnc,_⟩
    ·simp [Builtin.append_,run_underlying ht,sizeOf,typeInfo,hi,Builtin.lenOf,Builtin.firstCells]
    ·simp [Builtin.append_,run_underlying ht,sizeOf,typeInfo,hi,Builtin.lenOf,Builtin.firstCells,hnc,storeCells]
   exact ⟨v,w,hr,by simpa using hown,⟨rfl,rfl,rfl,Nat.le_refl _,fun _ _ _=>rfl⟩⟩
  | some a =>
   obtain ⟨v',w',h1,h2,h3,_⟩:=run_append_own (P:=P) w base t ty e i z 1 bytes ht hi hz hsize hby hzs (by decide) v n xs hown a 0 c [] rfl (by intro j u h;simp at h) (by simp) (by simpa using h63) (by simpa using hbytes) hbase;exact ⟨v',w',by simpa using h1,by simpa using h2,h3⟩
 ·rcases hR with h | ⟨b,o,rfl,hb,h3⟩
  ·exact absurd h h0
  ·obtain ⟨v',w',h1,h2,h4,_⟩:=run_append_own (P:=P) w base t ty e i z 1 bytes ht hi hz hsize hby hzs (by decide) v n xs hown ⟨b,o,none⟩ M.length c (M.map .string) (by simp) (fun j u hu=>by
    rw [List.getElem?_map] at hu;obtain ⟨s,hs,rfl⟩:=Option.map_eq_some_iff.1 hu;obtain ⟨hj,hjs⟩:=List.getElem?_eq_some_iff.1 hs;obtain ⟨cs,hq,hc⟩:=h3 j hj;have hq:cs=[.string M[j]]:=hq;have:=hc 0 (by decide);rw [Addr.add_lit];rw [hq,hjs] at this;simpa using this) (by intro u hu;obtain ⟨s,_,rfl⟩:=List.mem_map.1 hu;rfl) h63 hbytes hbase
   exact ⟨v',w',h1,h2,h4⟩
theorem is_blk {w:World} {g c n:Nat} (L:List (Bool × ByteArray)) (hn:n=L.length) (h:Blk w g 37 (ics L)):IsAt w (.slice (some ⟨g,0,none⟩) n c) L:=
 rat_cells (fun x=>[Value.bool x.1,.string x.2]) (fun _=>rfl) (fun _=>rfl) L g 0 c n hn h.lt fun j u hj=>by rw [Nat.zero_add,h.cell];exact hj
end
section
open Go.RowKit Go.Shelf
end
end Go.Proofs.YtdoacbdkbbpamaaGreatDoor
