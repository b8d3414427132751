import Derived.Test.YtdoacbdkbbpamaaGreatDoorHol
import Derived.Test.YtdoacbdkbbpamaaGreatDoorPpU24K
set_option linter.unusedVariables false
set_option linter.unusedSimpArgs false
set_option maxRecDepth 100000
set_option maxHeartbeats 16000000
namespace Go.Proofs.YtdoacbdkbbpamaaGreatDoor
section
open Go.RowKit Go.Shelf
end
section
open Go.RowKit Go.Shelf
structure Tp where
 vals:List ByteArray
 seed:ByteArray
 pos:Int
def numb (s:ByteArray):Nat:=val s.data.toList
theorem numb_E (n:Nat):numb (E n)=n:=val_E n
def Tp.good (T:Tp):Bool:=T.vals.all vldB&&(decide (0≤T.pos)&&decide (T.pos≤2147483647))
def Tp.nil:Tp:=⟨[],⟨#[]⟩,0⟩
def Tp.on (T:Tp) (k:Nat):Tp:=⟨T.vals,T.seed,T.pos+k⟩
theorem Tp.on_zero (T:Tp):T.on 0=T:=by cases T;simp [Tp.on]
theorem Tp.on_on (T:Tp) (a b:Nat):(T.on a).on b=T.on (a+b):=by simp [Tp.on];omega
abbrev Att:=ByteArray→Nat→Nat→Nat→Nat
def coinS (att:Att) (T:Tp) (n:Nat):Nat × Nat:=
 match (List.range 256).find? (fun a=>decide (att T.seed T.pos.toNat a (nb n)<n)) with
 | some a=>(0,att T.seed T.pos.toNat a (nb n))
 | none=>(14,0)
def coinD (att:Att) (T:Tp) (n:Nat):Nat × Nat:=
 if T.pos.toNat<T.vals.length then (if numb (T.vals.getD T.pos.toNat ⟨#[]⟩)<n then (0,numb (T.vals.getD T.pos.toNat ⟨#[]⟩)) else (2,0))
 else if T.seed.size=0∨T.pos=2147483647 then (14,0) else coinS att T n
def coin (att:Att) (T:Tp) (n:Nat):Nat × Nat:=if T.good=false then (3,0) else if n=0 then (11,0) else coinD att T n
def Tp.after (T:Tp) (e:Nat):Tp:=if e=0 then T.on 1 else Tp.nil
theorem coinD_val {att:Att} {T:Tp} {n x:Nat} (h:T.pos.toNat<T.vals.length) (hx:T.vals[T.pos.toNat]=E x) (hn:x<n):coinD att T n=(0,x):=by
 have e:numb (T.vals.getD T.pos.toNat ⟨#[]⟩)=x:=by rw [List.getD_eq_getElem?_getD,List.getElem?_eq_getElem h,Option.getD_some,hx,numb_E]
 unfold coinD;rw [if_pos h,e,if_pos hn]
theorem coinD_big {att:Att} {T:Tp} {n x:Nat} (h:T.pos.toNat<T.vals.length) (hx:T.vals[T.pos.toNat]=E x) (hn:n≤x):coinD att T n=(2,0):=by
 have e:numb (T.vals.getD T.pos.toNat ⟨#[]⟩)=x:=by rw [List.getD_eq_getElem?_getD,List.getElem?_eq_getElem h,Option.getD_some,hx,numb_E]
 unfold coinD;rw [if_pos h,e,if_neg (by omega)]
theorem coinD_no {att:Att} {T:Tp} {n:Nat} (h:T.vals.length≤T.pos.toNat) (hs:T.seed.size=0∨T.pos=2147483647):coinD att T n=(14,0):=by
 unfold coinD;rw [if_neg (by omega),if_pos hs]
theorem coinD_s {att:Att} {T:Tp} {n:Nat} (h:T.vals.length≤T.pos.toNat) (hs:T.seed.size≠0) (hp:T.pos≠2147483647):coinD att T n=coinS att T n:=by
 unfold coinD;rw [if_neg (by omega),if_neg (by omega)]
theorem find_range {p:Nat→Bool} {k n:Nat} (hk:k<n) (h:∀j,j<k→p j=false) (hp:p k=true):(List.range n).find? p=some k:=by
 rw [List.find?_range_eq_some];exact ⟨hp,List.mem_range.2 hk,fun j hj=>by rw [h j hj];rfl⟩
theorem coinS_at {att:Att} {T:Tp} {n a:Nat} (ha:a<256) (h:∀j,j<a→n≤att T.seed T.pos.toNat j (nb n)) (hx:att T.seed T.pos.toNat a (nb n)<n):coinS att T n=(0,att T.seed T.pos.toNat a (nb n)):=by
 unfold coinS;rw [find_range (p:=fun a=>decide (att T.seed T.pos.toNat a (nb n)<n)) ha (fun j hj=>decide_eq_false (by have:=h j hj;omega)) (decide_eq_true hx)]
theorem coinS_no {att:Att} {T:Tp} {n:Nat} (h:∀j,j<256→n≤att T.seed T.pos.toNat j (nb n)):coinS att T n=(14,0):=by
 unfold coinS;rw [List.find?_eq_none.2 (fun j hj=>by have:=h j (List.mem_range.1 hj);simp;omega)]
theorem coinD_lt {att:Att} {T:Tp} {n:Nat} (h:(coinD att T n).1=0):(coinD att T n).2<n:=by
 unfold coinD coinS at *;split at h
 ·split at h
  ·rename_i h1 h2;rw [if_pos h1,if_pos h2];exact h2
  ·simp at h
 ·rename_i h1;split at h
  ·simp at h
  ·rename_i h2;rw [if_neg h1,if_neg h2];split at h
   ·rename_i a ha;have:=List.find?_some ha;simpa using this
   ·simp at h
def Tp.rdy (T:Tp) (n:Nat):Nat:=if T.good=false then 3 else if n=0 then 11 else 0
def TAt (w:World) (v:Value) (T:Tp):Prop:=∃u,v=.agg #[u,.string T.seed,.int .i64 T.pos]∧SsAt w u T.vals
theorem TAt.after {w w':World} {v:Value} {T:Tp} (h:TAt w v T) (hb:Below w.heap.size w w'):TAt w' v T:=by
 obtain ⟨u,h1,h2⟩:=h;exact ⟨u,h1,SsAt.after h2 hb⟩
structure Tp.Ok (T:Tp):Prop where
 n:T.vals.length≤100
 s:∀x∈T.vals,x.size≤100
 d:T.seed.size≤100
theorem Tp.Ok.on {T:Tp} (h:T.Ok) (k:Nat):(T.on k).Ok:=⟨h.n,h.s,h.d⟩
end
end Go.Proofs.YtdoacbdkbbpamaaGreatDoor
