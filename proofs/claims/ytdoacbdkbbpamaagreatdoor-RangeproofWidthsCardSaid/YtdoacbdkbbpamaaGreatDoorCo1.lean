import Derived.Test.YtdoacbdkbbpamaaGreatDoorHol
import Derived.Test.YtdoacbdkbbpamaaGreatDoorMod16
set_option linter.unusedVariables false
set_option linter.unusedSimpArgs false
set_option maxRecDepth 100000
set_option maxHeartbeats 16000000
namespace Go.Proofs.YtdoacbdkbbpamaaGreatDoor
section
open Go.RowKit Go.Shelf
def rspI (q b c:Nat) (m z:Int):Int:=if b=0 then (m+(c:Int)*z)%(q:Int) else m+(c:Int)*z
def rspJ (N:NSta) (c:Nat) (W M:List Int) (j:Nat):Int:=rspI N.ord (N.vars.getD j 0) c (M.getD j 0) (W.getD j 0)
def NSta.rspL (N:NSta) (c:Nat) (W M:List Int):List Int:=(List.range N.vars.length).map (rspJ N c W M)
theorem rsp_step (N:NSta) (c:Nat) (W M:List Int) (k:Nat) (h:k<N.vars.length) (h2:k<M.length) (h3:k<W.length):(N.rspL c W M).take (k+1)=(N.rspL c W M).take k++[rspI N.ord N.vars[k] c M[k] W[k]]:=by
 unfold NSta.rspL;rw [←List.map_take,List.take_succ_eq_append_getElem (by simpa using h),List.map_append,List.map_take];simp only [List.getElem_range,List.map_cons,List.map_nil,rspJ,List.getD_eq_getElem?_getD,List.getElem?_eq_getElem h,List.getElem?_eq_getElem h2,List.getElem?_eq_getElem h3,Option.getD_some]
def mkJ (N:NSta) (C K:Nat) (M:List Int) (j:Nat):Bool:=blw (N.vars.getD j 0) (M.getD j 0) (lim N.ord C K (N.vars.getD j 0)).1
def rsJ (N:NSta) (C K c:Nat) (W M:List Int) (j:Nat):Bool:=blw (N.vars.getD j 0) (rspJ N c W M j) (lim N.ord C K (N.vars.getD j 0)).2
theorem mkJ_at (N:NSta) (C K:Nat) (M:List Int) (j:Nat) (h:j<N.vars.length) (h2:j<M.length):mkJ N C K M j=blw N.vars[j] M[j] (lim N.ord C K N.vars[j]).1:=by
 unfold mkJ;simp only [List.getD_eq_getElem?_getD,List.getElem?_eq_getElem h,List.getElem?_eq_getElem h2,Option.getD_some]
theorem rsJ_at (N:NSta) (C K c:Nat) (W M:List Int) (j:Nat) (h:j<N.vars.length) (h2:j<M.length) (h3:j<W.length):rsJ N C K c W M j=blw N.vars[j] (rspI N.ord N.vars[j] c M[j] W[j]) (lim N.ord C K N.vars[j]).2:=by
 unfold rsJ rspJ;simp only [List.getD_eq_getElem?_getD,List.getElem?_eq_getElem h,List.getElem?_eq_getElem h2,List.getElem?_eq_getElem h3,Option.getD_some]
def NSta.rsp2 (N:NSta) (C K c:Nat) (W M:List Int):Nat:=if ra N.vars.length (rsJ N C K c W M)=false then 15 else 0
def NSta.rspE (N:NSta) (C K c:Nat) (W M:List Int):Nat:=
 if W.length≠N.vars.length∨M.length≠N.vars.length then 6 else if C≤c then 2 else if ra N.vars.length (inJ N W)=false then 2 else if ra N.vars.length (mkJ N C K M)=false then 2 else N.rsp2 C K c W M
def NSta.rspR (N:NSta) (C K c:Nat) (W M:List Int):List Int:=if N.rspE C K c W M=0 then N.rspL c W M else []
def NSta.rspR2 (N:NSta) (C K c:Nat) (W M:List Int):List Int:=if N.rsp2 C K c W M=0 then N.rspL c W M else []
theorem rspE_6 {N:NSta} {C K c:Nat} {W M:List Int} (h:W.length≠N.vars.length∨M.length≠N.vars.length):N.rspE C K c W M=6:=by unfold NSta.rspE;rw [if_pos h]
theorem rspE_c {N:NSta} {C K c:Nat} {W M:List Int} (h1:W.length=N.vars.length) (h2:M.length=N.vars.length) (h:C≤c):N.rspE C K c W M=2:=by
 unfold NSta.rspE;rw [if_neg (by omega),if_pos h]
theorem rspE_w {N:NSta} {C K c:Nat} {W M:List Int} (h1:W.length=N.vars.length) (h2:M.length=N.vars.length) (h:c<C) (h3:ra N.vars.length (inJ N W)=false):N.rspE C K c W M=2:=by
 unfold NSta.rspE;rw [if_neg (by omega),if_neg (by omega),if_pos h3]
theorem rspE_m {N:NSta} {C K c:Nat} {W M:List Int} (h1:W.length=N.vars.length) (h2:M.length=N.vars.length) (h:c<C) (h3:ra N.vars.length (inJ N W)=true) (h4:ra N.vars.length (mkJ N C K M)=false):N.rspE C K c W M=2:=by
 unfold NSta.rspE;rw [if_neg (by omega),if_neg (by omega),if_neg (by rw [h3];decide),if_pos h4]
theorem rspE_r {N:NSta} {C K c:Nat} {W M:List Int} (h1:W.length=N.vars.length) (h2:M.length=N.vars.length) (h:c<C) (h3:ra N.vars.length (inJ N W)=true) (h4:ra N.vars.length (mkJ N C K M)=true):N.rspE C K c W M=N.rsp2 C K c W M∧N.rspR C K c W M=N.rspR2 C K c W M:=by
 have e:N.rspE C K c W M=N.rsp2 C K c W M:=by unfold NSta.rspE;rw [if_neg (by omega),if_neg (by omega),if_neg (by rw [h3];decide),if_neg (by rw [h4];decide)]
 exact ⟨e,by unfold NSta.rspR NSta.rspR2;rw [e]⟩
theorem rspR_e {N:NSta} {C K c k:Nat} {W M:List Int} (h:N.rspE C K c W M=k) (hk:k≠0):N.rspR C K c W M=[]:=by unfold NSta.rspR;rw [if_neg (by omega)]
theorem rsp2_0 {N:NSta} {C K c:Nat} {W M:List Int} (h:ra N.vars.length (rsJ N C K c W M)=true):N.rsp2 C K c W M=0∧N.rspR2 C K c W M=N.rspL c W M:=by
 have e:N.rsp2 C K c W M=0:=by unfold NSta.rsp2;rw [if_neg (by rw [h];decide)]
 exact ⟨e,by unfold NSta.rspR2;rw [if_pos e]⟩
theorem rsp2_15 {N:NSta} {C K c:Nat} {W M:List Int} (h:ra N.vars.length (rsJ N C K c W M)=false):N.rsp2 C K c W M=15∧N.rspR2 C K c W M=[]:=by
 have e:N.rsp2 C K c W M=15:=by unfold NSta.rsp2;rw [if_pos h]
 exact ⟨e,by unfold NSta.rspR2;rw [if_neg (by omega)]⟩
theorem mul_lt_pw {a b m n k:Nat} (h1:a<256^m) (h2:b<256^n) (hk:m+n=k):a*b<256^k:=by
 have h:=Nat.mul_lt_mul'' h1 h2;rwa [←Nat.pow_add,hk] at h
theorem nab_mul (c:Nat) (z:Int):((c:Int)*z).natAbs=c*z.natAbs:=by rw [Int.natAbs_mul,Int.natAbs_natCast]
theorem nab_add {a b:Int} {n:Nat} (h1:a.natAbs<256^n) (h2:b.natAbs<256^n) (hn:n<128):(a+b).natAbs<256^128:=by
 have h3:256^n*256≤256^128:=by rw [←Nat.pow_succ];exact Nat.pow_le_pow_right (by decide) (by omega)
 generalize (256:Nat)^n=x at *;generalize (256:Nat)^128=y at *;omega
theorem rsp_mod (q c:Nat) (m z:Int):(m+((((c:Int)*z)%(q:Int)).toNat:Int))%(q:Int)=(m+(c:Int)*z)%(q:Int)∨q=0:=by
 rcases Nat.eq_zero_or_pos q with h | h
 ·exact .inr h
 ·have hq:(q:Int)≠0:=by omega
  rw [Int.toNat_of_nonneg (Int.emod_nonneg _ hq),Int.add_emod_emod];exact .inl rfl
theorem blw_mod (q:Nat) (x:Int) (h:0<q):blw 0 (x%(q:Int)) q=true:=by
 have h1:=Int.emod_nonneg x (show (q:Int)≠0 by omega);have h2:=Int.emod_lt_of_pos x (show (0:Int)<q by omega);rw [blw_zero (by omega),sg_of_nonneg h1];rfl
end
section
open Go.RowKit Go.Shelf
structure Tp where
 vals:List ByteArray
 seed:ByteArray
 pos:Int
def numb (s:ByteArray):Nat:=val s.data.toList
theorem numb_E (n:Nat):numb (E n)=n:=val_E n
def Tp.good (T:Tp):Bool:=T.vals.all vldB&&(decide (0≤T.pos)&&decide (T.pos≤2147483647))
def Tp.nil:Tp:=⟨[],⟨#[]⟩,0⟩
def Tp.on (T:Tp) (k:Nat):Tp:=⟨T.vals,T.seed,T.pos+k⟩
theorem Tp.on_zero (T:Tp):T.on 0=T:=by cases T;simp [Tp.on]
theorem Tp.on_on (T:Tp) (a b:Nat):(T.on a).on b=T.on (a+b):=by simp [Tp.on];omega
abbrev Att:=ByteArray→Nat→Nat→Nat→Nat
def coinS (att:Att) (T:Tp) (n:Nat):Nat × Nat:=
 match (List.range 256).find? (fun a=>decide (att T.seed T.pos.toNat a (nb n)<n)) with
 | some a=>(0,att T.seed T.pos.toNat a (nb n))
 | none=>(14,0)
def coinD (att:Att) (T:Tp) (n:Nat):Nat × Nat:=
 if T.pos.toNat<T.vals.length then (if numb (T.vals.getD T.pos.toNat ⟨#[]⟩)<n then (0,numb (T.vals.getD T.pos.toNat ⟨#[]⟩)) else (2,0))
 else if T.seed.size=0∨T.pos=2147483647 then (14,0) else coinS att T n
def coin (att:Att) (T:Tp) (n:Nat):Nat × Nat:=if T.good=false then (3,0) else if n=0 then (11,0) else coinD att T n
def Tp.after (T:Tp) (e:Nat):Tp:=if e=0 then T.on 1 else Tp.nil
theorem coinD_val {att:Att} {T:Tp} {n x:Nat} (h:T.pos.toNat<T.vals.length) (hx:T.vals[T.pos.toNat]=E x) (hn:x<n):coinD att T n=(0,x):=by
 have e:numb (T.vals.getD T.pos.toNat ⟨#[]⟩)=x:=by rw [List.getD_eq_getElem?_getD,List.getElem?_eq_getElem h,Option.getD_some,hx,numb_E]
 unfold coinD;rw [if_pos h,e,if_pos hn]
theorem coinD_big {att:Att} {T:Tp} {n x:Nat} (h:T.pos.toNat<T.vals.length) (hx:T.vals[T.pos.toNat]=E x) (hn:n≤x):coinD att T n=(2,0):=by
 have e:numb (T.vals.getD T.pos.toNat ⟨#[]⟩)=x:=by rw [List.getD_eq_getElem?_getD,List.getElem?_eq_getElem h,Option.getD_some,hx,numb_E]
 unfold coinD;rw [if_pos h,e,if_neg (by omega)]
theorem coinD_no {att:Att} {T:Tp} {n:Nat} (h:T.vals.length≤T.pos.toNat) (hs:T.seed.size=0∨T.pos=2147483647):coinD att T n=(14,0):=by
 unfold coinD;rw [if_neg (by omega),if_pos hs]
theorem coinD_s {att:Att} {T:Tp} {n:Nat} (h:T.vals.length≤T.pos.toNat) (hs:T.seed.size≠0) (hp:T.pos≠2147483647):coinD att T n=coinS att T n:=by
 unfold coinD;rw [if_neg (by omega),if_neg (by omega)]
theorem find_range {p:Nat→Bool} {k n:Nat} (hk:k<n) (h:∀j,j<k→p j=false) (hp:p k=true):(List.range n).find? p=some k:=by
 rw [List.find?_range_eq_some];exact ⟨hp,List.mem_range.2 hk,fun j hj=>by rw [h j hj];rfl⟩
theorem coinS_at {att:Att} {T:Tp} {n a:Nat} (ha:a<256) (h:∀j,j<a→n≤att T.seed T.pos.toNat j (nb n)) (hx:att T.seed T.pos.toNat a (nb n)<n):coinS att T n=(0,att T.seed T.pos.toNat a (nb n)):=by
 unfold coinS;rw [find_range (p:=fun a=>decide (att T.seed T.pos.toNat a (nb n)<n)) ha (fun j hj=>decide_eq_false (by have:=h j hj;omega)) (decide_eq_true hx)]
theorem coinS_no {att:Att} {T:Tp} {n:Nat} (h:∀j,j<256→n≤att T.seed T.pos.toNat j (nb n)):coinS att T n=(14,0):=by
 unfold coinS;rw [List.find?_eq_none.2 (fun j hj=>by have:=h j (List.mem_range.1 hj);simp;omega)]
theorem coinD_lt {att:Att} {T:Tp} {n:Nat} (h:(coinD att T n).1=0):(coinD att T n).2<n:=by
 unfold coinD coinS at *;split at h
 ·split at h
  ·rename_i h1 h2;rw [if_pos h1,if_pos h2];exact h2
  ·simp at h
 ·rename_i h1;split at h
  ·simp at h
  ·rename_i h2;rw [if_neg h1,if_neg h2];split at h
   ·rename_i a ha;have:=List.find?_some ha;simpa using this
   ·simp at h
def Tp.rdy (T:Tp) (n:Nat):Nat:=if T.good=false then 3 else if n=0 then 11 else 0
def csgn (att:Att) (T:Tp) (m:Nat):Nat × Int:=
 if T.rdy m≠0 then (T.rdy m,0) else if (coinD att T (2*m-1)).1=0 then (0,((coinD att T (2*m-1)).2:Int)-((m-1:Nat):Int)) else ((coinD att T (2*m-1)).1,0)
def TAt (w:World) (v:Value) (T:Tp):Prop:=∃u,v=.agg #[u,.string T.seed,.int .i64 T.pos]∧SsAt w u T.vals
theorem TAt.after {w w':World} {v:Value} {T:Tp} (h:TAt w v T) (hb:Below w.heap.size w w'):TAt w' v T:=by
 obtain ⟨u,h1,h2⟩:=h;exact ⟨u,h1,SsAt.after h2 hb⟩
structure Tp.Ok (T:Tp):Prop where
 n:T.vals.length≤100
 s:∀x∈T.vals,x.size≤100
 d:T.seed.size≤100
theorem Tp.Ok.on {T:Tp} (h:T.Ok) (k:Nat):(T.on k).Ok:=⟨h.n,h.s,h.d⟩
theorem Tp.nil_ok:Tp.nil.Ok:=⟨by show (0:Nat)≤100;omega,fun x hx=>(by cases hx),by show (0:Nat)≤100;omega⟩
theorem Tp.Ok.aft {T:Tp} (h:T.Ok) (e:Nat):(T.after e).Ok:=by
 unfold Tp.after;split
 ·exact h.on 1
 ·exact Tp.nil_ok
def drwJ (att:Att) (q C K b:Nat) (T:Tp):Nat × Int:=
 if b=0 then ((coin att T (lim q C K b).1).1,((coin att T (lim q C K b).1).2:Int)) else csgn att T (lim q C K b).1
def NSta.drw (N:NSta) (att:Att) (C K:Nat) (T:Tp) (j:Nat):Nat × Int:=drwJ att N.ord C K (N.vars.getD j 0) (T.on j)
def NSta.drwL (N:NSta) (att:Att) (C K:Nat) (T:Tp):List Int:=(List.range N.vars.length).map fun j=>(N.drw att C K T j).2
structure Drw where
 err:Nat
 msk:List Int
 tp:Tp
def NSta.drwR (N:NSta) (att:Att) (C K:Nat) (T:Tp):Drw:=
 match (List.range N.vars.length).find? (fun j=>(N.drw att C K T j).1 != 0) with
 | some j=>⟨(N.drw att C K T j).1,[],Tp.nil⟩
 | none=>⟨0,N.drwL att C K T,T.on N.vars.length⟩
theorem drw_bad {N:NSta} {att:Att} {C K:Nat} {T:Tp} {k:Nat} (hk:k<N.vars.length) (h:∀j,j<k→(N.drw att C K T j).1=0) (he:(N.drw att C K T k).1≠0):N.drwR att C K T=⟨(N.drw att C K T k).1,[],Tp.nil⟩:=by
 unfold NSta.drwR;rw [find_range (p:=fun j=>(N.drw att C K T j).1 != 0) hk (fun j hj=>by rw [h j hj];rfl) (bne_iff_ne.2 he)]
theorem drw_ok {N:NSta} {att:Att} {C K:Nat} {T:Tp} (h:∀j,j<N.vars.length→(N.drw att C K T j).1=0):N.drwR att C K T=⟨0,N.drwL att C K T,T.on N.vars.length⟩:=by
 unfold NSta.drwR;rw [List.find?_eq_none.2 (fun j hj=>by have:=h j (List.mem_range.1 hj);simp [this])]
theorem drw_step (N:NSta) (att:Att) (C K:Nat) (T:Tp) (k:Nat) (h:k<N.vars.length):(N.drwL att C K T).take (k+1)=(N.drwL att C K T).take k++[(N.drw att C K T k).2]:=by
 unfold NSta.drwL;rw [←List.map_take,List.take_succ_eq_append_getElem (by simpa using h),List.map_append,List.map_take];simp only [List.getElem_range,List.map_cons,List.map_nil]
theorem drw_at (N:NSta) (att:Att) (C K:Nat) (T:Tp) (k:Nat) (h:k<N.vars.length):N.drw att C K T k=drwJ att N.ord C K N.vars[k] (T.on k):=by
 unfold NSta.drw;rw [List.getD_eq_getElem?_getD,List.getElem?_eq_getElem h,Option.getD_some]
def NSta.prv (N:NSta) (att:Att) (C K c:Nat) (W:List Int):Nat→Tp→Drw
 | 0,_=>⟨15,[],Tp.nil⟩
 | f+1,T=>if (N.drwR att C K T).err≠0 then ⟨(N.drwR att C K T).err,[],Tp.nil⟩
  else if N.rsp2 C K c W (N.drwR att C K T).msk=0 then N.drwR att C K T else N.prv att C K c W f (N.drwR att C K T).tp
end
end Go.Proofs.YtdoacbdkbbpamaaGreatDoor
