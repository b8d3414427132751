/- Parts of a slice of openings. -/
import Derived.Test.YtdoacbdkbbpamaaGreatDoorWd24
import Derived.Test.YtdoacbdkbbpamaaGreatDoorVlp24
import Derived.Laws.Slices
set_option linter.unusedVariables false
set_option linter.unusedSimpArgs false
set_option maxRecDepth 100000
set_option maxHeartbeats 16000000
namespace Go.Proofs.YtdoacbdkbbpamaaGreatDoor
section
/- law 24's examples in numbers. -/
open Go.RowKit Go.Shelf
theorem tpX_good:tpX.good=true:=by
 show (true&&(decide (0≤(0:Int))&&decide ((0:Int)≤2147483647)))=true;decide
theorem tpX_ok:tpX.Ok:=⟨by show (0:Nat)≤100;omega,fun x hx=>(by cases hx),by show (1:Nat)≤100;omega⟩
theorem rgX (lo hi:Int) (x d o n:Nat) (hx:x<23) (hr:rdyE (E 47) (E 23) (E 4) (E 9) lo hi=(n,0)) (hn0:n≠0) (hd:dstE 23 lo hi x=(d,true)) (ho:(hi-lo).toNat-d=o) (hn:n+n≤6) :
  rgR attN (E 47) (E 23) (E 4) (E 9) lo hi false (E x) false (E 0) tpX=⟨0,prP attN 47 4 9 23 (dgs d n) tpX n++prP attN 47 4 9 23 (dgs o n) (tpX.on n) n,prO attN 23 (dgs d n) tpX n++prO attN 23 (dgs o n) (tpX.on n) n,tpX.on (n+n)⟩:=by
 have h128:(23:Nat)<256^128:=Nat.lt_of_lt_of_le (show 23<256^1 by decide) (Nat.pow_le_pow_right (by decide) (by decide))
 have hv:vlO ⟨false,E x,false,E 0⟩=true:=by
  show (ivB false (E x)&&ivB false (E 0))=true;rw [ivB_E x (by omega),ivB_E 0 (by omega)];rfl
 rw [rgR_E (by rw [hv,vl4_E (by decide) (by decide) (by decide) (by decide)];rfl) tpX_good (by rw [hr]),hr,hd,if_neg (by rw [decide_eq_false (show ¬ 23≤x by omega)];decide),if_neg hn0];have e:othE lo hi (d,true)=o:=by unfold othE;rw [if_pos rfl];exact ho
 rw [e]
 exact rgS_good (fun j hj=>prX_all j (by omega)) (fun j hj=>by
  have:=prX_all (n+j) (by omega);unfold prC at this ⊢;rwa [Tp.on_on])
theorem rdyX (lo hi:Int) (n:Nat) (h:widE lo hi=(n,0)):rdyE (E 47) (E 23) (E 4) (E 9) lo hi=(n,0):=by
 unfold rdyE;rw [pedV_E (by decide) (by decide) (by decide) (by decide),show pedE 47 23 4 9=0 by kernel_rfl,if_neg (by decide),if_neg (by rw [empty_E];decide),h]
def exP1:PrR:=rgR attN (E 47) (E 23) (E 4) (E 9) 3 8 false (E 5) false (E 0) tpX
def exP2:PrR:=rgR attN (E 47) (E 23) (E 4) (E 9) (-2) 1 false (E 22) false (E 0) tpX
theorem exP_val {T:Tp} {d o n:Nat} (M:List (Nat × Nat)) (hM:M=prO attN 23 (dgs d n) tpX n++prO attN 23 (dgs o n) (tpX.on n) n) (hn:n+n≤6) (hd:d<2^n) (ho:o<2^n):M.length=n+n∧valE ((M.take n).map nop)=(d,0)∧valE ((M.drop n).map nop)=(o,0):=by
 have h1:(prO attN 23 (dgs d n) tpX n).length=n:=prO_len2 _ _ _ _ _;have h2:(prO attN 23 (dgs o n) (tpX.on n) n).length=n:=prO_len2 _ _ _ _ _;rw [hM];refine ⟨by rw [List.length_append,h1,h2],?_,?_⟩
 ·rw [List.take_left' h1];exact valE_prO attN 23 d n tpX (by decide) (by omega) hd (fun j hj=>prX_all j (by omega))
 ·rw [List.drop_left' h1]
  exact valE_prO attN 23 o n (tpX.on n) (by decide) (by omega) ho (fun j hj=>by
   have:=prX_all (n+j) (by omega);unfold prC at this ⊢;rwa [Tp.on_on])
theorem exP1_ok:exP1.err=0∧exP1.ops.length=6∧valE ((exP1.ops.take 3).map nop)=(2,0)∧valE ((exP1.ops.drop 3).map nop)=(3,0):=by
 have h:=rgX 3 8 5 2 3 3 (by decide) (rdyX 3 8 3 (by kernel_rfl)) (by decide) (by kernel_rfl) (by kernel_rfl) (by decide);have h2:=exP_val (T:=tpX) (d:=2) (o:=3) (n:=3) _ rfl (by decide) (by decide) (by decide);unfold exP1;rw [h];exact ⟨rfl,h2⟩
theorem exP2_ok:exP2.err=0∧exP2.ops.length=4∧valE ((exP2.ops.take 2).map nop)=(1,0):=by
 have h:=rgX (-2) 1 22 1 2 2 (by decide) (rdyX (-2) 1 2 (by kernel_rfl)) (by decide) (by kernel_rfl) (by kernel_rfl) (by decide);have h2:=exP_val (T:=tpX) (d:=1) (o:=2) (n:=2) _ rfl (by decide) (by decide) (by decide);unfold exP2;rw [h];exact ⟨rfl,h2.1,h2.2.1⟩
theorem prO_size (att:Att) (q v n:Nat) (T:Tp) (hq:q<256^8) (hC:∀j,j<n→(prC att q T j).1=0):∀y∈(prO att q (dgs v n) T n).map nop,y.va.size≤100∧y.ra.size≤100:=by
 intro x hx;obtain ⟨y,hy,rfl⟩:=List.mem_map.1 hx;unfold prO at hy;obtain ⟨j,hj,rfl⟩:=List.mem_map.1 hy;have h1:=dgs_lt v n j;have h2:(prC att q T j).2<q:=coin_ltq (hC j (List.mem_range.1 hj));constructor
 ·exact Nat.le_trans ((E_size_le _ 1).2 (Nat.lt_of_lt_of_le h1 (by decide))) (by decide)
 ·exact Nat.le_trans ((E_size_le _ 8).2 (Nat.lt_trans h2 hq)) (by decide)
theorem exP_size (M:List (Nat × Nat)) (h:M=exP1.ops∨M=exP2.ops):∀y∈M.map nop,y.va.size≤100∧y.ra.size≤100:=by
 have hs:∀d o n,n+n≤6→∀y∈(prO attN 23 (dgs d n) tpX n++prO attN 23 (dgs o n) (tpX.on n) n).map nop,y.va.size≤100∧y.ra.size≤100:=by
  intro d o n hn y hy;rw [List.map_append,List.mem_append] at hy;rcases hy with hy | hy
  ·exact prO_size attN 23 d n tpX (by decide) (fun j hj=>prX_all j (by omega)) y hy
  ·exact prO_size attN 23 o n (tpX.on n) (by decide) (fun j hj=>by
    have:=prX_all (n+j) (by omega);unfold prC at this ⊢;rwa [Tp.on_on]) y hy
 rcases h with rfl | rfl
 ·have h:=rgX 3 8 5 2 3 3 (by decide) (rdyX 3 8 3 (by kernel_rfl)) (by decide) (by kernel_rfl) (by kernel_rfl) (by decide);unfold exP1;rw [h];exact hs 2 3 3 (by decide)
 ·have h:=rgX (-2) 1 22 1 2 2 (by decide) (rdyX (-2) 1 2 (by kernel_rfl)) (by decide) (by kernel_rfl) (by kernel_rfl) (by decide);unfold exP2;rw [h];exact hs 1 2 2 (by decide)
end
section
open Go.RowKit Go.Shelf
theorem addr_add (b o k:Nat):(⟨b,o,none⟩:Addr).add k=⟨b,o+k,none⟩:=by simp [Addr.add]
theorem RAt.take {α:Type} {Q:World→α→List Value→Prop} {size n c:Nat} {w:World} {ao:Option Addr} {l:List α} (h:RAt Q size w (.slice ao n c) l) (k c':Nat) (hk:k≤l.length):RAt Q size w (.slice ao k c') (l.take k):=by
 obtain ⟨ao',c2,hv,h⟩:=h;injection hv with e1 e2 e3
 subst e1;have hl:(l.take k).length=k:=by rw [List.length_take];omega
 refine ⟨ao,c',by rw [hl],?_⟩;rcases h with h | ⟨b,o,h1,h2,h3⟩
 ·exact .inl (by omega)
 ·refine .inr ⟨b,o,h1,h2,fun j hj=>?_⟩;obtain ⟨cs,h4,h5⟩:=h3 j (by omega);refine ⟨cs,?_,h5⟩;rw [List.getElem_take];exact h4
theorem RAt.drop {α:Type} {Q:World→α→List Value→Prop} {size n c:Nat} {w:World} {ao:Option Addr} {l:List α} (h:RAt Q size w (.slice ao n c) l) (k c':Nat) (hk:k≤l.length) (ao2:Option Addr) (ha:k<l.length→ao2=ao.map (·.add (k*size))):RAt Q size w (.slice ao2 (l.length-k) c') (l.drop k):=by
 obtain ⟨ao',c2,hv,h⟩:=h;injection hv with e1 e2 e3
 subst e1;have hl:(l.drop k).length=l.length-k:=List.length_drop;refine ⟨ao2,c',by rw [hl],?_⟩;by_cases hz:l.length-k=0
 ·exact .inl (by omega)
 rcases h with h | ⟨b,o,h1,h2,h3⟩
 ·omega
 ·refine .inr ⟨b,o+k*size,?_,h2,fun j hj=>?_⟩
  ·rw [ha (by omega),h1,Option.map_some,addr_add]
  ·obtain ⟨cs,h4,h5⟩:=h3 (k+j) (by omega);refine ⟨cs,?_,fun i hi=>?_⟩
   ·rw [List.getElem_drop];exact h4
   ·rw [←h5 i hi,Nat.add_mul,←Nat.add_assoc]
theorem slc_h (a:Option Addr) (n c k:Nat) (h:k≤c) (w:World):(Instr.slice 43 (.slice a n c) none (some (.int .i64 (k:Int))) none).run Tryz.prog w=.ok (.slice (if c=0 then a else a.map (·.add (0*4))) k c) w:=by
 have ht:Tryz.prog.underlying 43=some (.slice (Tryz.prog.elem 43)):=by kernel_rfl
 rw [run_slice_h w 43 a n c ht .i64 (k:Int) (by omega) (by omega)];simp [sliced,go_sem]
theorem slc_l (a:Option Addr) (n c k:Nat) (h:k≤n) (w:World):(Instr.slice 43 (.slice a n c) (some (.int .i64 (k:Int))) none none).run Tryz.prog w=.ok (.slice (if c=k then a else a.map (·.add (k*4))) (n-k) (c-k)) w:=by
 have ht:Tryz.prog.underlying 43=some (.slice (Tryz.prog.elem 43)):=by kernel_rfl
 rw [run_slice_l w 43 a n c ht .i64 (k:Int) (by omega) (by omega)];simp [sliced,go_sem]
theorem os_parts {w:World} {base:Nat} {v:Value} {M:List (Nat × Nat)} (h:OOwn w base v M) (k:Nat) (hk:k≤M.length) :
  ∃v1 v2:Value,(∀w':World,(Instr.slice 43 v none (some (.int .i64 (k:Int))) none).run Tryz.prog w'=.ok v1 w')∧(∀w':World,(Instr.slice 43 v (some (.int .i64 (k:Int))) none none).run Tryz.prog w'=.ok v2 w')∧OsAt w v1 ((M.take k).map nop)∧OsAt w v2 ((M.drop k).map nop):=by
 have hO:=OOwn.os h;have hlm:(M.map nop).length=M.length:=List.length_map ..;rw [List.map_take,List.map_drop];rcases h.2 with ⟨rfl,h2⟩ | ⟨g,cap,cur,rfl,_,_,hc,_⟩
 ·have hk0:k=0:=by omega
  subst hk0;refine ⟨_,_,fun w'=>slc_h none 0 0 0 (Nat.le_refl _) w',fun w'=>slc_l none 0 0 0 (Nat.le_refl _) w',?_,?_⟩
  ·exact RAt.take hO 0 _ (Nat.zero_le _)
  ·have h5:=RAt.drop hO 0 (0-0) (Nat.zero_le _) none (fun h=>by omega);rw [hlm,h2] at h5;exact h5
 ·refine ⟨_,_,fun w'=>slc_h _ _ _ _ (by omega) w',fun w'=>slc_l _ _ _ _ hk w',?_,?_⟩
  ·have h5:=RAt.take hO k cap (by omega);split
   ·exact h5
   ·rw [Option.map_some,addr_add];exact h5
  ·have h5:=RAt.drop hO k (cap-k) (by omega) (if cap=k then some ⟨g,0,none⟩ else (some ⟨g,0,none⟩:Option Addr).map (·.add (k*4))) (fun h=>by rw [if_neg (by omega)]);rw [hlm] at h5;exact h5
end
end Go.Proofs.YtdoacbdkbbpamaaGreatDoor
