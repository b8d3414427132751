/- The searches of foursquares find what there is. Plain Lean. -/
import Derived.Test.YtdoacbdkbbpamaaGreatDoorHol
import Derived.Test.YtdoacbdkbbpamaaGreatDoorLag
set_option linter.unusedVariables false
set_option linter.unusedSimpArgs false
set_option maxRecDepth 100000
set_option maxHeartbeats 16000000
namespace Go.Proofs.YtdoacbdkbbpamaaGreatDoor
section
open Go.RowKit Go.Shelf
theorem ss_nil (w:World):SsAt w (.slice none 0 0) []:=⟨none,0,rfl,.inl rfl⟩
def FarS (u:Value) (g:Nat):Prop:=∀b o n c,u=.slice (some ⟨b,o,none⟩) n c→n≠0→b≠g
def TFar (t:Value) (g:Nat):Prop:=∀u x y,t=.agg #[u,x,y]→∀b,b<g→FarS u b
theorem TFar.zero (g:Nat) (x y:Value):TFar (.agg #[.slice none 0 0,x,y]) g:=fun u x' y' h b hb b' o n c e _=>by
 injection h with h
 have h:=congrArg (fun a=>a[0]?) h;simp at h;subst h;cases e
theorem TFar.of {u x y:Value} {g:Nat} (hf:∀b,b<g→FarS u b):TFar (.agg #[u,x,y]) g:=fun u' x' y' h b hb=>by
 injection h with h
 have h:=congrArg (fun a=>a[0]?) h;simp at h;subst h;exact hf b hb
theorem SsAt.app {w:World} {base cap g:Nat} {V:List ByteArray} (h:w.ownsRow base 31 1 (.slice (some ⟨g,0,none⟩) V.length cap) V.length (V.map .string)):SsAt w (.slice (some ⟨g,0,none⟩) V.length cap) V:=by
 refine ⟨_,_,rfl,?_⟩;by_cases h0:V.length=0
 ·exact .inl h0
 ·refine .inr ⟨g,0,rfl,(own_cap h).1,fun j hj=>⟨[.string V[j]],rfl,fun i hi=>?_⟩⟩;obtain rfl:i=0:=by omega
  have:=own_cellS h j (.string V[j]) (by simp [hj]);simpa using this
theorem SsAt.set_other {w:World} {g n c g2 i:Nat} {x:Value} {V:List ByteArray} (h:SsAt w (.slice (some ⟨g,0,none⟩) n c) V) (hne:g≠g2):SsAt (w.setCell ⟨g2,i,none⟩ x) (.slice (some ⟨g,0,none⟩) n c) V:=by
 obtain ⟨ao,c',e,h⟩:=h;refine ⟨ao,c',e,?_⟩;rcases h with h | ⟨b,o,h1,h2,h3⟩
 ·exact .inl h
 ·subst h1;injection e with e1 e2 e3
  injection e1 with e1
  injection e1 with e4 e5 e6
  refine .inr ⟨b,o,rfl,by simpa using h2,fun j hj=>?_⟩;obtain ⟨cs,hq,hc⟩:=h3 j hj;refine ⟨cs,hq,fun i2 hi=>?_⟩;rw [←hc i2 hi];exact World.cell?_of_block (heap_setCell_other w ⟨g2,i,none⟩ b x (fun e=>hne (by rw [e4];exact e)))
theorem SsAt.set_far {w:World} {g i:Nat} {v x:Value} {V:List ByteArray} (h:SsAt w v V) (hf:FarS v g):SsAt (w.setCell ⟨g,i,none⟩ x) v V:=by
 obtain ⟨ao,c',rfl,h⟩:=h;refine ⟨ao,c',rfl,?_⟩;by_cases h0:V.length=0
 ·exact .inl h0
 rcases h with h | ⟨b,o,rfl,h2,h3⟩
 ·exact .inl h
 ·refine .inr ⟨b,o,rfl,by simpa using h2,fun j hj=>?_⟩;obtain ⟨cs,hq,hc⟩:=h3 j hj;refine ⟨cs,hq,fun i2 hi=>?_⟩;rw [←hc i2 hi];exact World.cell?_of_block (heap_setCell_other w ⟨g,i,none⟩ b x (fun e=>hf _ _ _ _ rfl h0 e))
theorem SsAt.grown {w w':World} {row:Option Nat} {v:Value} {V:List ByteArray} (h:SsAt w v V) (hg:w.grownBy w' row) (hf:∀g,row=some g→FarS v g):SsAt w' v V:=by
 obtain ⟨ao,c',rfl,h⟩:=h;refine ⟨ao,c',rfl,?_⟩;by_cases h0:V.length=0
 ·exact .inl h0
 rcases h with h | ⟨b,o,rfl,h2,h3⟩
 ·exact .inl h
 ·refine .inr ⟨b,o,rfl,Nat.lt_of_lt_of_le h2 hg.size,fun j hj=>?_⟩;obtain ⟨cs,hq,hc⟩:=h3 j hj;refine ⟨cs,hq,fun i hi=>?_⟩;rw [←hc i hi];exact World.cell?_of_block (hg.block b h2 (fun e=>hf b e.symm _ _ _ _ rfl h0 rfl))
theorem blk5 (w:World) (A B C D F:Array Value) (TA TB TC TD TF:TypeId) :
  Blk (((((w.alloc (.cells A TA)).alloc (.cells B TB)).alloc (.cells C TC)).alloc (.cells D TD)).alloc (.cells F TF)) w.heap.size TA A.toList ∧
  Blk (((((w.alloc (.cells A TA)).alloc (.cells B TB)).alloc (.cells C TC)).alloc (.cells D TD)).alloc (.cells F TF)) (w.heap.size+1) TB B.toList ∧
  Blk (((((w.alloc (.cells A TA)).alloc (.cells B TB)).alloc (.cells C TC)).alloc (.cells D TD)).alloc (.cells F TF)) (w.heap.size+1+1) TC C.toList ∧
  Blk (((((w.alloc (.cells A TA)).alloc (.cells B TB)).alloc (.cells C TC)).alloc (.cells D TD)).alloc (.cells F TF)) (w.heap.size+1+1+1) TD D.toList ∧
  Blk (((((w.alloc (.cells A TA)).alloc (.cells B TB)).alloc (.cells C TC)).alloc (.cells D TD)).alloc (.cells F TF)) (w.heap.size+1+1+1+1) TF F.toList ∧
  Below w.heap.size w (((((w.alloc (.cells A TA)).alloc (.cells B TB)).alloc (.cells C TC)).alloc (.cells D TD)).alloc (.cells F TF)):=by
 refine ⟨((((Blk.new w A TA).alloc _).alloc _).alloc _).alloc _,(((blkN (by simp)).alloc _).alloc _).alloc _,((blkN (by simp)).alloc _).alloc _,(blkN (by simp)).alloc _,blkN (by simp),ba (ba (b3 w _ _ _) _) _⟩
theorem IsAt.set_far {w:World} {g i:Nat} {v x:Value} {V:List (Bool × ByteArray)} (h:IsAt w v V) (hf:FarS v g):IsAt (w.setCell ⟨g,i,none⟩ x) v V:=by
 obtain ⟨ao,c',rfl,h⟩:=h;refine ⟨ao,c',rfl,?_⟩;by_cases h0:V.length=0
 ·exact .inl h0
 rcases h with h | ⟨b,o,rfl,h2,h3⟩
 ·exact .inl h
 ·refine .inr ⟨b,o,rfl,by simpa using h2,fun j hj=>?_⟩;obtain ⟨cs,hq,hc⟩:=h3 j hj;refine ⟨cs,hq,fun i2 hi=>?_⟩;rw [←hc i2 hi];exact World.cell?_of_block (heap_setCell_other w ⟨g,i,none⟩ b x (fun e=>hf _ _ _ _ rfl h0 e))
end
section
open Go.RowKit Go.Shelf
theorem rt_sq (b:Nat):rt (b*b)=b:=(rt_uniq (Nat.le_refl _) (by
 have:(b+1)*(b+1)=b*b+2*b+1:=by grind
 omega)).symm
theorem le_rt {a n:Nat} (h:a*a≤n):a≤rt n:=by
 apply Classical.byContradiction
 intro h1;have h2:=Nat.mul_le_mul (show rt n+1≤a by omega) (show rt n+1≤a by omega);have:=(rt_spec n).2;omega
theorem twoF_sound {n a b:Nat}:∀{x:Nat},x*x≤n→twoF n x=some (a,b)→n=a*a+b*b
 | 0,_,h=>by
  rw [twoF] at h;split at h
  ·cases h
  ·cases h;omega
 | x+1,hx,h=>by
  rw [twoF] at h;split at h
  ·cases h
  ·split at h
   ·rename_i h2;cases h
    have h3:=h2.1;omega
   ·exact twoF_sound (Nat.le_trans (Nat.mul_le_mul (by omega) (by omega)) hx) h
theorem min_sq (d x:Nat):min (rt d) x*min (rt d) x≤d:=Nat.le_trans (Nat.mul_le_mul (by omega) (by omega)) (rt_spec d).1
theorem threeF_sound {n a b c:Nat}:∀{x:Nat},x*x≤n→threeF n x=some (a,b,c)→n=a*a+b*b+c*c
 | 0,_,h=>by
  rw [threeF] at h;split at h
  ·cases h
  ·cases h;omega
 | x+1,hx,h=>by
  rw [threeF] at h;split at h
  ·cases h
  ·split at h
   ·rename_i y z h2;cases h
    have h3:=twoF_sound (min_sq _ _) h2;omega
   ·exact threeF_sound (Nat.le_trans (Nat.mul_le_mul (by omega) (by omega)) hx) h
theorem fourF_sound {n a b c d:Nat}:∀{x:Nat},x*x≤n→fourF n x=some (a,b,c,d)→n=a*a+b*b+c*c+d*d
 | 0,_,h=>by
  rw [fourF] at h;split at h
  ·split at h
   ·rename_i y z t h2;cases h
    have h3:=threeF_sound (x:=0) (by omega) h2;omega
   ·cases h
  ·cases h
 | x+1,hx,h=>by
  rw [fourF] at h;have hx2:x*x≤n:=Nat.le_trans (Nat.mul_le_mul (by omega) (by omega)) hx;split at h
  ·split at h
   ·rename_i y z t h2;cases h
    have h3:=threeF_sound (min_sq _ _) h2;omega
   ·exact fourF_sound hx2 h
  ·exact fourF_sound hx2 h
theorem twoF_complete {n a b:Nat} (hn:n=a*a+b*b) (hb:b≤a):∀{x:Nat},a≤x→twoF n x≠none
 | 0,h=>by
  have ha:a=0:=by omega
  have hb:b=0:=by omega
  rw [ha,hb] at hn;rw [twoF,if_neg (by omega)];simp
 | x+1,h=>by
  have h1:=Nat.mul_le_mul h h;have h2:=Nat.mul_le_mul hb hb;have h3:2*(x+1)*(x+1)=2*((x+1)*(x+1)):=Nat.mul_assoc _ _ _;rw [twoF,if_neg (by omega)];split
  ·simp
  ·rename_i hno;by_cases he:a=x+1
   ·rw [←he] at hno;have h4:n-a*a=b*b:=by omega
    rw [h4,rt_sq] at hno;exact absurd ⟨rfl,hb⟩ hno
   ·exact twoF_complete hn hb (by omega)
theorem threeF_complete {n a b c:Nat} (hn:n=a*a+b*b+c*c) (hb:b≤a) (hc:c≤b):∀{x:Nat},a≤x→threeF n x≠none
 | 0,h=>by
  have ha:a=0:=by omega
  have hb:b=0:=by omega
  have hc:c=0:=by omega
  rw [ha,hb,hc] at hn;rw [threeF,if_neg (by omega)];simp
 | x+1,h=>by
  have h1:=Nat.mul_le_mul h h;have h2:=Nat.mul_le_mul hb hb;have h3:=Nat.mul_le_mul hc hc;have h4:3*(x+1)*(x+1)=3*((x+1)*(x+1)):=Nat.mul_assoc _ _ _;rw [threeF,if_neg (by omega)];split
  ·simp
  ·rename_i hno;by_cases he:a=x+1
   ·rw [←he] at hno;have h5:n-a*a=b*b+c*c:=by omega
    rw [h5] at hno;have h6:=le_rt (show b*b≤b*b+c*c by omega);exact absurd hno (twoF_complete rfl hc (by omega))
   ·exact threeF_complete hn hb hc (by omega)
theorem sq_mod8 (a:Nat):a*a%8=0∨a*a%8=1∨a*a%8=4:=by
 have:a%8=0∨a%8=1∨a%8=2∨a%8=3∨a%8=4∨a%8=5∨a%8=6∨a%8=7:=by omega
 rw [Nat.mul_mod];rcases this with h | h | h | h | h | h | h | h <;> rw [h] <;> simp
theorem sq_mod4 (a:Nat):(a%2=0∧a*a=4*(a / 2*(a / 2)))∨(a%2=1∧a*a%4=1):=by
 by_cases h:a%2=0
 ·left
  obtain ⟨k,hk⟩:∃k,k=a / 2:=⟨_,rfl⟩;have:a=2*k:=by omega
  rw [←hk];refine ⟨h,?_⟩;rw [this];grind
 ·right
  obtain ⟨k,hk⟩:∃k,a=2*k+1:=⟨a / 2,by omega⟩;refine ⟨by omega,?_⟩;have:a*a=4*(k*k+k)+1:=by rw [hk];grind
  omega
theorem sevF_three:∀(k:Nat) {n a b c:Nat},n=a*a+b*b+c*c→sevF k n=false
 | 0,n,a,b,c,h=>by
  have h1:=sq_mod8 a;have h2:=sq_mod8 b;have h3:=sq_mod8 c;rw [sevF,beq_eq_false_iff_ne];omega
 | k+1,n,a,b,c,h=>by
  have h1:=sq_mod8 a;have h2:=sq_mod8 b;have h3:=sq_mod8 c;rw [sevF];split
  ·rename_i h4;have g1:=sq_mod4 a;have g2:=sq_mod4 b;have g3:=sq_mod4 c;exact sevF_three k (a:=a / 2) (b:=b / 2) (c:=c / 2) (by omega)
  ·rw [beq_eq_false_iff_ne];omega
theorem fourF_complete {n a b c d:Nat} (hn:n=a*a+b*b+c*c+d*d) (hb:b≤a) (hc:c≤b) (hd:d≤c):∀{x:Nat},a≤x→fourF n x≠none:=by
 intro x;induction x with
 | zero =>
  intro h;have ha:a=0:=by omega
  have hb:b=0:=by omega
  have hc:c=0:=by omega
  have hd:d=0:=by omega
  rw [ha,hb,hc,hd] at hn;rw [hn];decide
 | succ x ih =>
  intro h;rw [fourF];by_cases he:a=x+1
  ·have h5:n-a*a=b*b+c*c+d*d:=by omega
   have h6:=le_rt (show b*b≤b*b+c*c+d*d by omega);rw [←he,h5,if_pos (sevF_three 16 rfl)];have h7:=threeF_complete (n:=b*b+c*c+d*d) rfl hc hd (show b≤min (rt (b*b+c*c+d*d)) a by omega);split
   ·simp
   ·rename_i hno;exact absurd hno h7
  ·have h8:=ih (by omega);split
   ·split
    ·simp
    ·exact h8
   ·exact h8
theorem ins4 {n a b c d:Nat} (hn:n=a*a+b*b+c*c+d*d):∃a b c d:Nat,n=a*a+b*b+c*c+d*d∧b≤a∧c≤b∧d≤c:=by
 rcases Nat.le_total a b with h1 | h1 <;> rcases Nat.le_total c d with h2 | h2 <;> rcases Nat.le_total a c with h3 | h3 <;> rcases Nat.le_total a d with h4 | h4 <;> rcases Nat.le_total b c with h5 | h5 <;> rcases Nat.le_total b d with h6 | h6 <;>
 first
  | exact ⟨a,b,c,d,by omega,by omega,by omega,by omega⟩
  | exact ⟨a,b,d,c,by omega,by omega,by omega,by omega⟩
  | exact ⟨a,c,b,d,by omega,by omega,by omega,by omega⟩
  | exact ⟨a,c,d,b,by omega,by omega,by omega,by omega⟩
  | exact ⟨a,d,b,c,by omega,by omega,by omega,by omega⟩
  | exact ⟨a,d,c,b,by omega,by omega,by omega,by omega⟩
  | exact ⟨b,a,c,d,by omega,by omega,by omega,by omega⟩
  | exact ⟨b,a,d,c,by omega,by omega,by omega,by omega⟩
  | exact ⟨b,c,a,d,by omega,by omega,by omega,by omega⟩
  | exact ⟨b,c,d,a,by omega,by omega,by omega,by omega⟩
  | exact ⟨b,d,a,c,by omega,by omega,by omega,by omega⟩
  | exact ⟨b,d,c,a,by omega,by omega,by omega,by omega⟩
  | exact ⟨c,a,b,d,by omega,by omega,by omega,by omega⟩
  | exact ⟨c,a,d,b,by omega,by omega,by omega,by omega⟩
  | exact ⟨c,b,a,d,by omega,by omega,by omega,by omega⟩
  | exact ⟨c,b,d,a,by omega,by omega,by omega,by omega⟩
  | exact ⟨c,d,a,b,by omega,by omega,by omega,by omega⟩
  | exact ⟨c,d,b,a,by omega,by omega,by omega,by omega⟩
  | exact ⟨d,a,b,c,by omega,by omega,by omega,by omega⟩
  | exact ⟨d,a,c,b,by omega,by omega,by omega,by omega⟩
  | exact ⟨d,b,a,c,by omega,by omega,by omega,by omega⟩
  | exact ⟨d,b,c,a,by omega,by omega,by omega,by omega⟩
  | exact ⟨d,c,a,b,by omega,by omega,by omega,by omega⟩
  | exact ⟨d,c,b,a,by omega,by omega,by omega,by omega⟩
theorem lagrangeN (n:Nat):∃a b c d:Nat,n=a*a+b*b+c*c+d*d:=by
 obtain ⟨a,b,c,d,h⟩:=Lag.lagrange n;refine ⟨a.natAbs,b.natAbs,c.natAbs,d.natAbs,?_⟩
 have:(n:Int)=((a.natAbs*a.natAbs+b.natAbs*b.natAbs+c.natAbs*c.natAbs+d.natAbs*d.natAbs:Nat):Int):=by
  simp only [Int.natCast_add,Int.natAbs_mul_self];exact h
 exact Int.ofNat_inj.1 this
theorem fourF_some (n:Nat):fourF n (rt n)≠none:=by
 obtain ⟨a,b,c,d,h⟩:=lagrangeN n;obtain ⟨a,b,c,d,h,hb,hc,hd⟩:=ins4 h;exact fourF_complete h hb hc hd (le_rt (by omega))
theorem fourF_spec (n:Nat):∃a b c d:Nat,fourF n (rt n)=some (a,b,c,d)∧n=a*a+b*b+c*c+d*d:=by
 cases h:fourF n (rt n) with
 | none=>exact absurd h (fourF_some n)
 | some q =>
  obtain ⟨a,b,c,d⟩:=q;exact ⟨a,b,c,d,rfl,fourF_sound (rt_spec n).1 h⟩
end
end Go.Proofs.YtdoacbdkbbpamaaGreatDoor
