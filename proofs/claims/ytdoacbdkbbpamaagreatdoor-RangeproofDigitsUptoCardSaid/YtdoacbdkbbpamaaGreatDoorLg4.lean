/- The searches of foursquares find what there is. Plain Lean. -/
import Derived.Test.YtdoacbdkbbpamaaGreatDoorFs5
section
/- Lagrange's theorem: each number is a sum of four squares. Plain Lean. -/
set_option linter.unusedVariables false
set_option linter.unusedSimpArgs false
namespace Go.Proofs.YtdoacbdkbbpamaaGreatDoor.Lag
theorem pigeon:∀(n:Nat) (l:List Nat),l.Nodup→(∀x∈l,x<n)→l.length≤n
 | 0,l,_,h=>by
  cases l with
  | nil=>simp
  | cons a t=>have:=h a (by simp);omega
 | n+1,l,hd,h=>by
  by_cases hm:n∈l
  ·have h1:=List.length_erase_of_mem hm
   have h2:=pigeon n (l.erase n) (hd.erase n) (by
    intro x hx;have h3:=(hd.mem_erase_iff).1 hx;have:=h x h3.2;have:=h3.1;omega)
   omega
  ·have:=pigeon n l hd (by
    intro x hx;have:=h x hx;have:x≠n:=fun e=>hm (e ▸ hx)
    omega)
   omega

def Pr (p:Nat):Prop:=1<p∧∀d,d∣p→d=1∨d=p
theorem Pr.euclid {p a b:Nat} (hp:Pr p) (h:p∣a*b):p∣a∨p∣b:=by
 rcases hp.2 (Nat.gcd p a) (Nat.gcd_dvd_left p a) with h1 | h1
 ·right
  exact Nat.Coprime.dvd_of_dvd_mul_left (m:=a) h1 h
 ·left
  rw [←h1];exact Nat.gcd_dvd_right p a

theorem sq_inj {p h x y:Nat} (hp:Pr p) (h2:p=2*h+1) (hx:x<y) (hy:y≤h):x*x%p≠y*y%p:=by
 intro e
 have h3:p∣y*y-x*x:=by
  have h4:=Nat.mul_le_mul (show x≤y by omega) (show x≤y by omega);exact Nat.dvd_of_mod_eq_zero (Nat.sub_mod_eq_zero_of_mod_eq e.symm)
 have h5:y*y-x*x=(y-x)*(y+x):=by
  obtain ⟨k,rfl⟩:∃k,y=x+k:=⟨y-x,by omega⟩;have:(x+k)*(x+k)=x*x+k*(x+k+x):=by grind
  rw [this];have:x+k-x=k:=by omega
  rw [this];omega
 rw [h5] at h3;rcases hp.euclid h3 with h6 | h6
 ·have:=Nat.le_of_dvd (by omega) h6;omega
 ·have:=Nat.le_of_dvd (by omega) h6;omega

theorem start {p h:Nat} (hp:Pr p) (h2:p=2*h+1):∃a b,a≤h∧b≤h∧p∣a*a+b*b+1:=by
 apply Classical.byContradiction
 intro hn;have hpp:=hp.1
 have h3:=pigeon p ((List.range (h+1)).map (fun x=>x*x%p)++(List.range (h+1)).map (fun y=>p-1-y*y%p)) (by
  rw [List.nodup_append];refine ⟨?_,?_,?_⟩
  ·rw [List.Nodup,List.pairwise_map];refine List.Pairwise.imp_of_mem ?_ List.pairwise_lt_range;intro x y hx hy hxy;rw [List.mem_range] at hx hy;exact sq_inj hp h2 hxy (by omega)
  ·rw [List.Nodup,List.pairwise_map];refine List.Pairwise.imp_of_mem ?_ List.pairwise_lt_range;intro x y hx hy hxy;rw [List.mem_range] at hx hy;have h4:=sq_inj hp h2 hxy (by omega);have h5:=Nat.mod_lt (x*x) (show 0<p by omega);have h6:=Nat.mod_lt (y*y) (show 0<p by omega);omega
  ·intro a ha b hb hab;rw [List.mem_map] at ha hb;obtain ⟨x,hx,rfl⟩:=ha;obtain ⟨y,hy,rfl⟩:=hb;rw [List.mem_range] at hx hy;apply hn
   refine ⟨x,y,by omega,by omega,?_⟩;have h6:=Nat.mod_lt (y*y) (show 0<p by omega);have h7:x*x%p+y*y%p+1=p:=by omega
   have h8:=Nat.div_add_mod (x*x) p;have h9:=Nat.div_add_mod (y*y) p;exact ⟨x*x / p+y*y / p+1,by rw [Nat.mul_add,Nat.mul_add];omega⟩) (by
  intro x hx;rw [List.mem_append,List.mem_map,List.mem_map] at hx;rcases hx with ⟨y,_,rfl⟩ | ⟨y,_,rfl⟩
  ·exact Nat.mod_lt _ (by omega)
  ·omega)
 simp at h3;omega

end Go.Proofs.YtdoacbdkbbpamaaGreatDoor.Lag
end

section
set_option linter.unusedVariables false
set_option linter.unusedSimpArgs false
namespace Go.Proofs.YtdoacbdkbbpamaaGreatDoor
open Go.RowKit Go.Shelf

end Go.Proofs.YtdoacbdkbbpamaaGreatDoor
end
