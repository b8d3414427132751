/- dominoref15.Holds for numbers. -/
import Derived.Test.YteahlbhjhjhljaaGreatDoorFs4
import Derived.Test.YteahlbhjhjhljaaGreatDoorCo2
section
/- Lagrange's theorem: each number is a sum of four squares. Plain Lean. -/
set_option linter.unusedVariables false
set_option linter.unusedSimpArgs false
namespace Go.Proofs.YteahlbhjhjhljaaGreatDoor.Lag
def S4 (n:Int):Prop:=∃a b c d:Int,n=a*a+b*b+c*c+d*d

theorem S4.mul {m n:Int} (h1:S4 m) (h2:S4 n):S4 (m*n):=by
 obtain ⟨a,b,c,d,rfl⟩:=h1;obtain ⟨x,y,z,w,rfl⟩:=h2;exact ⟨a*x+b*y+c*z+d*w,a*y-b*x+c*w-d*z,a*z-c*x+d*y-b*w,a*w-d*x+b*z-c*y,by grind⟩

theorem S4.descend {p m:Int} (hm:1<m) (hpr:¬ m∣p) (h:S4 (m*p)):∃r,1≤r∧r<m∧S4 (r*p):=by
 obtain ⟨a,b,c,d,h⟩:=h
 have key:∀x:Int,∃k y,x=y+m*k∧-m≤2*y∧2*y≤m:=by
  intro x;refine ⟨(x+m / 2) / m,x-m*((x+m / 2) / m),by omega,?_,?_⟩
  ·have h1:=Int.emod_add_mul_ediv (x+m / 2) m;have h2:=Int.emod_nonneg (x+m / 2) (show m≠0 by omega);omega
  ·have h1:=Int.emod_add_mul_ediv (x+m / 2) m;have h2:=Int.emod_lt_of_pos (x+m / 2) (show 0<m by omega);omega
 obtain ⟨ka,ya,ha,ha1,ha2⟩:=key a;obtain ⟨kb,yb,hb,hb1,hb2⟩:=key b;obtain ⟨kc,yc,hc,hc1,hc2⟩:=key c;obtain ⟨kd,yd,hd,hd1,hd2⟩:=key d
 have sq:∀y:Int,-m≤2*y→2*y≤m→0≤y*y∧4*(y*y)≤m*m∧(4*(y*y)=m*m→(2*y=m∨2*y=-m)):=by
  intro y h1 h2;have h3:0≤(m-2*y)*(m+2*y):=Int.mul_nonneg (by omega) (by omega);have h4:(m-2*y)*(m+2*y)=m*m-4*(y*y):=by grind
  refine ⟨?_,by omega,?_⟩
  ·rcases Int.le_total 0 y with h | h
   ·exact Int.mul_nonneg h h
   ·have:=Int.mul_nonneg (show 0≤-y by omega) (show 0≤-y by omega);rwa [Int.neg_mul_neg] at this
  ·intro h5;have h6:(m-2*y)*(m+2*y)=0:=by omega
   rcases Int.mul_eq_zero.1 h6 with h | h <;> omega
 have sa:=sq ya ha1 ha2;have sb:=sq yb hb1 hb2;have sc:=sq yc hc1 hc2;have sd:=sq yd hd1 hd2
 obtain ⟨r,hr⟩:∃r,ya*ya+yb*yb+yc*yc+yd*yd=m*r:=by
  refine ⟨p-(2*ya*ka+m*ka*ka+2*yb*kb+m*kb*kb+2*yc*kc+m*kc*kc+2*yd*kd+m*kd*kd),?_⟩;subst ha hb hc hd;grind
 have hm0:0<m:=by omega
 have hr0:0≤r:=by
  apply Classical.byContradiction
  intro hn;have:=Int.mul_lt_mul_of_pos_left (show r<0 by omega) hm0;omega
 have hrm:r≤m:=by
  apply Classical.byContradiction
  intro hn;have:=Int.mul_lt_mul_of_pos_left (show m<r by omega) hm0;omega
 have hrz:r≠0:=by
  intro h0;rw [h0,Int.mul_zero] at hr
  have e1:ya=0:=by
              have:ya*ya=0:=by omega
              rcases Int.mul_eq_zero.1 this with h | h <;> exact h
  have e2:yb=0:=by
              have:yb*yb=0:=by omega
              rcases Int.mul_eq_zero.1 this with h | h <;> exact h
  have e3:yc=0:=by
              have:yc*yc=0:=by omega
              rcases Int.mul_eq_zero.1 this with h | h <;> exact h
  have e4:yd=0:=by
              have:yd*yd=0:=by omega
              rcases Int.mul_eq_zero.1 this with h | h <;> exact h
  subst e1 e2 e3 e4;apply hpr
  refine ⟨ka*ka+kb*kb+kc*kc+kd*kd,?_⟩;have:m*p=m*(m*(ka*ka+kb*kb+kc*kc+kd*kd)):=by rw [h,ha,hb,hc,hd];grind
  exact Int.eq_of_mul_eq_mul_left (by omega) this
 have hrn:r≠m:=by
  intro h0;rw [h0] at hr;have f1:=sa.2.2 (by omega);have f2:=sb.2.2 (by omega);have f3:=sc.2.2 (by omega);have f4:=sd.2.2 (by omega)
  have hev:∀y k:Int,(2*y=m∨2*y=-m)→∃t,(y+m*k)*(y+m*k)=y*y+m*m*t:=by
   intro y k h;rcases h with h | h
   ·exact ⟨k+k*k,by grind⟩
   ·exact ⟨-k+k*k,by grind⟩
  obtain ⟨t1,g1⟩:=hev ya ka f1;obtain ⟨t2,g2⟩:=hev yb kb f2;obtain ⟨t3,g3⟩:=hev yc kc f3;obtain ⟨t4,g4⟩:=hev yd kd f4;apply hpr
  refine ⟨1+t1+t2+t3+t4,?_⟩;have:m*p=m*(m*(1+t1+t2+t3+t4)):=by rw [h,ha,hb,hc,hd,g1,g2,g3,g4];grind
  exact Int.eq_of_mul_eq_mul_left (by omega) this
 refine ⟨r,by omega,by omega,?_⟩;-- the product,divided by m twice
 refine ⟨ya*ka+yb*kb+yc*kc+yd*kd+r,ka*yb-kb*ya+kc*yd-kd*yc,ka*yc-kc*ya+kd*yb-kb*yd,ka*yd-kd*ya+kb*yc-kc*yb,?_⟩
 have:m*m*(r*p)=m*m*((ya*ka+yb*kb+yc*kc+yd*kd+r)*(ya*ka+yb*kb+yc*kc+yd*kd+r)+(ka*yb-kb*ya+kc*yd-kd*yc)*(ka*yb-kb*ya+kc*yd-kd*yc)+(ka*yc-kc*ya+kd*yb-kb*yd)*(ka*yc-kc*ya+kd*yb-kb*yd)+(ka*yd-kd*ya+kb*yc-kc*yb)*(ka*yd-kd*ya+kb*yc-kc*yb)):=by
  have e:m*m*(r*p)=(m*r)*(m*p):=by grind
  rw [e,h,ha,hb,hc,hd];grind
 exact Int.eq_of_mul_eq_mul_left (show m*m≠0 from Int.mul_ne_zero (by omega) (by omega)) this

theorem pigeon:∀(n:Nat) (l:List Nat),l.Nodup→(∀x∈l,x<n)→l.length≤n
 | 0,l,_,h=>by
  cases l with
  | nil=>simp
  | cons a t=>have:=h a (by simp);omega
 | n+1,l,hd,h=>by
  by_cases hm:n∈l
  ·have h1:=List.length_erase_of_mem hm
   have h2:=pigeon n (l.erase n) (hd.erase n) (by
    intro x hx;have h3:=(hd.mem_erase_iff).1 hx;have:=h x h3.2;have:=h3.1;omega)
   omega
  ·have:=pigeon n l hd (by
    intro x hx;have:=h x hx;have:x≠n:=fun e=>hm (e ▸ hx)
    omega)
   omega

def Pr (p:Nat):Prop:=1<p∧∀d,d∣p→d=1∨d=p
theorem Pr.euclid {p a b:Nat} (hp:Pr p) (h:p∣a*b):p∣a∨p∣b:=by
 rcases hp.2 (Nat.gcd p a) (Nat.gcd_dvd_left p a) with h1 | h1
 ·right
  exact Nat.Coprime.dvd_of_dvd_mul_left (m:=a) h1 h
 ·left
  rw [←h1];exact Nat.gcd_dvd_right p a

theorem sq_inj {p h x y:Nat} (hp:Pr p) (h2:p=2*h+1) (hx:x<y) (hy:y≤h):x*x%p≠y*y%p:=by
 intro e
 have h3:p∣y*y-x*x:=by
  have h4:=Nat.mul_le_mul (show x≤y by omega) (show x≤y by omega);exact Nat.dvd_of_mod_eq_zero (Nat.sub_mod_eq_zero_of_mod_eq e.symm)
 have h5:y*y-x*x=(y-x)*(y+x):=by
  obtain ⟨k,rfl⟩:∃k,y=x+k:=⟨y-x,by omega⟩;have:(x+k)*(x+k)=x*x+k*(x+k+x):=by grind
  rw [this];have:x+k-x=k:=by omega
  rw [this];omega
 rw [h5] at h3;rcases hp.euclid h3 with h6 | h6
 ·have:=Nat.le_of_dvd (by omega) h6;omega
 ·have:=Nat.le_of_dvd (by omega) h6;omega

theorem start {p h:Nat} (hp:Pr p) (h2:p=2*h+1):∃a b,a≤h∧b≤h∧p∣a*a+b*b+1:=by
 apply Classical.byContradiction
 intro hn;have hpp:=hp.1
 have h3:=pigeon p ((List.range (h+1)).map (fun x=>x*x%p)++(List.range (h+1)).map (fun y=>p-1-y*y%p)) (by
  rw [List.nodup_append];refine ⟨?_,?_,?_⟩
  ·rw [List.Nodup,List.pairwise_map];refine List.Pairwise.imp_of_mem ?_ List.pairwise_lt_range;intro x y hx hy hxy;rw [List.mem_range] at hx hy;exact sq_inj hp h2 hxy (by omega)
  ·rw [List.Nodup,List.pairwise_map];refine List.Pairwise.imp_of_mem ?_ List.pairwise_lt_range;intro x y hx hy hxy;rw [List.mem_range] at hx hy;have h4:=sq_inj hp h2 hxy (by omega);have h5:=Nat.mod_lt (x*x) (show 0<p by omega);have h6:=Nat.mod_lt (y*y) (show 0<p by omega);omega
  ·intro a ha b hb hab;rw [List.mem_map] at ha hb;obtain ⟨x,hx,rfl⟩:=ha;obtain ⟨y,hy,rfl⟩:=hb;rw [List.mem_range] at hx hy;apply hn
   refine ⟨x,y,by omega,by omega,?_⟩;have h6:=Nat.mod_lt (y*y) (show 0<p by omega);have h7:x*x%p+y*y%p+1=p:=by omega
   have h8:=Nat.div_add_mod (x*x) p;have h9:=Nat.div_add_mod (y*y) p;exact ⟨x*x / p+y*y / p+1,by rw [Nat.mul_add,Nat.mul_add];omega⟩) (by
  intro x hx;rw [List.mem_append,List.mem_map,List.mem_map] at hx;rcases hx with ⟨y,_,rfl⟩ | ⟨y,_,rfl⟩
  ·exact Nat.mod_lt _ (by omega)
  ·omega)
 simp at h3;omega

theorem S4.prime {p:Nat} (hp:Pr p):∀(k:Nat) (m:Int),m.toNat=k→1≤m→m<p→S4 (m*p)→S4 p:=by
 intro k;induction k using Nat.strongRecOn with
 | _ k ih =>
  intro m hk h1 h2 h;by_cases hm:m=1
  ·rw [hm,Int.one_mul] at h;exact h
  ·obtain ⟨r,hr1,hr2,hr3⟩:=S4.descend (p:=(p:Int)) (m:=m) (by omega) (by
    intro hd
    have hd2:m.toNat∣p:=by
     have:((m.toNat:Nat):Int)∣(p:Int):=by rw [Int.toNat_of_nonneg (by omega)];exact hd
     exact Int.natCast_dvd_natCast.1 this
    rcases hp.2 _ hd2 with h5 | h5 <;> omega) h
   exact ih r.toNat (by omega) r rfl hr1 (by omega) hr3

theorem lagrange (n:Nat):S4 (n:Int):=by
 induction n using Nat.strongRecOn with
 | _ n ih =>
  by_cases h0:n=0
  ·exact ⟨0,0,0,0,by rw [h0];rfl⟩
  by_cases h1:n=1
  ·exact ⟨1,0,0,0,by rw [h1];rfl⟩
  by_cases h2:n=2
  ·exact ⟨1,1,0,0,by rw [h2];rfl⟩
  by_cases hp:Pr n
  ·have hodd:n%2=1:=by
    apply Classical.byContradiction
    intro h;have:=hp.2 2 (by omega);omega
   obtain ⟨a,b,ha,hb,c,hc⟩:=start hp (h:=n / 2) (by omega);have ha2:=Nat.mul_le_mul ha ha;have hb2:=Nat.mul_le_mul hb hb
   have hnn:4*(n / 2*(n / 2))+4*(n / 2)+1=n*n:=by
    obtain ⟨k,hk⟩:∃k,k=n / 2:=⟨_,rfl⟩;have h3:n=2*k+1:=by omega
    rw [←hk,h3];grind
   have hcn:c<n:=by
    apply Classical.byContradiction
    intro h;have:=Nat.mul_le_mul_left n (show n≤c by omega);omega
   have hc1:1≤c:=by
    rcases Nat.eq_zero_or_pos c with h | h
    ·rw [h] at hc;omega
    ·exact h
   refine S4.prime hp _ (c:Int) rfl (by omega) (by omega) ⟨a,b,1,0,?_⟩;have:((a*a+b*b+1:Nat):Int)=((n*c:Nat):Int):=by rw [hc]
   simp only [Int.natCast_add,Int.natCast_mul] at this;grind
  ·have:∃d,d∣n∧d≠1∧d≠n:=by
    apply Classical.byContradiction
    intro h;exact hp ⟨by omega,fun d hd=>Classical.byContradiction fun h5=>h ⟨d,hd,fun e=>h5 (.inl e),fun e=>h5 (.inr e)⟩⟩
   obtain ⟨d,⟨e,he⟩,hd1,hd2⟩:=this
   have hd0:0<d:=by
    rcases Nat.eq_zero_or_pos d with h | h
    ·rw [h] at he;omega
    ·exact h
   have he0:0<e:=by
    rcases Nat.eq_zero_or_pos e with h | h
    ·rw [h] at he;omega
    ·exact h
   have hdn:d<n:=by
    rcases Nat.lt_or_ge d n with h | h
    ·exact h
    ·have:=Nat.mul_le_mul_left d he0;omega
   have hen:e<n:=by
    rcases Nat.lt_or_ge e n with h | h
    ·exact h
    ·have:=Nat.mul_le_mul_right e (show 2≤d by omega);omega
   rw [he,Int.natCast_mul];exact S4.mul (ih d hdn) (ih e hen)
end Go.Proofs.YteahlbhjhjhljaaGreatDoor.Lag
end

section
/- The searches of foursquares find what there is. Plain Lean. -/
set_option linter.unusedVariables false
set_option linter.unusedSimpArgs false
namespace Go.Proofs.YteahlbhjhjhljaaGreatDoor
open Go.RowKit Go.Shelf

theorem rt_sq (b:Nat):rt (b*b)=b:=(rt_uniq (Nat.le_refl _) (by
 have:(b+1)*(b+1)=b*b+2*b+1:=by grind
 omega)).symm
theorem le_rt {a n:Nat} (h:a*a≤n):a≤rt n:=by
 apply Classical.byContradiction
 intro h1;have h2:=Nat.mul_le_mul (show rt n+1≤a by omega) (show rt n+1≤a by omega);have:=(rt_spec n).2;omega

theorem twoF_sound {n a b:Nat}:∀{x:Nat},x*x≤n→twoF n x=some (a,b)→n=a*a+b*b
 | 0,_,h=>by
  rw [twoF] at h;split at h
  ·cases h
  ·cases h;omega
 | x+1,hx,h=>by
  rw [twoF] at h;split at h
  ·cases h
  ·split at h
   ·rename_i h2;cases h
    have h3:=h2.1;omega
   ·exact twoF_sound (Nat.le_trans (Nat.mul_le_mul (by omega) (by omega)) hx) h
theorem min_sq (d x:Nat):min (rt d) x*min (rt d) x≤d:=Nat.le_trans (Nat.mul_le_mul (by omega) (by omega)) (rt_spec d).1
theorem threeF_sound {n a b c:Nat}:∀{x:Nat},x*x≤n→threeF n x=some (a,b,c)→n=a*a+b*b+c*c
 | 0,_,h=>by
  rw [threeF] at h;split at h
  ·cases h
  ·cases h;omega
 | x+1,hx,h=>by
  rw [threeF] at h;split at h
  ·cases h
  ·split at h
   ·rename_i y z h2;cases h
    have h3:=twoF_sound (min_sq _ _) h2;omega
   ·exact threeF_sound (Nat.le_trans (Nat.mul_le_mul (by omega) (by omega)) hx) h
theorem fourF_sound {n a b c d:Nat}:∀{x:Nat},x*x≤n→fourF n x=some (a,b,c,d)→n=a*a+b*b+c*c+d*d
 | 0,_,h=>by
  rw [fourF] at h;split at h
  ·split at h
   ·rename_i y z t h2;cases h
    have h3:=threeF_sound (x:=0) (by omega) h2;omega
   ·cases h
  ·cases h
 | x+1,hx,h=>by
  rw [fourF] at h;have hx2:x*x≤n:=Nat.le_trans (Nat.mul_le_mul (by omega) (by omega)) hx;split at h
  ·split at h
   ·rename_i y z t h2;cases h
    have h3:=threeF_sound (min_sq _ _) h2;omega
   ·exact fourF_sound hx2 h
  ·exact fourF_sound hx2 h
theorem twoF_complete {n a b:Nat} (hn:n=a*a+b*b) (hb:b≤a):∀{x:Nat},a≤x→twoF n x≠none
 | 0,h=>by
  have ha:a=0:=by omega
  have hb:b=0:=by omega
  rw [ha,hb] at hn;rw [twoF,if_neg (by omega)];simp
 | x+1,h=>by
  have h1:=Nat.mul_le_mul h h;have h2:=Nat.mul_le_mul hb hb;have h3:2*(x+1)*(x+1)=2*((x+1)*(x+1)):=Nat.mul_assoc _ _ _;rw [twoF,if_neg (by omega)];split
  ·simp
  ·rename_i hno;by_cases he:a=x+1
   ·rw [←he] at hno;have h4:n-a*a=b*b:=by omega
    rw [h4,rt_sq] at hno;exact absurd ⟨rfl,hb⟩ hno
   ·exact twoF_complete hn hb (by omega)
theorem threeF_complete {n a b c:Nat} (hn:n=a*a+b*b+c*c) (hb:b≤a) (hc:c≤b):∀{x:Nat},a≤x→threeF n x≠none
 | 0,h=>by
  have ha:a=0:=by omega
  have hb:b=0:=by omega
  have hc:c=0:=by omega
  rw [ha,hb,hc] at hn;rw [threeF,if_neg (by omega)];simp
 | x+1,h=>by
  have h1:=Nat.mul_le_mul h h;have h2:=Nat.mul_le_mul hb hb;have h3:=Nat.mul_le_mul hc hc;have h4:3*(x+1)*(x+1)=3*((x+1)*(x+1)):=Nat.mul_assoc _ _ _;rw [threeF,if_neg (by omega)];split
  ·simp
  ·rename_i hno;by_cases he:a=x+1
   ·rw [←he] at hno;have h5:n-a*a=b*b+c*c:=by omega
    rw [h5] at hno;have h6:=le_rt (show b*b≤b*b+c*c by omega);exact absurd hno (twoF_complete rfl hc (by omega))
   ·exact threeF_complete hn hb hc (by omega)

theorem sq_mod8 (a:Nat):a*a%8=0∨a*a%8=1∨a*a%8=4:=by
 have:a%8=0∨a%8=1∨a%8=2∨a%8=3∨a%8=4∨a%8=5∨a%8=6∨a%8=7:=by omega
 rw [Nat.mul_mod];rcases this with h | h | h | h | h | h | h | h <;> rw [h] <;> simp
theorem sq_mod4 (a:Nat):(a%2=0∧a*a=4*(a / 2*(a / 2)))∨(a%2=1∧a*a%4=1):=by
 by_cases h:a%2=0
 ·left
  obtain ⟨k,hk⟩:∃k,k=a / 2:=⟨_,rfl⟩;have:a=2*k:=by omega
  rw [←hk];refine ⟨h,?_⟩;rw [this];grind
 ·right
  obtain ⟨k,hk⟩:∃k,a=2*k+1:=⟨a / 2,by omega⟩;refine ⟨by omega,?_⟩;have:a*a=4*(k*k+k)+1:=by rw [hk];grind
  omega
theorem sevF_three:∀(k:Nat) {n a b c:Nat},n=a*a+b*b+c*c→sevF k n=false
 | 0,n,a,b,c,h=>by
  have h1:=sq_mod8 a;have h2:=sq_mod8 b;have h3:=sq_mod8 c;rw [sevF,beq_eq_false_iff_ne];omega
 | k+1,n,a,b,c,h=>by
  have h1:=sq_mod8 a;have h2:=sq_mod8 b;have h3:=sq_mod8 c;rw [sevF];split
  ·rename_i h4;have g1:=sq_mod4 a;have g2:=sq_mod4 b;have g3:=sq_mod4 c;exact sevF_three k (a:=a / 2) (b:=b / 2) (c:=c / 2) (by omega)
  ·rw [beq_eq_false_iff_ne];omega

theorem fourF_complete {n a b c d:Nat} (hn:n=a*a+b*b+c*c+d*d) (hb:b≤a) (hc:c≤b) (hd:d≤c):∀{x:Nat},a≤x→fourF n x≠none:=by
 intro x;induction x with
 | zero =>
  intro h;have ha:a=0:=by omega
  have hb:b=0:=by omega
  have hc:c=0:=by omega
  have hd:d=0:=by omega
  rw [ha,hb,hc,hd] at hn;rw [hn];decide
 | succ x ih =>
  intro h;rw [fourF];by_cases he:a=x+1
  ·have h5:n-a*a=b*b+c*c+d*d:=by omega
   have h6:=le_rt (show b*b≤b*b+c*c+d*d by omega);rw [←he,h5,if_pos (sevF_three 16 rfl)];have h7:=threeF_complete (n:=b*b+c*c+d*d) rfl hc hd (show b≤min (rt (b*b+c*c+d*d)) a by omega);split
   ·simp
   ·rename_i hno;exact absurd hno h7
  ·have h8:=ih (by omega);split
   ·split
    ·simp
    ·exact h8
   ·exact h8

theorem ins4 {n a b c d:Nat} (hn:n=a*a+b*b+c*c+d*d):∃a b c d:Nat,n=a*a+b*b+c*c+d*d∧b≤a∧c≤b∧d≤c:=by
 rcases Nat.le_total a b with h1 | h1 <;> rcases Nat.le_total c d with h2 | h2 <;> rcases Nat.le_total a c with h3 | h3 <;> rcases Nat.le_total a d with h4 | h4 <;> rcases Nat.le_total b c with h5 | h5 <;> rcases Nat.le_total b d with h6 | h6 <;>
 first
  | exact ⟨a,b,c,d,by omega,by omega,by omega,by omega⟩
  | exact ⟨a,b,d,c,by omega,by omega,by omega,by omega⟩
  | exact ⟨a,c,b,d,by omega,by omega,by omega,by omega⟩
  | exact ⟨a,c,d,b,by omega,by omega,by omega,by omega⟩
  | exact ⟨a,d,b,c,by omega,by omega,by omega,by omega⟩
  | exact ⟨a,d,c,b,by omega,by omega,by omega,by omega⟩
  | exact ⟨b,a,c,d,by omega,by omega,by omega,by omega⟩
  | exact ⟨b,a,d,c,by omega,by omega,by omega,by omega⟩
  | exact ⟨b,c,a,d,by omega,by omega,by omega,by omega⟩
  | exact ⟨b,c,d,a,by omega,by omega,by omega,by omega⟩
  | exact ⟨b,d,a,c,by omega,by omega,by omega,by omega⟩
  | exact ⟨b,d,c,a,by omega,by omega,by omega,by omega⟩
  | exact ⟨c,a,b,d,by omega,by omega,by omega,by omega⟩
  | exact ⟨c,a,d,b,by omega,by omega,by omega,by omega⟩
  | exact ⟨c,b,a,d,by omega,by omega,by omega,by omega⟩
  | exact ⟨c,b,d,a,by omega,by omega,by omega,by omega⟩
  | exact ⟨c,d,a,b,by omega,by omega,by omega,by omega⟩
  | exact ⟨c,d,b,a,by omega,by omega,by omega,by omega⟩
  | exact ⟨d,a,b,c,by omega,by omega,by omega,by omega⟩
  | exact ⟨d,a,c,b,by omega,by omega,by omega,by omega⟩
  | exact ⟨d,b,a,c,by omega,by omega,by omega,by omega⟩
  | exact ⟨d,b,c,a,by omega,by omega,by omega,by omega⟩
  | exact ⟨d,c,a,b,by omega,by omega,by omega,by omega⟩
  | exact ⟨d,c,b,a,by omega,by omega,by omega,by omega⟩

theorem lagrangeN (n:Nat):∃a b c d:Nat,n=a*a+b*b+c*c+d*d:=by
 obtain ⟨a,b,c,d,h⟩:=Lag.lagrange n;refine ⟨a.natAbs,b.natAbs,c.natAbs,d.natAbs,?_⟩
 have:(n:Int)=((a.natAbs*a.natAbs+b.natAbs*b.natAbs+c.natAbs*c.natAbs+d.natAbs*d.natAbs:Nat):Int):=by
  simp only [Int.natCast_add,Int.natAbs_mul_self];exact h
 exact Int.ofNat_inj.1 this

theorem fourF_some (n:Nat):fourF n (rt n)≠none:=by
 obtain ⟨a,b,c,d,h⟩:=lagrangeN n;obtain ⟨a,b,c,d,h,hb,hc,hd⟩:=ins4 h;exact fourF_complete h hb hc hd (le_rt (by omega))
theorem fourF_spec (n:Nat):∃a b c d:Nat,fourF n (rt n)=some (a,b,c,d)∧n=a*a+b*b+c*c+d*d:=by
 cases h:fourF n (rt n) with
 | none=>exact absurd h (fourF_some n)
 | some q =>
  obtain ⟨a,b,c,d⟩:=q;exact ⟨a,b,c,d,rfl,fourF_sound (rt_spec n).1 h⟩
end Go.Proofs.YteahlbhjhjhljaaGreatDoor
end

section
set_option linter.unusedVariables false
set_option linter.unusedSimpArgs false
set_option maxRecDepth 100000
namespace Go.Proofs.YteahlbhjhjhljaaGreatDoor
open Go.RowKit Go.Shelf

set_option maxHeartbeats 4000000 in
theorem rcheck6_c (N:NSta) (Z:List Int) (v1 v2 v3 v4:Value) (w:World) (hm:NOk N) (hS:NAt w v1 v2 v3 N) (hZ:ZsAt w v4 Z) (hz:∀z∈Z,z.natAbs<256^128) (hl:Z.length≠N.vars.length) (hl2:Z.length≤1000) (hc:N.chk=0) :
  Calls Tryz.prog 51 #[.agg #[v1,v2,v3],v4] w fun e w'=>e=.returned (.int .i64 6)∧Below w.heap.size w w':=by
 obtain ⟨a4,c4,rfl⟩:=hZ.form;obtain ⟨nz,hnz⟩:∃n,n=Z.length:=⟨_,rfl⟩;have HNZ:=Lib.hid hnz;rw [←hnz] at hl2 hl hZ ⊢;have HZZ:=Lib.hid hz;have HCK:=Lib.hid hc;clear hz hc hnz;obtain ⟨a1,c1,a2,c2,a3,c3,rfl,rfl,rfl⟩:=hS.forms;obtain ⟨n1,hn1⟩:∃n,n=N.grps.length:=⟨_,rfl⟩;obtain ⟨n2,hn2⟩:∃n,n=N.vars.length:=⟨_,rfl⟩;obtain ⟨n3,hn3⟩:∃n,n=N.eqs.length:=⟨_,rfl⟩;have HN1:=Lib.hid hn1;have HN2:=Lib.hid hn2;have HN3:=Lib.hid hn3;have l1:n1≤10:=by rw [hn1];exact hm.ng
 have l2:n2≤12:=by rw [hn2];exact hm.nv
 have l3:n3≤12:=by rw [hn3];exact hm.ne
 have HM:=Lib.hid hm;rw [←hn2] at hl;have hl3:((nz:Int) != (n2:Int))=true:=by rw [bne_iff_ne];omega
 rw [←hn1,←hn2,←hn3] at hS ⊢;clear hm hn1 hn2 hn3 hl;have hP:=Blk.new w #[.slice a1 n1 c1,.slice a2 n2 c2,.slice a3 n3 c3] 43;have hBW:=b1 w (.cells #[.slice a1 n1 c1,.slice a2 n2 c2,.slice a3 n3 c3] 43);replace hS:=hS.after hBW;replace hZ:=hZ.after (b1 w (.cells #[.slice a1 n1 c1,.slice a2 n2 c2,.slice a3 n3 c3] 43));obtain ⟨hPc0,hPf0,hPc1,hPf1,hPc2,hPf2⟩:=hP.x3;go_enter Tryz.func51,Tryz.ntmps51
 go_wp2_with fail
 refine (rformed1_c N.s _ _ _ _ true HM.out.ssm hS HM.out.form).mono ?_;rintro e w2 ⟨rfl,hb2⟩;clear hPc0 hPf0 hPc1 hPf1 hPc2 hPf2;replace hP:=hP.after hb2;replace hS:=hS.after hb2;replace hZ:=hZ.after hb2;replace hBW:=bt hBW hb2;clear hb2;have hPl:=hP.lt;go_wp2;go_loopw [5] (fun i wr=>∃k:Nat,k≤nz∧i=.int .i64 k∧Below w2.heap.size w2 wr) (fun i _=>nz-(intOf i).toNat)
 case atStart=>exact ⟨0,by omega,rfl,Below.refl _ _⟩
 case round =>
  obtain ⟨k,hk,rfl,hbr⟩:=hrel;obtain ⟨wp,hwp⟩:∃wp,wp=wr:=⟨_,rfl⟩;subst hwp;replace hP:=hP.after hbr;replace hS:=hS.after hbr;replace hZ:=hZ.after hbr;replace hBW:=bt hBW hbr;clear hPl;have hPl:=hP.lt;by_cases hlt:k<nz
  ·have hkl:k<Z.length:=by rw [←HNZ.out];exact hlt
   have HZ1:=Lib.hid (HZZ.out _ (List.getElem_mem hkl));obtain ⟨b,o,rfl,hbl,x1,x2⟩:=hZ.at_ hkl;generalize (Z[k]'hkl)=z at x1 x2 HZ1;have h0k:(0:Int)≤(k:Int):=by omega
   have h1k:(k:Int)<(nz:Int):=by omega
   go_wp2_with fail
   refine (rivalidI_c z _ HZ1.out).mono ?_;rintro e w3 ⟨rfl,hb3⟩;go_wp2;go_roundw
   case rel=>exact ⟨k+1,by omega,by go_num,bt hbr hb3⟩
   case measure=>simp [intOf];omega
  ·clear hbr
   have HCC:Hid (Calls Tryz.prog 120 #[.agg #[.slice a1 n1 c1,.slice a2 n2 c2,.slice a3 n3 c3]] wp fun e w'=>e=.returned (.int .i64 0)∧Below wp.heap.size wp w'):=by
    have h:=rrest_c N _ _ _ wp HM.out hS;rw [HCK.out] at h;exact h
   obtain ⟨hPc0,hPf0,hPc1,hPf1,hPc2,hPf2⟩:=hP.x3;go_wp2_with fail
   refine HCC.out.mono ?_;rintro e w4 ⟨rfl,hb4⟩;clear hPc0 hPf0 hPc1 hPf1 hPc2 hPf2;replace hP:=hP.after hb4;have hPl2:=hP.lt;obtain ⟨hPc0,hPf0,hPc1,hPf1,hPc2,hPf2⟩:=hP.x3;go_wp2;go_ret
   exact ⟨rfl,bt hBW hb4⟩


set_option maxHeartbeats 1600000 in
theorem rinr_c (vb q:Nat) (z:Int) (w:World) (hb:vb<256^128) (hq:q<256^128) (hz:z.natAbs<256^128) :
  Calls Tryz.prog 52 #[.agg #[.string (E vb)],.string (E q),.agg #[.bool (sg (z)),.string (E (z).natAbs)]] w fun e w'=>e=.returned (.bool (blw vb z (if vb=0 then q else vb)))∧Below w.heap.size w w':=by
 have hA:=blk2a w #[.string (E vb)] #[.bool (sg z),.string (E z.natAbs)] 114 28;have hB:=blk2b w #[.string (E vb)] #[.bool (sg z),.string (E z.natAbs)] 114 28;have hBW:=b2 w (.cells #[.string (E vb)] 114) (.cells #[.bool (sg z),.string (E z.natAbs)] 28);by_cases hv:vb=0
 ·have HC:Hid (∀w,Calls Tryz.prog 18 #[.string (E z.natAbs),.string (E q)] w fun e w'=>e=.returned (.int .i64 (cmpN z.natAbs q))∧Below w.heap.size w w'):=fun w=>rcmp_c _ _ w hz hq
  obtain ⟨q1,hq1⟩:∃q1:Int,q1=cmpN z.natAbs q:=⟨_,rfl⟩;rw [←hq1] at HC;have hzv:=zE hv;rw [if_pos hv];obtain ⟨s,hs⟩:∃s,s=sg z:=⟨_,rfl⟩;have HBW:Hid (blw vb z q=(decide (z.natAbs<q)&&!s)):=by rw [Hid,hs,hv,blw];rfl
  rw [HBW.out];rw [←hs] at hB hBW ⊢;clear hs hv HBW;cases s
  ·by_cases hl:z.natAbs<q
   ·have hd1:decide (q1<0)=true:=decide_eq_true (by rw [hq1];exact cmp_neg _ _ hl);have HR:Hid ((decide (z.natAbs<q)&&!false)=true):=by rw [Hid,decide_eq_true hl];rfl
    rw [HR.out];clear hq1 hl hb hq hz HR;obtain ⟨hAc0,hAf0⟩:=hA.x1;obtain ⟨hBc0,hBf0,hBc1,hBf1⟩:=hB.x2;go_enter Tryz.func52,Tryz.ntmps52
    go_wp2_with fail
    refine (HC.out _).mono ?_;rintro e w2 ⟨rfl,hb2⟩;go_wp2;go_ret
    exact ⟨rfl,bt hBW hb2⟩
   ·have hd1:decide (q1<0)=false:=decide_eq_false (by rw [hq1];exact cmp_nneg _ _ (by omega));have HR:Hid ((decide (z.natAbs<q)&&!false)=false):=by rw [Hid,decide_eq_false hl];rfl
    rw [HR.out];clear hq1 hl hb hq hz HR;obtain ⟨hAc0,hAf0⟩:=hA.x1;obtain ⟨hBc0,hBf0,hBc1,hBf1⟩:=hB.x2;go_enter Tryz.func52,Tryz.ntmps52
    go_wp2_with fail
    refine (HC.out _).mono ?_;rintro e w2 ⟨rfl,hb2⟩;go_wp2;go_ret
    exact ⟨rfl,bt hBW hb2⟩
  ·have HR:Hid ((decide (z.natAbs<q)&&!true)=false):=by rw [Hid];simp
   rw [HR.out];clear hq1 hb hq hz HR HC;obtain ⟨hAc0,hAf0⟩:=hA.x1;obtain ⟨hBc0,hBf0,hBc1,hBf1⟩:=hB.x2;go_enter Tryz.func52,Tryz.ntmps52
   go_wp2;go_ret
   exact ⟨rfl,hBW⟩
 ·have HC:Hid (∀w,Calls Tryz.prog 18 #[.string (E z.natAbs),.string (E vb)] w fun e w'=>e=.returned (.int .i64 (cmpN z.natAbs vb))∧Below w.heap.size w w'):=fun w=>rcmp_c _ _ w hz hb
  obtain ⟨q1,hq1⟩:∃q1:Int,q1=cmpN z.natAbs vb:=⟨_,rfl⟩;rw [←hq1] at HC;have hzv:=nzE (Nat.pos_of_ne_zero hv);rw [if_neg hv];by_cases hl:z.natAbs<vb
  ·have hd1:decide (q1<0)=true:=decide_eq_true (by rw [hq1];exact cmp_neg _ _ hl);have HR:Hid (blw vb z vb=true):=blw_pos hl (Nat.pos_of_ne_zero hv);rw [HR.out];clear hq1 hl hb hq hz HR hv;obtain ⟨hAc0,hAf0⟩:=hA.x1;obtain ⟨hBc0,hBf0,hBc1,hBf1⟩:=hB.x2;go_enter Tryz.func52,Tryz.ntmps52
   go_wp2_with fail
   refine (HC.out _).mono ?_;rintro e w2 ⟨rfl,hb2⟩;go_wp2;go_ret
   exact ⟨rfl,bt hBW hb2⟩
  ·have hd1:decide (q1<0)=false:=decide_eq_false (by rw [hq1];exact cmp_nneg _ _ (by omega));have HR:Hid (blw vb z vb=false):=blw_ge (by omega);rw [HR.out];clear hq1 hl hb hq hz HR hv;obtain ⟨hAc0,hAf0⟩:=hA.x1;obtain ⟨hBc0,hBf0,hBc1,hBf1⟩:=hB.x2;go_enter Tryz.func52,Tryz.ntmps52
   go_wp2_with fail
   refine (HC.out _).mono ?_;rintro e w2 ⟨rfl,hb2⟩;go_wp2;go_ret
   exact ⟨rfl,bt hBW hb2⟩

set_option maxHeartbeats 8000000 in
theorem rholds_c (N:NSta) (Z:List Int) (v1 v2 v3 v4:Value) (w:World) (hm:NOk N) (hS:NAt w v1 v2 v3 N) (hZ:ZsAt w v4 Z) (hz:∀z∈Z,z.natAbs<256^64) (hzl:Z.length≤1000) (hc:N.chk=0) :
  Calls Tryz.prog 13 #[.agg #[v1,v2,v3],v4] w fun e w'=>e=.returned (.tuple #[.bool (N.hldB Z),.int .i64 (N.hldE Z:Nat)])∧Below w.heap.size w w':=by
 by_cases hl:Z.length=N.vars.length
 ·have HE0:N.hldE Z=0:=if_neg (fun h=>h hl);rw [HE0];clear HE0;obtain ⟨r,hr⟩:∃r:Bool,r=N.hldB Z:=⟨_,rfl⟩;have HRES:=Lib.hid hr;rw [←hr];clear hr;have HRD:Hid (∀w',Below w.heap.size w w'→Calls Tryz.prog 51 #[.agg #[v1,v2,v3],v4] w' fun e w''=>e=.returned (.int .i64 0)∧Below w'.heap.size w' w''):=fun w' hb=>rcheck15_c N Z v1 v2 v3 v4 w' hm (hS.after hb) (hZ.after hb) (fun z h=>lt64 (hz z h)) hl hc
  have HOR:Hid (∀w',Below w.heap.size w w'→Calls Tryz.prog 53 #[.agg #[v1,v2,v3]] w' fun e w''=>e=.returned (.string (E N.ord))∧Below w'.heap.size w' w''):=fun w' hb=>rorder15_c N v1 v2 v3 w' hm (hS.after hb)
  have HIM:Hid (∀w',Below w.heap.size w w'→Calls Tryz.prog 54 #[.agg #[v1,v2,v3],v4] w' (LPost w' (N.imgs Z))):=fun w' hb'=>rimages_c N Z v1 v2 v3 v4 w' hm (hS.after hb') (hZ.after hb') hz hl hc
  have HBD:Hid (N.hldB Z=(ra N.vars.length (inJ N Z)&&decide (N.imgs Z=N.eqs.map (·.tgt)))):=by rw [Hid,NSta.hldB,decide_eq_true hl,Bool.true_and]
  have HQ:=Lib.hid (ord_lt hm);have HVS:=Lib.hid hm.v;have HZZ:=Lib.hid hz;obtain ⟨qo,hqo⟩:∃q,q=N.ord:=⟨_,rfl⟩;have HQO:=Lib.hid hqo;rw [←hqo] at HOR HQ;obtain ⟨a4,c4,rfl⟩:=hZ.form;rw [hl] at hZ HRD HIM ⊢;have HL:=Lib.hid hl;obtain ⟨a1,c1,a2,c2,a3,c3,rfl,rfl,rfl⟩:=hS.forms;obtain ⟨n1,hn1⟩:∃n,n=N.grps.length:=⟨_,rfl⟩;obtain ⟨n2,hn2⟩:∃n,n=N.vars.length:=⟨_,rfl⟩;obtain ⟨n3,hn3⟩:∃n,n=N.eqs.length:=⟨_,rfl⟩;have HN2:=Lib.hid hn2;have HN3:=Lib.hid hn3;have l2:n2≤12:=by rw [hn2];exact hm.nv
  have l3:n3≤12:=by rw [hn3];exact hm.ne
  rw [←hn1,←hn2,←hn3] at hS HRD HOR HIM ⊢;rw [←hn2] at hZ HBD;clear hm hn1 hn2 hn3 hz hl hzl hc hqo;have hP:=Blk.new w #[.slice a1 n1 c1,.slice a2 n2 c2,.slice a3 n3 c3] 43;have hBW:=b1 w (.cells #[.slice a1 n1 c1,.slice a2 n2 c2,.slice a3 n3 c3] 43);replace hS:=hS.after hBW;replace hZ:=hZ.after hBW;obtain ⟨hPc0,hPf0,hPc1,hPf1,hPc2,hPf2⟩:=hP.x3;go_enter Tryz.func13,Tryz.ntmps13
  go_wp2_with fail
  refine (HRD.out _ hBW).mono ?_;rintro e w2 ⟨rfl,hb2⟩;clear hPc0 hPf0 hPc1 hPf1 hPc2 hPf2;replace hP:=hP.after hb2;replace hS:=hS.after hb2;replace hZ:=hZ.after hb2;replace hBW:=bt hBW hb2;clear hb2 HRD;go_wp2;go_loopw [7] (fun i wr=>∃k:Nat,k≤n2∧i=.int .i64 k∧Hid (ra k (inJ N Z)=true)∧Below w2.heap.size w2 wr) (fun i _=>n2-(intOf i).toNat)
  case atStart=>exact ⟨0,by omega,rfl,rfl,Below.refl _ _⟩
  case round =>
   obtain ⟨k,hk,rfl,HAL,hbr⟩:=hrel;obtain ⟨wp,hwp⟩:∃wp,wp=wr:=⟨_,rfl⟩;subst hwp;have hBW1:=bt hBW hbr;have hP1:=hP.after hbr;by_cases hlt:k<n2
   ·have hkl:k<N.vars.length:=by rw [←HN2.out];exact hlt
    have hkZ:k<Z.length:=by rw [HL.out];exact hkl
    obtain ⟨bv,ov,rfl,hbv,x1⟩:=(hS.after hbr).vat hkl;obtain ⟨bz,oz,rfl,hbz,z1,z2⟩:=(hZ.after hbr).at_ hkZ;have HZL:=Lib.hid (HZZ.out _ (List.getElem_mem hkZ));have HVL:=Lib.hid (HVS.out _ (List.getElem_mem hkl));have HIJ:=Lib.hid (inJ_at N Z k hkl hkZ);rw [←HQO.out] at HIJ;have HRS:Hid (ra (k+1) (inJ N Z)=inJ N Z k):=by rw [Hid,ra_succ,HAL.out];rfl
    have HRB:Hid (inJ N Z k=false→ra n2 (inJ N Z)=false):=fun h=>by rw [HN2.out];exact ra_false hkl h
    have HOR9:Hid (∀w',Below wp.heap.size wp w'→Calls Tryz.prog 53 #[.agg #[.slice a1 n1 c1,.slice (some ⟨bv,ov,none⟩) n2 c2,.slice a3 n3 c3]] w' fun e w''=>e=.returned (.string (E qo))∧Below w'.heap.size w' w''):=fun w' hb=>HOR.out w' (bt hBW1 hb)
    have HII:Hid (∀w,Calls Tryz.prog 52 #[.agg #[.string (E (N.vars[k]'hkl))],.string (E qo),.agg #[.bool (sg (Z[k]'hkZ)),.string (E (Z[k]'hkZ).natAbs)]] w fun e w'=>e=.returned (.bool (inJ N Z k))∧Below w.heap.size w w'):=fun w=>by
     rw [HIJ.out];exact rinr_c _ _ _ w (Nat.lt_of_lt_of_le HVL.out (Nat.pow_le_pow_right (by decide) (by decide))) (lt128 HQ.out) (lt64 HZL.out)
    clear HIJ;generalize (N.vars[k]'hkl)=vb at x1 HVL HII;generalize (Z[k]'hkZ)=lz at z1 z2 HZL HII;generalize inJ N Z k=bl at HRS HRB HII;have h0k:(0:Int)≤(k:Int):=by omega
    have h1k:(k:Int)<(n2:Int):=by omega
    have g1:=gcl (a:=⟨bv,ov+k,none⟩) hbv x1;have g2:=gcl (a:=⟨bz,oz+k*2,none⟩) hbz z1;have g3:=gcl (a:=⟨bz,oz+k*2+1,none⟩) hbz z2;have hP1l:=hP1.lt;clear x1 z1 z2 hbv hbz;obtain ⟨hP1c0,hP1f0,hP1c1,hP1f1,hP1c2,hP1f2⟩:=hP1.x3;have hP1g0:=hP1.gcell 0;have hP1g1:=hP1.gcell 1;have hP1g2:=hP1.gcell 2;go_wp2_with fail
    refine wp_region_gw (by kernel_rfl) (by kernel_rfl) ?_;repeat (go_big_quiet_step (first | (go_at_call 53;exact gw_of (HOR9.out _ (gw_below _))) | (go_at_call 52;exact gw_of (HII.out _))))
    refine wpQuiet_nil ?_;rintro w9 ⟨xw9,rfl⟩;have hb9:=gw_below xw9;generalize gw xw9=w9 at hb9;clear hP1c0 hP1f0 hP1c1 hP1f1 hP1c2 hP1f2;clear hP1g0 hP1g1 hP1g2;clear g1 g2 g3 hP1l;cases bl
    ·have HF:Hid (r=false):=by rw [Hid,HRES.out,HBD.out,HRB.out rfl];rfl
     go_wp2;go_ret2
     rw [HF.out];exact ⟨rfl,bt hBW1 hb9⟩
    ·have HX:Hid (ra (k+1) (inJ N Z)=true):=HRS.out;go_wp2;go_roundw
     case rel=>exact ⟨k+1,by omega,by go_num,HX,bt hbr hb9⟩
     case measure=>simp [intOf];omega
   ·obtain rfl:k=n2:=by omega
    replace hS:=hS.after hbr;rw [HAL.out] at HBD;clear hP hZ HAL HZZ HVS hbr;have HIMP:=Lib.hid (HIM.out _ hBW1);have hPl:=hP1.lt;obtain ⟨hP1c0,hP1f0,hP1c1,hP1f1,hP1c2,hP1f2⟩:=hP1.x3;go_wp2_with fail
    refine HIMP.out.mono ?_;rintro e w8 ⟨iv,rfl,hIO,hb8⟩;clear hP1c0 hP1f0 hP1c1 hP1f1 hP1c2 hP1f2;replace hP1:=hP1.after hb8;replace hS:=hS.after hb8;replace hBW1:=bt hBW1 hb8;clear hb8 hPl HIM HIMP;have hIs:=hIO.ss;clear hIO;obtain ⟨a7,c7,rfl⟩:=RAt.form hIs;have HIL:Hid (((N.imgs Z).map E).length=n3):=by rw [Hid,List.length_map,NSta.imgs,List.length_map,HN3.out]
    rw [HIL.out] at hIs ⊢;have hPl:=hP1.lt;go_wp2;go_loopw [10] (fun i wr=>∃k:Nat,k≤n3∧i=.int .i64 k∧Hid (∀j,j<k→(N.imgs Z)[j]?=(N.eqs.map (·.tgt))[j]?)∧Below w8.heap.size w8 wr) (fun i _=>n3-(intOf i).toNat)
    case atStart=>exact ⟨0,by omega,rfl,fun j h=>absurd h (Nat.not_lt_zero _),Below.refl _ _⟩
    case round =>
     obtain ⟨j,hj,rfl,HA,hbs⟩:=hrel;obtain ⟨wu,hwu⟩:∃wp,wp=wr:=⟨_,rfl⟩;subst hwu;have hBW2:=bt hBW1 hbs;have hP2:=hP1.after hbs;replace hIs:=SsAt.after hIs hbs;by_cases hlt2:j<n3
     ·have hkl:j<N.eqs.length:=by rw [←HN3.out];exact hlt2
      have hki:j<((N.imgs Z).map E).length:=by rw [HIL.out];exact hlt2
      have hS1:=hS.after hbs;have HE1:Hid ((N.imgs Z)[j]?=some (imgV N Z (N.eqs[j]'hkl))):=by rw [Hid,NSta.imgs,List.getElem?_map,List.getElem?_eq_getElem hkl];rfl
      have HE2:Hid ((N.eqs.map (·.tgt))[j]?=some (N.eqs[j]'hkl).tgt):=by rw [Hid,List.getElem?_map,List.getElem?_eq_getElem hkl];rfl
      obtain ⟨b,o,tv,rfl,hbl,x1,x2,x3,hTs⟩:=NAt.eat hS1 hkl;obtain ⟨b7,o7,rfl,hbl7,i1'⟩:=SsAt.at_ hIs hki;rw [show ((N.imgs Z).map E)[j]=E (imgV N Z (N.eqs[j]'hkl)) by simp [NSta.imgs]] at i1';generalize imgV N Z (N.eqs[j]'hkl)=iq at i1' HE1;generalize (N.eqs[j]'hkl).tgt=qt at x2 HE2;have h0k:(0:Int)≤(j:Int):=by omega
      have h1k:(j:Int)<(n3:Int):=by omega
      have g1:=gcl (a:=⟨b7,o7+j,none⟩) hbl7 i1';have g2:=gcl (a:=⟨b,o+j*3+1,none⟩) hbl x2;have hPl2:=hP2.lt;clear hTs hS1 x1 x2 x3 i1';by_cases hyi:iq=qt
      ·have h1:=eqT hyi;have h2:=eqE hyi
       have HX:Hid (∀i,i<j+1→(N.imgs Z)[i]?=(N.eqs.map (·.tgt))[i]?):=fun i hi=>by
        by_cases e:i=j
        ·rw [e,HE1.out,HE2.out,hyi]
        ·exact HA.out i (by omega)
       clear hyi;obtain ⟨hP2c0,hP2f0,hP2c1,hP2f1,hP2c2,hP2f2⟩:=hP2.x3;have hP2g0:=hP2.gcell 0;have hP2g1:=hP2.gcell 1;have hP2g2:=hP2.gcell 2;go_wp2_with fail
       refine wp_region_gw (by kernel_rfl) (by kernel_rfl) ?_;repeat (go_big_quiet_step (first | (fail)))
       refine wpQuiet_nil ?_;rintro w9 ⟨xw9,rfl⟩;have hb9:=gw_below xw9;generalize gw xw9=w9 at hb9;go_wp2;go_roundw
       case rel=>exact ⟨j+1,by omega,by go_num,HX,bt hbs hb9⟩
       case measure=>simp [intOf];omega
      ·have h1:=eqF hyi;have h2:=neE hyi;have HF:Hid (r=false):=by rw [Hid,HRES.out,HBD.out,Bool.true_and];exact decide_eq_false (fun e=>hyi (by have h3:=HE1.out;rw [e,HE2.out] at h3;exact (Option.some.inj h3).symm))
       clear hyi;obtain ⟨hP2c0,hP2f0,hP2c1,hP2f1,hP2c2,hP2f2⟩:=hP2.x3;have hP2g0:=hP2.gcell 0;have hP2g1:=hP2.gcell 1;have hP2g2:=hP2.gcell 2;go_wp2_with fail
       refine wp_region_gw (by kernel_rfl) (by kernel_rfl) ?_;repeat (go_big_quiet_step (first | (fail)))
       refine wpQuiet_nil ?_;rintro w9 ⟨xw9,rfl⟩;have hb9:=gw_below xw9;generalize gw xw9=w9 at hb9;go_wp2;go_ret2
       rw [HF.out];exact ⟨rfl,bt hBW2 hb9⟩
     ·have HF:Hid (r=true):=by
       rw [Hid,HRES.out,HBD.out,Bool.true_and];refine decide_eq_true (List.ext_getElem? fun i=>?_);by_cases hi:i<j
       ·exact HA.out i hi
       ·rw [List.getElem?_eq_none (by rw [NSta.imgs,List.length_map,←HN3.out];omega),List.getElem?_eq_none (by rw [List.length_map,←HN3.out];omega)]
      go_wp2;go_ret2
      rw [HF.out];exact ⟨rfl,hBW2⟩
 ·have HE0:N.hldE Z=6:=if_pos hl;have HB0:N.hldB Z=false:=by unfold NSta.hldB;rw [decide_eq_false hl];rfl
  rw [HE0,HB0];clear HE0 HB0;have hP:=Blk.new w #[v1,v2,v3] 43;have hBW:=b1 w (.cells #[v1,v2,v3] 43);have HRD:Hid (∀w',Below w.heap.size w w'→Calls Tryz.prog 51 #[.agg #[v1,v2,v3],v4] w' fun e w''=>e=.returned (.int .i64 6)∧Below w'.heap.size w' w''):=fun w' hb=>rcheck6_c N Z v1 v2 v3 v4 w' hm (hS.after hb) (hZ.after hb) (fun z h=>lt64 (hz z h)) hl hzl hc
  clear hm hS hZ hz hl hzl hc;obtain ⟨hPc0,hPf0,hPc1,hPf1,hPc2,hPf2⟩:=hP.x3;go_enter Tryz.func13,Tryz.ntmps13
  go_wp2_with fail
  refine (HRD.out _ hBW).mono ?_;rintro e w2 ⟨rfl,hb2⟩;go_wp2;go_ret2
  exact ⟨rfl,bt hBW hb2⟩

end Go.Proofs.YteahlbhjhjhljaaGreatDoor
end
