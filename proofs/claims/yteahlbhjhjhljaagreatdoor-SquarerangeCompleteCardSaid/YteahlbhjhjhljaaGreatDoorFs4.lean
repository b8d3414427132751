/- foursquares.Four. -/
import Derived.Test.YteahlbhjhjhljaaGreatDoorInt4
import Derived.Test.YteahlbhjhjhljaaGreatDoorRegion
import Derived.WalkMore
import Derived.Deep.CutRange
set_option linter.unusedVariables false
set_option linter.unusedSimpArgs false
set_option maxRecDepth 100000
set_option maxHeartbeats 16000000
namespace Go.Proofs.YteahlbhjhjhljaaGreatDoor
section
/- foursquares: the searches,as plain functions. -/
open Go.RowKit Go.Shelf
def rt:Nat→Nat
 | 0=>0
 | n+1=>if (rt n+1)*(rt n+1)≤n+1 then rt n+1 else rt n
theorem rt_spec (n:Nat):rt n*rt n≤n∧n<(rt n+1)*(rt n+1):=by
 induction n with
 | zero=>exact ⟨Nat.le_refl _,Nat.one_pos⟩
 | succ n ih =>
  unfold rt;split
  ·rename_i h;refine ⟨h,?_⟩
   have h2:(rt n+1+1)*(rt n+1+1)=(rt n+1)*(rt n+1)+2*(rt n+1)+1:=by
    simp only [Nat.add_mul,Nat.mul_add,Nat.mul_one,Nat.one_mul];omega
   omega
  ·omega
theorem rt_uniq {n r:Nat} (h1:r*r≤n) (h2:n<(r+1)*(r+1)):r=rt n:=by
 obtain ⟨h3,h4⟩:=rt_spec n;rcases Nat.lt_trichotomy r (rt n) with h | h | h
 ·have:=Nat.mul_le_mul (show r+1≤rt n by omega) (show r+1≤rt n by omega);omega
 ·exact h
 ·have:=Nat.mul_le_mul (show rt n+1≤r by omega) (show rt n+1≤r by omega);omega
theorem rt_lt {n k:Nat} (h:n<k*k):rt n<k:=by
 apply Classical.byContradiction
 intro h1;have h2:=Nat.mul_le_mul (show k≤rt n by omega) (show k≤rt n by omega);have:=(rt_spec n).1;omega
def twoF (n:Nat):Nat→Option (Nat × Nat)
 | 0=>if 0<n then none else some (0,0)
 | x+1=>if 2*(x+1)*(x+1)<n then none else if rt (n-(x+1)*(x+1))*rt (n-(x+1)*(x+1))=n-(x+1)*(x+1)∧rt (n-(x+1)*(x+1))≤x+1 then some (x+1,rt (n-(x+1)*(x+1))) else twoF n x
def threeF (n:Nat):Nat→Option (Nat × Nat × Nat)
 | 0=>if 0<n then none else some (0,0,0)
 | x+1=>if 3*(x+1)*(x+1)<n then none else match twoF (n-(x+1)*(x+1)) (min (rt (n-(x+1)*(x+1))) (x+1)) with
  | some (y,z)=>some (x+1,y,z)
  | none=>threeF n x
def sevF:Nat→Nat→Bool
 | 0,n=>n%8==7
 | k+1,n=>if 0<n∧n%4=0 then sevF k (n / 4) else n%8==7
theorem fsroot_c (n:Nat) (w:World) (hn:n<4294967296) :
  Calls Tryz.prog 171 #[.int .u64 (n:Int)] w fun e w'=>e=.returned (.int .u64 (rt n:Nat))∧w=w':=by
 have HN:=Lib.hid hn;clear hn;go_enter Tryz.func171,Tryz.ntmps171
 go_wp2;go_loop [3,4] (fun x b=>∃(r p c:Nat),x=.int .u64 r∧b=.int .u64 c∧c=p / 2∧1≤p∧r+p≤131072∧Hid (r*r≤n∧n<(r+p)*(r+p))∧(p=1∨p%2=0)∧Hid (∃j,p=2^j)) (fun _ b=>(intOf b).toNat)
 case atStart=>exact ⟨0,131072,65536,rfl,rfl,rfl,by omega,by omega,⟨by omega,by have:=HN.out;omega⟩,by omega,⟨17,rfl⟩⟩
 case round =>
  obtain ⟨r,p,b,rfl,rfl,hb,hp1,hrp,HR,hp2,HJ⟩:=hrel;by_cases h1:p=1
  ·have HE:Hid (r=rt n):=rt_uniq HR.out.1 (by rw [←h1];exact HR.out.2);have hb0:¬ 0<b:=by omega
   have hb1:¬ (0:Int)<(b:Int):=by omega
   clear hb h1 hp2 HJ HR hrp hp1;obtain ⟨q,hq⟩:∃q,q=rt n:=⟨_,rfl⟩;rw [←hq] at HE;have HQ:=Lib.hid hq;obtain rfl:r=q:=HE.out;clear hq HE;go_wp2;go_ret
   exact ⟨by rw [←HQ.out];rfl,rfl⟩
  ·have hpb:p=2*b:=by omega
   have hb0:0<b:=by omega
   have HJ2:Hid (∃j,b=2^j):=by
    obtain ⟨j,hj⟩:=HJ.out;cases j with
    | zero=>exact absurd hj h1
    | succ j=>exact ⟨j,by rw [Nat.pow_succ] at hj;omega⟩
   have hb2:b=1∨b%2=0:=by
    obtain ⟨j,hj⟩:=HJ2.out;cases j with
    | zero=>left;simpa using hj
    | succ j=>right;rw [Nat.pow_succ] at hj;omega
   clear hb h1 hp2 HJ;subst hpb;obtain ⟨y,hy⟩:∃y,y=r+b:=⟨_,rfl⟩;have hy2:y≤131072:=by omega
   obtain ⟨z,hz⟩:∃z,z=y*y:=⟨_,rfl⟩;have hz2:z≤131072*131072:=by rw [hz];exact Nat.mul_le_mul hy2 hy2
   have c1:IntKind.u64.wrap ((r:Int)+(b:Int))=(y:Int):=by rw [IntKind.wrap_u64];omega
   have c2:IntKind.u64.wrap ((y:Int)*(y:Int))=(z:Int):=by rw [show (y:Int)*(y:Int)=(z:Int) by rw [hz];exact (Int.natCast_mul y y).symm,IntKind.wrap_u64];omega
   have c3:IntKind.u64.wrap ((b:Int).tdiv 2)=((b / 2:Nat):Int):=by rw [Int.tdiv_eq_ediv_of_nonneg (by omega),IntKind.wrap_u64];omega
   have HYY:=Lib.hid hy;have HZZ:=Lib.hid hz;clear hy hz;by_cases h2:z≤n
   ·have HX:Hid (y*y≤n∧n<(y+b)*(y+b)):=⟨by rw [←HZZ.out];exact h2,by have:=HR.out.2;rwa [show r+2*b=y+b by have:=HYY.out;omega] at this⟩;go_wp2;go_round
    case rel=>exact ⟨y,b,b / 2,rfl,rfl,rfl,by omega,by have:=HYY.out;omega,HX,hb2,HJ2⟩
    case measure=>simp [intOf];omega
   ·have HX:Hid (r*r≤n∧n<(r+b)*(r+b)):=⟨HR.out.1,by rw [←HYY.out,←HZZ.out];omega⟩;go_wp2;go_round
    case rel=>exact ⟨r,b,b / 2,rfl,rfl,rfl,by omega,by omega,HX,hb2,HJ2⟩
    case measure=>simp [intOf];omega
def oneB (n most:Nat):Bool:=decide (rt n*rt n=n)&&decide (rt n≤most)
theorem fsone_c (n most:Nat) (w:World) (hn:n<4294967296) :
  Calls Tryz.prog 259 #[.int .u64 (n:Int),.int .u64 (most:Int)] w fun e w'=>e=.returned (.tuple #[.int .u64 (rt n:Nat),.bool (oneB n most)])∧w=w':=by
 have h1:=fsroot_c n w hn;have h2:=rt_lt (k:=65536) (show n<65536*65536 by omega);have HB:Hid (oneB n most=(decide (rt n*rt n=n)&&decide (rt n≤most))):=rfl;generalize rt n=r at h1 h2 HB ⊢;generalize oneB n most=bo at HB ⊢;have HR:=Lib.hid h1;obtain ⟨z,hz⟩:∃z,z=r*r:=⟨_,rfl⟩;rw [←hz] at HB;have hz2:z≤65536*65536:=by rw [hz];exact Nat.mul_le_mul (by omega) (by omega)
 have c2:IntKind.u64.wrap ((r:Int)*(r:Int))=(z:Int):=by rw [show (r:Int)*(r:Int)=(z:Int) by rw [hz];exact (Int.natCast_mul r r).symm,IntKind.wrap_u64];omega
 clear h1 hz hz2;go_enter Tryz.func259,Tryz.ntmps259
 go_wp2_with fail
 refine HR.out.mono ?_;rintro e w' ⟨rfl,rfl⟩;by_cases h3:z=n
 ·have e1:((z:Int)==(n:Int))=true:=by rw [h3];simp
  by_cases h4:r≤most
  ·have HX:Hid (bo=true):=by rw [Hid,HB.out,decide_eq_true h3,decide_eq_true h4];rfl
   clear HB;go_wp2;go_ret2
   exact ⟨r2 rfl (congrArg Value.bool HX.out.symm),rfl⟩
  ·have HX:Hid (bo=false):=by rw [Hid,HB.out,decide_eq_true h3,decide_eq_false h4];rfl
   clear HB;go_wp2;go_ret2
   exact ⟨r2 rfl (congrArg Value.bool HX.out.symm),rfl⟩
 ·have e1:((z:Int)==(n:Int))=false:=by rw [beq_eq_false_iff_ne];omega
  have HX:Hid (bo=false):=by rw [Hid,HB.out,decide_eq_false h3];rfl
  clear HB;go_wp2;go_ret2
  exact ⟨r2 rfl (congrArg Value.bool HX.out.symm),rfl⟩
theorem sev_eq (m:Nat):((m:Int)%8==7)=(m%8==7):=by
 rw [Bool.eq_iff_iff];simp only [beq_iff_eq];omega
theorem sev_stop {k m:Nat} (h:¬ (0<m∧m%4=0)):sevF k m=(m%8==7):=by
 cases k with
 | zero=>rfl
 | succ k=>rw [sevF,if_neg h]
theorem fsseven_c (n:Nat) (w:World) (hn:n<4294967296) :
  Calls Tryz.prog 172 #[.int .u64 (n:Int)] w fun e w'=>e=.returned (.bool (sevF 16 n))∧w=w':=by
 obtain ⟨b,hb⟩:∃b,b=sevF 16 n:=⟨_,rfl⟩;have HB:=Lib.hid hb;rw [←hb];clear hb;have HN:Hid (n<4^16):=hn;go_enter Tryz.func172,Tryz.ntmps172
 go_wp2;go_loop [0] (fun x=>∃(k m:Nat),x=.int .u64 m∧m<4294967296∧Hid (m<4^k)∧Hid (b=sevF k m)) (fun x=>(intOf x).toNat)
 case atStart=>exact ⟨16,n,rfl,hn,HN,HB⟩
 case round =>
  obtain ⟨k,m,rfl,hm,HK,HS⟩:=hrel;clear HB HN;have c1:IntKind.u64.wrap ((m:Int).tmod 4)=((m%4:Nat):Int):=by rw [Int.tmod_eq_emod_of_nonneg (by omega),IntKind.wrap_u64];omega
  have c2:IntKind.u64.wrap ((m:Int).tdiv 4)=((m / 4:Nat):Int):=by rw [Int.tdiv_eq_ediv_of_nonneg (by omega),IntKind.wrap_u64];omega
  have c3:IntKind.u64.wrap ((m:Int).tmod 8)=((m%8:Nat):Int):=by rw [Int.tmod_eq_emod_of_nonneg (by omega),IntKind.wrap_u64];omega
  by_cases h1:0<m∧m%4=0
  ·obtain ⟨h0,h4⟩:=h1
   have HX:Hid (∃j,m / 4<4^j∧b=sevF j (m / 4)):=by
    have hk:=HK.out;cases k with
    | zero=>omega
    | succ j=>exact ⟨j,by rw [Nat.pow_succ] at hk;omega,by rw [HS.out,sevF,if_pos ⟨h0,h4⟩]⟩
   obtain ⟨j,hj1,hj2⟩:=HX.out;have HJ1:=Lib.hid hj1;have HJ2:=Lib.hid hj2;clear hj1 hj2 HX HK HS c3;have h5:(0:Int)<(m:Int):=by omega
   have h6:(((m%4:Nat):Int)==0)=true:=by rw [h4];rfl
   go_wp2;go_round
   case rel=>exact ⟨j,m / 4,rfl,by omega,HJ1,HJ2⟩
   case measure=>simp [intOf];omega
  ·have HX:Hid (b=(m%8==7)):=HS.out.trans (sev_stop h1);clear HS HK;by_cases h0:0<m
   ·have h4:¬ m%4=0:=fun h=>h1 ⟨h0,h⟩
    clear h1;go_wp2;go_ret
    exact ⟨congrArg (fun b=>Ending.returned (Value.bool b)) ((sev_eq m).trans HX.out.symm),rfl⟩
   ·clear h1;go_wp2;go_ret
    exact ⟨congrArg (fun b=>Ending.returned (Value.bool b)) ((sev_eq m).trans HX.out.symm),rfl⟩
theorem two_step (n x:Nat):twoF n x=if 2*x*x<n then none else if oneB (n-x*x) x=true then some (x,rt (n-x*x)) else if x=0 then none else twoF n (x-1):=by
 unfold oneB;cases x with
 | zero =>
  rw [twoF];by_cases h:0<n
  ·rw [if_pos h,if_pos (by simpa using h)]
  ·have:n=0:=by omega
   subst this;rfl
 | succ x =>
  rw [twoF];simp only [Bool.and_eq_true,decide_eq_true_eq,Nat.add_sub_cancel,Nat.succ_ne_zero,if_false,Nat.add_eq_zero_iff,Nat.one_ne_zero,and_false]
def tw1:Option (Nat × Nat)→Nat | some (a,_)=>a | none=>0
def tw2:Option (Nat × Nat)→Nat | some (_,b)=>b | none=>0
theorem fstwo_c (n most:Nat) (w:World) (hn:n<4294967296) (hm:most<4294967296) :
  Calls Tryz.prog 219 #[.int .u64 (n:Int),.int .u64 (most:Int)] w fun e w'=>e=.returned (.tuple #[.agg #[.int .u64 (tw1 (twoF n (min (rt n) most)):Nat),.int .u64 (tw2 (twoF n (min (rt n) most)):Nat)],.bool (twoF n (min (rt n) most)).isSome])∧Below w.heap.size w w':=by
 have h1:=fsroot_c n w hn;have h2:=rt_lt (k:=65536) (show n<65536*65536 by omega);have h3:=(rt_spec n).1;obtain ⟨x0,hx0⟩:∃x,x=min (rt n) most:=⟨_,rfl⟩;have hx1:x0≤rt n:=by omega
 have hxx:x0*x0≤n:=Nat.le_trans (Nat.mul_le_mul hx1 hx1) h3;have hx2:x0<65536:=by omega
 obtain ⟨R,hR⟩:∃R,R=twoF n x0:=⟨_,rfl⟩;rw [←hx0,←hR];have HR:=Lib.hid hR;have HX:=Lib.hid hx0;have HXR:Hid (True):=trivial;have HXX:=Lib.hid hxx;obtain ⟨r,hr⟩:∃r,r=rt n:=⟨_,rfl⟩;rw [←hr] at HX;have HRR:=Lib.hid hr;have hrb:min (r:Int) (most:Int)=(x0:Int):=by have:=HX.out;omega
 have HRT:Hid (∀w,Calls Tryz.prog 171 #[.int .u64 (n:Int)] w fun e w'=>e=.returned (.int .u64 (r:Nat))∧w=w'):=fun w=>by rw [HRR.out];exact fsroot_c n w hn
 have hA:=Blk.new w #[.int .u64 0,.int .u64 0] 251;have hBW:=b1 w (.cells #[.int .u64 0,.int .u64 0] 251);clear h1 h2 h3 hx1 hxx hR hx0 hr HRR HXR;go_enter Tryz.func219,Tryz.ntmps219
 go_wp2_with fail
 refine (HRT.out _).mono ?_;rintro e w' ⟨rfl,rfl⟩;go_wp2;generalize w.alloc (.cells #[.int .u64 0,.int .u64 0] 251)=w1 at hA hBW ⊢;obtain ⟨g,hg⟩:∃g,w.heap.size=g:=⟨_,rfl⟩;rw [hg] at hA ⊢;have HG:=Lib.hid hg;clear hg;replace hA:Blk w1 g 251 [.int .u64 0,.int .u64 0]:=hA;have hAl:=hA.lt;go_loop [6] (fun v=>∃x:Nat,v=.int .u64 x∧x<65536∧Hid (x*x≤n)∧Hid (R=twoF n x)) (fun v=>(intOf v).toNat)
 case atStart=>exact ⟨x0,rfl,hx2,HXX,HR⟩
 case round =>
  clear HR HXX hrb HX hx2;obtain ⟨x,rfl,hx,HXX,HR⟩:=hrel;have HS:=Lib.hid (HR.out.trans (two_step n x));clear HR;obtain ⟨q,hq⟩:∃q,q=x*x:=⟨_,rfl⟩;have hq2:q≤65536*65536:=by rw [hq];exact Nat.mul_le_mul (by omega) (by omega)
  have hqn:q≤n:=by rw [hq];exact HXX.out
  have hz:2*x*x=2*q:=by rw [hq,Nat.mul_assoc]
  rw [hz,←hq] at HS;have c1:IntKind.u64.wrap (2*(x:Int))=2*(x:Int):=by rw [IntKind.wrap_u64];omega
  have c2:IntKind.u64.wrap (2*(x:Int)*(x:Int))=((2*q:Nat):Int):=by
   rw [show 2*(x:Int)*(x:Int)=((2*q:Nat):Int) by rw [←hz];simp only [Int.natCast_mul];rfl,IntKind.wrap_u64];omega
  have c3:IntKind.u64.wrap ((x:Int)*(x:Int))=(q:Int):=by rw [show (x:Int)*(x:Int)=(q:Int) by rw [hq];exact (Int.natCast_mul x x).symm,IntKind.wrap_u64];omega
  have c4:IntKind.u64.wrap ((n:Int)-(q:Int))=((n-q:Nat):Int):=by rw [IntKind.wrap_u64];omega
  have hN:=hn;clear hq hz;by_cases h1:2*q<n
  ·have HX:Hid (R=none):=HS.out.trans (if_pos h1);have h1':¬ n≤2*q:=by omega
   have h1i:¬ (n:Int)≤((2*q:Nat):Int):=by omega
   clear HS;obtain ⟨hAc0,hAf0,hAc1,hAf1⟩:=hA.x2;go_wp2;refine bodyPost_ret (v:=.tuple #[.agg #[.int .u64 0,.int .u64 0],.bool false]) ?_ rfl ?_
   ·simp [results,Tryz.results219,go_sem,hAc0,hAc1,hAl]
   ·rw [HX.out];exact ⟨rfl,(hBW.setCell (Nat.le_of_eq HG.out) _).setCell (Nat.le_of_eq HG.out) _⟩
  ·have h1':n≤2*q:=by omega
   replace HS:=Lib.hid (HS.out.trans (if_neg h1));obtain ⟨d,hd⟩:∃d,d=n-q:=⟨_,rfl⟩;rw [←hd] at HS c4;have hd2:d<4294967296:=by omega
   obtain ⟨bo,hbo⟩:∃b,b=oneB d x:=⟨_,rfl⟩;obtain ⟨r2,hr2⟩:∃r,r=rt d:=⟨_,rfl⟩;have HON:Hid (∀w,Calls Tryz.prog 259 #[.int .u64 (d:Int),.int .u64 (x:Int)] w fun e w'=>e=.returned (.tuple #[.int .u64 (r2:Nat),.bool bo])∧w=w'):=fun w=>by rw [hr2,hbo];exact fsone_c d x w hd2
   rw [←hbo,←hr2] at HS;clear h1 hd hbo hr2 hd2;go_wp2_with fail
   refine (HON.out _).mono ?_;rintro e w' ⟨rfl,rfl⟩;cases bo
   ·replace HS:=Lib.hid (HS.out.trans (if_neg (by decide)));by_cases hx0:x=0
    ·have HX:Hid (R=none):=HS.out.trans (if_pos hx0);have hxe:((x:Int)==0)=true:=by rw [hx0];rfl
     clear HS;obtain ⟨hAc0,hAf0,hAc1,hAf1⟩:=hA.x2;go_wp2;refine bodyPost_ret (v:=.tuple #[.agg #[.int .u64 0,.int .u64 0],.bool false]) ?_ rfl ?_
     ·simp [results,Tryz.results219,go_sem,hAc0,hAc1,hAl]
     ·rw [HX.out];exact ⟨rfl,(hBW.setCell (Nat.le_of_eq HG.out) _).setCell (Nat.le_of_eq HG.out) _⟩
    ·have HX:Hid (R=twoF n (x-1)):=HS.out.trans (if_neg hx0);have hxe:((x:Int)==0)=false:=by rw [beq_eq_false_iff_ne];omega
     have c5:IntKind.u64.wrap ((x:Int)-1)=((x-1:Nat):Int):=by rw [IntKind.wrap_u64];omega
     have HQ2:Hid ((x-1)*(x-1)≤n):=Nat.le_trans (Nat.mul_le_mul (show x-1≤x by omega) (show x-1≤x by omega)) HXX.out;clear HS HXX;go_wp2;go_round
     case rel=>exact ⟨x-1,rfl,by omega,HQ2,HX⟩
     case measure=>simp [intOf];omega
   ·have HX:Hid (R=some (x,r2)):=HS.out.trans (if_pos rfl);clear HS HXX;obtain ⟨hAc0,hAf0,hAc1,hAf1⟩:=hA.x2;go_wp2;refine bodyPost_ret (v:=.tuple #[.agg #[.int .u64 (x:Int),.int .u64 (r2:Int)],.bool true]) ?_ rfl ?_
    ·simp [results,Tryz.results219,go_sem,hAc0,hAc1,hAf0,hAf1,hAl]
    ·rw [HX.out];exact ⟨rfl,(hBW.setCell (Nat.le_of_eq HG.out) _).setCell (Nat.le_of_eq HG.out) _⟩
theorem three_step (n x:Nat):threeF n x=if 3*x*x<n then none else match twoF (n-x*x) (min (rt (n-x*x)) x) with
  | some (y,z)=>some (x,y,z)
  | none=>if x=0 then none else threeF n (x-1):=by
 cases x with
 | zero =>
  rw [threeF];by_cases h:0<n
  ·rw [if_pos h,if_pos (by simpa using h)]
  ·have:n=0:=by omega
   subst this;rfl
 | succ x =>
  rw [threeF];simp only [Nat.add_sub_cancel,Nat.succ_ne_zero,if_false,Nat.add_eq_zero_iff,Nat.one_ne_zero,and_false]
def th1:Option (Nat × Nat × Nat)→Nat | some (a,_,_)=>a | none=>0
def th2:Option (Nat × Nat × Nat)→Nat | some (_,b,_)=>b | none=>0
def th3:Option (Nat × Nat × Nat)→Nat | some (_,_,c)=>c | none=>0
def thM (x:Nat) (r:Option (Nat × Nat × Nat)):Option (Nat × Nat)→Option (Nat × Nat × Nat) | some (y,z)=>some (x,y,z) | none=>r
theorem fsthree_c (n most:Nat) (w:World) (hn:n<4294967296) (hm:most<4294967296) :
  Calls Tryz.prog 173 #[.int .u64 (n:Int),.int .u64 (most:Int)] w fun e w'=>e=.returned (.tuple #[.agg #[.int .u64 (th1 (threeF n (min (rt n) most)):Nat),.int .u64 (th2 (threeF n (min (rt n) most)):Nat),.int .u64 (th3 (threeF n (min (rt n) most)):Nat)],.bool (threeF n (min (rt n) most)).isSome])∧Below w.heap.size w w':=by
 have h1:=fsroot_c n w hn;have h2:=rt_lt (k:=65536) (show n<65536*65536 by omega);have h3:=(rt_spec n).1;obtain ⟨x0,hx0⟩:∃x,x=min (rt n) most:=⟨_,rfl⟩;have hx1:x0≤rt n:=by omega
 have hxx:x0*x0≤n:=Nat.le_trans (Nat.mul_le_mul hx1 hx1) h3;have hx2:x0<65536:=by omega
 obtain ⟨R,hR⟩:∃R,R=threeF n x0:=⟨_,rfl⟩;rw [←hx0,←hR];have HR:=Lib.hid hR;have HX:=Lib.hid hx0;have HXX:=Lib.hid hxx;obtain ⟨r,hr⟩:∃r,r=rt n:=⟨_,rfl⟩;rw [←hr] at HX;have HRR:=Lib.hid hr;have hrb:min (r:Int) (most:Int)=(x0:Int):=by have:=HX.out;omega
 have HRT:Hid (∀w,Calls Tryz.prog 171 #[.int .u64 (n:Int)] w fun e w'=>e=.returned (.int .u64 (r:Nat))∧w=w'):=fun w=>by rw [HRR.out];exact fsroot_c n w hn
 have hA:=Blk.new w #[.int .u64 0,.int .u64 0,.int .u64 0] 227;have hBW:=b1 w (.cells #[.int .u64 0,.int .u64 0,.int .u64 0] 227);clear h1 h2 h3 hx1 hxx hR hx0 hr HRR;go_enter Tryz.func173,Tryz.ntmps173
 go_wp2_with fail
 refine (HRT.out _).mono ?_;rintro e w' ⟨rfl,rfl⟩;go_wp2;generalize w.alloc (.cells #[.int .u64 0,.int .u64 0,.int .u64 0] 227)=w1 at hA hBW ⊢;obtain ⟨g,hg⟩:∃g,w.heap.size=g:=⟨_,rfl⟩;rw [hg] at hA ⊢;have HG:=Lib.hid hg;clear hg;replace hA:Blk w1 g 227 [.int .u64 0,.int .u64 0,.int .u64 0]:=hA;go_loopw [6] (fun v wr=>∃x:Nat,v=.int .u64 x∧x<65536∧Hid (x*x≤n)∧Hid (R=threeF n x)∧Below w1.heap.size w1 wr) (fun v _=>(intOf v).toNat)
 case atStart=>exact ⟨x0,rfl,hx2,HXX,HR,Below.refl _ _⟩
 case round =>
  clear HR HXX hrb HX hx2;obtain ⟨x,rfl,hx,HXX,HR,hbr⟩:=hrel;obtain ⟨wp,hwp⟩:∃wp,wp=wr:=⟨_,rfl⟩;subst hwp;have hAp:=hA.after hbr;have hbp:=bt hBW hbr;have hAl:=hAp.lt;obtain ⟨q,hq⟩:∃q,q=x*x:=⟨_,rfl⟩;have hq2:q≤65536*65536:=by rw [hq];exact Nat.mul_le_mul (by omega) (by omega)
  have hqn:q≤n:=by rw [hq];exact HXX.out
  have hz:3*x*x=3*q:=by rw [hq,Nat.mul_assoc]
  obtain ⟨d,hd⟩:∃d,d=n-q:=⟨_,rfl⟩;have hd2:d<4294967296:=by omega
  have HTW:=fstwo_c d x;obtain ⟨T2,hT2⟩:∃t,t=twoF d (min (rt d) x):=⟨_,rfl⟩
  have HS:Hid (R=if 3*q<n then none else thM x (if x=0 then none else threeF n (x-1)) T2):=by
   rw [Hid,HR.out,three_step n x,hz,←hq,←hd,←hT2];split <;> (cases T2 <;> rfl)
  rw [←hT2] at HTW;have HTT:Hid (∀w,Calls Tryz.prog 219 #[.int .u64 (d:Int),.int .u64 (x:Int)] w fun e w'=>e=.returned (.tuple #[.agg #[.int .u64 (tw1 T2:Nat),.int .u64 (tw2 T2:Nat)],.bool T2.isSome])∧Below w.heap.size w w'):=fun w=>HTW w hd2 (by omega)
  have c1:IntKind.u64.wrap (3*(x:Int))=3*(x:Int):=by rw [IntKind.wrap_u64];omega
  have c2:IntKind.u64.wrap (3*(x:Int)*(x:Int))=((3*q:Nat):Int):=by
   rw [show 3*(x:Int)*(x:Int)=((3*q:Nat):Int) by rw [←hz];simp only [Int.natCast_mul];rfl,IntKind.wrap_u64];omega
  have c3:IntKind.u64.wrap ((x:Int)*(x:Int))=(q:Int):=by rw [show (x:Int)*(x:Int)=(q:Int) by rw [hq];exact (Int.natCast_mul x x).symm,IntKind.wrap_u64];omega
  have c4:IntKind.u64.wrap ((n:Int)-(q:Int))=(d:Int):=by rw [IntKind.wrap_u64];omega
  clear hq hz hT2 HTW HR hd hd2;by_cases h1:3*q<n
  ·have HX:Hid (R=none):=HS.out.trans (if_pos h1);have h1':¬ n≤3*q:=by omega
   have h1i:¬ (n:Int)≤((3*q:Nat):Int):=by omega
   clear HS HTT;obtain ⟨hApc0,hApf0,hApc1,hApf1,hApc2,hApf2⟩:=hAp.x3;go_wp2;refine bodyPost_ret (v:=.tuple #[.agg #[.int .u64 0,.int .u64 0,.int .u64 0],.bool false]) ?_ rfl ?_
   ·simp [results,Tryz.results173,go_sem,hApc0,hApc1,hApc2,hAl]
   ·rw [HX.out];exact ⟨rfl,((hbp.setCell (Nat.le_of_eq HG.out) _).setCell (Nat.le_of_eq HG.out) _).setCell (Nat.le_of_eq HG.out) _⟩
  ·have h1':n≤3*q:=by omega
   replace HS:=Lib.hid (HS.out.trans (if_neg h1));clear h1;go_wp2_with fail
   refine (HTT.out _).mono ?_;rintro e w2 ⟨rfl,hb2⟩;clear HTT;cases T2 with
   | none =>
    replace HS:Hid (R=if x=0 then none else threeF n (x-1)):=HS;simp only [tw1,tw2,Option.isSome_none];have hA2:=hAp.after hb2;have hb3:=bt hbp hb2;by_cases hx0:x=0
    ·have HX:Hid (R=none):=HS.out.trans (if_pos hx0);have hxe:((x:Int)==0)=true:=by rw [hx0];rfl
     have hA3:=hA2.alloc (.cells #[.int .u64 0,.int .u64 0] 251);have hb4:=ba hb3 (.cells #[.int .u64 0,.int .u64 0] 251);have hA3l:=hA3.lt;clear HS;obtain ⟨hA3c0,hA3f0,hA3c1,hA3f1,hA3c2,hA3f2⟩:=hA3.x3;go_wp2;refine bodyPost_ret (v:=.tuple #[.agg #[.int .u64 0,.int .u64 0,.int .u64 0],.bool false]) ?_ rfl ?_
     ·simp [results,Tryz.results173,go_sem,hA3c0,hA3c1,hA3c2,hA3l]
     ·rw [HX.out];exact ⟨rfl,((hb4.setCell (Nat.le_of_eq HG.out) _).setCell (Nat.le_of_eq HG.out) _).setCell (Nat.le_of_eq HG.out) _⟩
    ·have HX:Hid (R=threeF n (x-1)):=HS.out.trans (if_neg hx0);have hxe:((x:Int)==0)=false:=by rw [beq_eq_false_iff_ne];omega
     have c5:IntKind.u64.wrap ((x:Int)-1)=((x-1:Nat):Int):=by rw [IntKind.wrap_u64];omega
     have HQ2:Hid ((x-1)*(x-1)≤n):=Nat.le_trans (Nat.mul_le_mul (show x-1≤x by omega) (show x-1≤x by omega)) HXX.out;have hbn:=ba (bt hbr hb2) (.cells #[.int .u64 0,.int .u64 0] 251);clear HS HXX;go_wp2;go_roundw
     case rel=>exact ⟨x-1,rfl,by omega,HQ2,HX,hbn⟩
     case measure=>simp [intOf];omega
   | some yz =>
    obtain ⟨y,z⟩:=yz;have HX:Hid (R=some (x,y,z)):=HS;clear HS;simp only [tw1,tw2,Option.isSome_some];have hA2:=(hAp.after hb2).alloc (.cells #[.int .u64 (y:Int),.int .u64 (z:Int)] 251);have hC2:=Blk.new w2 #[.int .u64 (y:Int),.int .u64 (z:Int)] 251;have hb3:=ba (bt hbp hb2) (.cells #[.int .u64 (y:Int),.int .u64 (z:Int)] 251);have hA2l:=hA2.lt;have hC2l:=hC2.lt;have hne:¬ w2.heap.size=g:=by have:=(hAp.after hb2).lt;omega
    obtain ⟨hA2c0,hA2f0,hA2c1,hA2f1,hA2c2,hA2f2⟩:=hA2.x3;obtain ⟨hC2c0,hC2f0,hC2c1,hC2f1⟩:=hC2.x2;go_wp2;refine bodyPost_ret (v:=.tuple #[.agg #[.int .u64 (x:Int),.int .u64 (y:Int),.int .u64 (z:Int)],.bool true]) ?_ rfl ?_
    ·simp [results,Tryz.results173,go_sem,hA2c0,hA2c1,hA2c2,hA2f0,hA2f1,hA2f2,hA2l]
    ·rw [HX.out];exact ⟨rfl,((hb3.setCell (Nat.le_of_eq HG.out) _).setCell (Nat.le_of_eq HG.out) _).setCell (Nat.le_of_eq HG.out) _⟩
end
section
open Go.RowKit Go.Shelf
theorem small_long (n:Nat) (w:World) (h:256^8≤n) (h2:n<256^128) :
  Calls Tryz.prog 153 #[.string (E n)] w fun e w'=>e=.returned (.tuple #[.int .u64 0,.bool false])∧w=w':=by
 have h1:8<(E n).size:=by
  apply Classical.byContradiction
  intro hn;have:=(E_size_le n 8).1 (by omega);omega
 have HV:Hid (∀w,Calls Tryz.prog 67 #[.string (E n)] w fun e w'=>e=.returned (.bool true)∧w=w'):=fun w=>validE_c n w h2
 have h3:(8:Int)<((E n).size:Int):=by omega
 clear h h2;go_enter Tryz.func153,Tryz.ntmps153
 go_wp2_with fail
 refine (HV.out _).mono ?_;rintro e w' ⟨rfl,rfl⟩;go_wp2;go_ret2
 exact ⟨rfl,rfl⟩
theorem fsmall_c (n:Nat) (w:World) (h:n<256^128) :
  Calls Tryz.prog 170 #[.string (E n)] w fun e w'=>e=.returned (.tuple #[.int .u64 (if n<4294967296 then n else 0:Nat),.int .i64 (if n<4294967296 then 0 else 5)])∧w=w':=by
 have HV:Hid (∀w,Calls Tryz.prog 67 #[.string (E n)] w fun e w'=>e=.returned (.bool true)∧w=w'):=fun w=>validE_c n w h
 by_cases h8:n<256^8
 ·have HS:Hid (∀w,Calls Tryz.prog 153 #[.string (E n)] w fun e w'=>e=.returned (.tuple #[.int .u64 n,.bool true])∧w=w'):=fun w=>small_c n w h8
  clear h8 h;by_cases h1:n<4294967296
  ·rw [if_pos h1,if_pos h1];obtain ⟨kb,hkb⟩:∃k:Int,k=4294967296:=⟨_,rfl⟩;have h2:¬ kb≤(n:Int):=by omega
   clear h1;go_enter Tryz.func170,Tryz.ntmps170
   go_wp2_with fail
   refine (HV.out _).mono ?_;rintro e w' ⟨rfl,rfl⟩;go_wp2_with fail
   refine (HS.out _).mono ?_;rintro e w' ⟨rfl,rfl⟩;go_upto_region 4 with fail
   rw [←hkb];clear hkb;go_wp2;go_ret2
   exact ⟨rfl,rfl⟩
  ·rw [if_neg h1,if_neg h1];obtain ⟨kb,hkb⟩:∃k:Int,k=4294967296:=⟨_,rfl⟩;have h2:kb≤(n:Int):=by omega
   clear h1;go_enter Tryz.func170,Tryz.ntmps170
   go_wp2_with fail
   refine (HV.out _).mono ?_;rintro e w' ⟨rfl,rfl⟩;go_wp2_with fail
   refine (HS.out _).mono ?_;rintro e w' ⟨rfl,rfl⟩;go_upto_region 4 with fail
   rw [←hkb];clear hkb;go_wp2;go_ret2
   exact ⟨rfl,rfl⟩
 ·have hbig:¬ n<4294967296:=fun h9=>h8 (Nat.lt_of_lt_of_le h9 (by decide))
  rw [if_neg hbig,if_neg hbig];have HS:Hid (∀w,Calls Tryz.prog 153 #[.string (E n)] w fun e w'=>e=.returned (.tuple #[.int .u64 0,.bool false])∧w=w'):=fun w=>small_long n w (by omega) h
  clear h8 h hbig;go_enter Tryz.func170,Tryz.ntmps170
  go_wp2_with fail
  refine (HV.out _).mono ?_;rintro e w' ⟨rfl,rfl⟩;go_wp2_with fail
  refine (HS.out _).mono ?_;rintro e w' ⟨rfl,rfl⟩;go_wp2;go_ret2
  exact ⟨rfl,rfl⟩
def fourF (n:Nat):Nat→Option (Nat × Nat × Nat × Nat)
 | 0=>if sevF 16 n=false then (match threeF n 0 with | some (x,y,z)=>some (0,x,y,z) | none=>none) else none
 | a+1=>if sevF 16 (n-(a+1)*(a+1))=false then (match threeF (n-(a+1)*(a+1)) (min (rt (n-(a+1)*(a+1))) (a+1)) with | some (x,y,z)=>some (a+1,x,y,z) | none=>fourF n a) else fourF n a
def foM (a:Nat) (r:Option (Nat × Nat × Nat × Nat)):Option (Nat × Nat × Nat)→Option (Nat × Nat × Nat × Nat) | some (x,y,z)=>some (a,x,y,z) | none=>r
theorem four_step (n a:Nat):fourF n a=if sevF 16 (n-a*a)=false then foM a (if a=0 then none else fourF n (a-1)) (threeF (n-a*a) (min (rt (n-a*a)) a)) else if a=0 then none else fourF n (a-1):=by
 cases a with
 | zero =>
  rw [fourF];simp only [Nat.mul_zero,Nat.sub_zero,Nat.min_zero,if_true];split
  ·cases threeF n 0 <;> rfl
  ·rfl
 | succ a =>
  rw [fourF];simp only [Nat.add_sub_cancel,Nat.succ_ne_zero,if_false,Nat.add_eq_zero_iff,Nat.one_ne_zero,and_false];split
  ·cases threeF (n-(a+1)*(a+1)) (min (rt (n-(a+1)*(a+1))) (a+1)) <;> rfl
  ·rfl
theorem twoF_le {n a b:Nat}:∀{x:Nat},twoF n x=some (a,b)→a≤x∧b≤x
 | 0,h=>by
  rw [twoF] at h;split at h
  ·cases h
  ·cases h;exact ⟨Nat.le_refl _,Nat.le_refl _⟩
 | x+1,h=>by
  rw [twoF] at h;split at h
  ·cases h
  ·split at h
   ·rename_i h2;cases h
    exact ⟨Nat.le_refl _,h2.2⟩
   ·have:=twoF_le h;omega
theorem threeF_le {n a b c:Nat}:∀{x:Nat},threeF n x=some (a,b,c)→a≤x∧b≤x∧c≤x
 | 0,h=>by
  rw [threeF] at h;split at h
  ·cases h
  ·cases h;exact ⟨Nat.le_refl _,Nat.le_refl _,Nat.le_refl _⟩
 | x+1,h=>by
  rw [threeF] at h;split at h
  ·cases h
  ·split at h
   ·rename_i y z h2;have h3:=twoF_le h2;cases h
    omega
   ·have:=threeF_le h;omega
def foV:Option (Nat × Nat × Nat × Nat)→List Value | some (a,x,y,z)=>[.string (E a),.string (E x),.string (E y),.string (E z)] | none=>[.string ⟨#[]⟩,.string ⟨#[]⟩,.string ⟨#[]⟩,.string ⟨#[]⟩]
theorem fsfour_c (n:Nat) (w:World) (hn:n<4294967296) :
  Calls Tryz.prog 107 #[.string (E n)] w fun e w'=>e=.returned (.tuple #[.agg (foV (fourF n (rt n))).toArray,.int .i64 0])∧Below w.heap.size w w':=by
 have HSM:Hid (∀w,Calls Tryz.prog 170 #[.string (E n)] w fun e w'=>e=.returned (.tuple #[.int .u64 (n:Nat),.int .i64 0])∧w=w'):=fun w=>by
  have h:=fsmall_c n w (Nat.lt_of_lt_of_le hn (by decide));rwa [if_pos hn,if_pos hn] at h
 have h2:=rt_lt (k:=65536) (show n<65536*65536 by omega);have h3:=(rt_spec n).1;obtain ⟨R,hR⟩:∃R,R=fourF n (rt n):=⟨_,rfl⟩;rw [←hR];have HR:=Lib.hid hR;have HRT:Hid (∀w,Calls Tryz.prog 171 #[.int .u64 (n:Int)] w fun e w'=>e=.returned (.int .u64 (rt n:Nat))∧w=w'):=fun w=>fsroot_c n w hn
 have HXX:=Lib.hid h3;generalize rt n=r at h2 HR HRT HXX;have hA:=blk2a w #[.string ⟨#[]⟩,.string ⟨#[]⟩,.string ⟨#[]⟩,.string ⟨#[]⟩] #[.string ⟨#[]⟩,.string ⟨#[]⟩,.string ⟨#[]⟩,.string ⟨#[]⟩] 171 171;have hC:=blk2b w #[.string ⟨#[]⟩,.string ⟨#[]⟩,.string ⟨#[]⟩,.string ⟨#[]⟩] #[.string ⟨#[]⟩,.string ⟨#[]⟩,.string ⟨#[]⟩,.string ⟨#[]⟩] 171 171;have hBW:=b2 w (.cells #[.string ⟨#[]⟩,.string ⟨#[]⟩,.string ⟨#[]⟩,.string ⟨#[]⟩] 171) (.cells #[.string ⟨#[]⟩,.string ⟨#[]⟩,.string ⟨#[]⟩,.string ⟨#[]⟩] 171);clear h3 hR;go_enter Tryz.func107,Tryz.ntmps107
 go_upto_region 1 with fail
 go_step3
 go_wp2_with fail
 refine (HSM.out _).mono ?_;rintro e w' ⟨rfl,rfl⟩;go_wp2;go_step3
 go_wp2_with fail
 refine (HRT.out _).mono ?_;rintro e w' ⟨rfl,rfl⟩;go_wp2;generalize (w.alloc (.cells #[.string ⟨#[]⟩,.string ⟨#[]⟩,.string ⟨#[]⟩,.string ⟨#[]⟩] 171)).alloc (.cells #[.string ⟨#[]⟩,.string ⟨#[]⟩,.string ⟨#[]⟩,.string ⟨#[]⟩] 171)=w1 at hA hC hBW ⊢;obtain ⟨g2,hg2⟩:∃g,w.heap.size=g:=⟨_,rfl⟩;obtain ⟨g6,hg6⟩:∃g,w.heap.size+1=g:=⟨_,rfl⟩;rw [hg6] at hC ⊢;rw [hg2] at hA ⊢;have HG:Hid (w.heap.size≤g2∧w.heap.size≤g6∧g2≠g6):=by rw [Hid];omega
 clear hg2 hg6;replace hA:Blk w1 g2 171 [.string ⟨#[]⟩,.string ⟨#[]⟩,.string ⟨#[]⟩,.string ⟨#[]⟩]:=hA;replace hC:Blk w1 g6 171 [.string ⟨#[]⟩,.string ⟨#[]⟩,.string ⟨#[]⟩,.string ⟨#[]⟩]:=hC;go_loopw [7] (fun v wr=>∃a:Nat,v=.int .u64 a∧a<65536∧Hid (a*a≤n)∧Hid (R=fourF n a)∧Below w1.heap.size w1 wr) (fun v _=>(intOf v).toNat)
 case atStart=>exact ⟨r,rfl,h2,HXX,HR,Below.refl _ _⟩
 case round =>
  clear HR HXX h2 HRT;obtain ⟨a,rfl,ha,HXX,HR,hbr⟩:=hrel;obtain ⟨wp,hwp⟩:∃wp,wp=wr:=⟨_,rfl⟩;subst hwp;have hAp:=hA.after hbr;have hCp:=hC.after hbr;have hbp:=bt hBW hbr;obtain ⟨q,hq⟩:∃q,q=a*a:=⟨_,rfl⟩;have hq2:q≤65536*65536:=by rw [hq];exact Nat.mul_le_mul (by omega) (by omega)
  have hqn:q≤n:=by rw [hq];exact HXX.out
  obtain ⟨d,hd⟩:∃d,d=n-q:=⟨_,rfl⟩;have hd2:d<4294967296:=by omega
  obtain ⟨T3,hT3⟩:∃t,t=threeF d (min (rt d) a):=⟨_,rfl⟩;obtain ⟨sv,hsv⟩:∃b,b=sevF 16 d:=⟨_,rfl⟩
  have HS:Hid (R=if sv=false then foM a (if a=0 then none else fourF n (a-1)) T3 else if a=0 then none else fourF n (a-1)):=by
   rw [Hid,HR.out,four_step n a,←hq,←hd,←hT3,←hsv]
  have HSV:Hid (∀w,Calls Tryz.prog 172 #[.int .u64 (d:Int)] w fun e w'=>e=.returned (.bool sv)∧w=w'):=fun w=>by rw [hsv];exact fsseven_c d w hd2
  have HTT:Hid (∀w,Calls Tryz.prog 173 #[.int .u64 (d:Int),.int .u64 (a:Int)] w fun e w'=>e=.returned (.tuple #[.agg #[.int .u64 (th1 T3:Nat),.int .u64 (th2 T3:Nat),.int .u64 (th3 T3:Nat)],.bool T3.isSome])∧Below w.heap.size w w'):=fun w=>by rw [hT3];exact fsthree_c d a w hd2 (by omega)
  have HLE:Hid (∀x y z,T3=some (x,y,z)→x≤a∧y≤a∧z≤a):=fun x y z h=>by
   have h9:=threeF_le (hT3.symm.trans h);omega
  have c3:IntKind.u64.wrap ((a:Int)*(a:Int))=(q:Int):=by rw [show (a:Int)*(a:Int)=(q:Int) by rw [hq];exact (Int.natCast_mul a a).symm,IntKind.wrap_u64];omega
  have c4:IntKind.u64.wrap ((n:Int)-(q:Int))=(d:Int):=by rw [IntKind.wrap_u64];omega
  have c5:a≠0→IntKind.u64.wrap ((a:Int)-1)=((a-1:Nat):Int):=fun h=>by rw [IntKind.wrap_u64];omega
  have HQ2:Hid ((a-1)*(a-1)≤n):=Nat.le_trans (Nat.mul_le_mul (show a-1≤a by omega) (show a-1≤a by omega)) HXX.out;have C5:=Lib.hid c5;clear hq hT3 hsv HR hd hd2 hq2 hqn HXX c5;go_wp2_with fail
  refine (HSV.out _).mono ?_;rintro e w' ⟨rfl,rfl⟩;cases sv
  ·replace HS:=Lib.hid (HS.out.trans (if_pos rfl));go_wp2_with fail
   refine (HTT.out _).mono ?_;rintro e w2 ⟨rfl,hb2⟩;clear HTT;cases T3 with
   | none =>
    replace HS:Hid (R=if a=0 then none else fourF n (a-1)):=HS;simp only [th1,th2,th3,Option.isSome_none];have hbn:=ba (bt hbr hb2) (.cells #[.int .u64 0,.int .u64 0,.int .u64 0] 227);by_cases hx0:a=0
    ·have HX:Hid (R=none):=HS.out.trans (if_pos hx0);have hxe:((a:Int)==0)=true:=by rw [hx0];rfl
     have hA3:=(hAp.after hb2).alloc (.cells #[.int .u64 0,.int .u64 0,.int .u64 0] 227);have hC3:=(hCp.after hb2).alloc (.cells #[.int .u64 0,.int .u64 0,.int .u64 0] 227);have hb3:=ba (bt hbp hb2) (.cells #[.int .u64 0,.int .u64 0,.int .u64 0] 227);have hAl:=hA3.lt;have hCl:=hC3.lt;have e1:¬ g2=g6:=HG.out.2.2;have e2:¬ g6=g2:=fun e=>e1 e.symm
     clear HS hAp hCp hbp hb2 hbn;obtain ⟨hA3c0,hA3f0,hA3c1,hA3f1,hA3c2,hA3f2,hA3c3,hA3f3⟩:=hA3.x4;obtain ⟨hC3c0,hC3f0,hC3c1,hC3f1,hC3c2,hC3f2,hC3c3,hC3f3⟩:=hC3.x4;go_wp2;(try rw [Exit.noGoto_ret])
     refine bodyPost_ret (v:=.tuple #[.agg #[.string ⟨#[]⟩,.string ⟨#[]⟩,.string ⟨#[]⟩,.string ⟨#[]⟩],.int .i64 0]) ?_ rfl ?_
     ·simp [results,Tryz.results107,go_sem,hA3c0,hA3c1,hA3c2,hA3c3,hA3f0,hA3f1,hA3f2,hA3f3,hAl]
     ·rw [HX.out];exact ⟨rfl,((((hb3.setCell HG.out.1 _).setCell HG.out.1 _).setCell HG.out.1 _).setCell HG.out.1 _)⟩
    ·have HX:Hid (R=fourF n (a-1)):=HS.out.trans (if_neg hx0);have hxe:((a:Int)==0)=false:=by rw [beq_eq_false_iff_ne];omega
     have c5:=C5.out hx0;clear HS hAp hCp hbp hb2;go_wp2;go_roundw
     case rel=>exact ⟨a-1,rfl,by omega,HQ2,HX,hbn⟩
     case measure=>simp [intOf];omega
   | some xyz =>
    obtain ⟨x,y,z⟩:=xyz;have HX:Hid (R=some (a,x,y,z)):=HS;clear HS;simp only [th1,th2,th3,Option.isSome_some];obtain ⟨hx9,hy9,hz9⟩:=HLE.out x y z rfl;have hp8:(65536:Nat)≤256^8:=by decide
    have HO1:Hid (∀w,Calls Tryz.prog 131 #[.int .u64 (a:Int)] w fun e w'=>e=.returned (.string (E a))∧Below w.heap.size w w'):=fun w=>of_c a w (by omega)
    have HO2:Hid (∀w,Calls Tryz.prog 131 #[.int .u64 (x:Int)] w fun e w'=>e=.returned (.string (E x))∧Below w.heap.size w w'):=fun w=>of_c x w (by omega)
    have HO3:Hid (∀w,Calls Tryz.prog 131 #[.int .u64 (y:Int)] w fun e w'=>e=.returned (.string (E y))∧Below w.heap.size w w'):=fun w=>of_c y w (by omega)
    have HO4:Hid (∀w,Calls Tryz.prog 131 #[.int .u64 (z:Int)] w fun e w'=>e=.returned (.string (E z))∧Below w.heap.size w w'):=fun w=>of_c z w (by omega)
    have hA3:=(hAp.after hb2).alloc (.cells #[.int .u64 (x:Int),.int .u64 (y:Int),.int .u64 (z:Int)] 227);have hC3:=(hCp.after hb2).alloc (.cells #[.int .u64 (x:Int),.int .u64 (y:Int),.int .u64 (z:Int)] 227);have hD3:=Blk.new w2 #[.int .u64 (x:Int),.int .u64 (y:Int),.int .u64 (z:Int)] 227;have hb3:=ba (bt hbp hb2) (.cells #[.int .u64 (x:Int),.int .u64 (y:Int),.int .u64 (z:Int)] 227);have e1:¬ g2=g6:=HG.out.2.2;have e2:¬ g6=g2:=fun e=>e1 e.symm
    clear hx9 hy9 hz9 hp8 hAp hCp hbp hb2 HLE;go_upto_region 11 with fail
    generalize w2.alloc (.cells #[.int .u64 (x:Int),.int .u64 (y:Int),.int .u64 (z:Int)] 227)=w3 at hA3 hC3 hD3 hb3 ⊢;generalize w2.heap.size=gD at hD3 ⊢;replace hD3:Blk w3 gD 227 [.int .u64 (x:Int),.int .u64 (y:Int),.int .u64 (z:Int)]:=hD3;have hD3g0:=hD3.gcell 0;have hD3g1:=hD3.gcell 1;have hD3g2:=hD3.gcell 2;go_wp2_with fail
    refine wp_region_gw_tail 12 (by kernel_rfl) (by kernel_rfl) ?_;simp only [List.take_succ_cons,List.take_zero,List.drop_succ_cons,List.drop_zero];repeat (go_big_quiet_step (first | (go_at_call 131;with_reducible exact gw_of (HO1.out _)) | (go_at_call 131;with_reducible exact gw_of (HO2.out _)) | (go_at_call 131;with_reducible exact gw_of (HO3.out _)) | (go_at_call 131;with_reducible exact gw_of (HO4.out _))))
    refine wpQuiet_nil ?_;rintro w4 ⟨xw4,rfl⟩;have hb4:=gw_below xw4;generalize gw xw4=w4 at hb4;have hA4:=hA3.after hb4;have hC4:=hC3.after hb4;have hb5:=bt hb3 hb4;have hCl:=hC4.lt;have hAl:=hA4.lt;clear hA3 hC3 hb3 hb4 hD3;obtain ⟨hC4c0,hC4f0,hC4c1,hC4f1,hC4c2,hC4f2,hC4c3,hC4f3⟩:=hC4.x4;obtain ⟨hA4c0,hA4f0,hA4c1,hA4f1,hA4c2,hA4f2,hA4c3,hA4f3⟩:=hA4.x4;go_wp2;(try rw [Exit.noGoto_ret])
    refine bodyPost_ret (v:=.tuple #[.agg #[.string (E a),.string (E x),.string (E y),.string (E z)],.int .i64 0]) ?_ rfl ?_
    ·simp [results,Tryz.results107,go_sem,hA4c0,hA4c1,hA4c2,hA4c3,hA4f0,hA4f1,hA4f2,hA4f3,hC4c0,hC4c1,hC4c2,hC4c3,hC4f0,hC4f1,hC4f2,hC4f3,hAl,hCl,e1,e2]
    ·rw [HX.out];exact ⟨rfl,((((((((hb5.setCell HG.out.2.1 _).setCell HG.out.2.1 _).setCell HG.out.2.1 _).setCell HG.out.2.1 _).setCell HG.out.1 _).setCell HG.out.1 _).setCell HG.out.1 _).setCell HG.out.1 _)⟩
  ·replace HS:=Lib.hid (HS.out.trans (if_neg (by decide)));clear HTT HLE;by_cases hx0:a=0
   ·have HX:Hid (R=none):=HS.out.trans (if_pos hx0);have hxe:((a:Int)==0)=true:=by rw [hx0];rfl
    clear HS;have hAl:=hAp.lt;have hCl:=hCp.lt;have e1:¬ g2=g6:=HG.out.2.2;have e2:¬ g6=g2:=fun e=>e1 e.symm
    obtain ⟨hApc0,hApf0,hApc1,hApf1,hApc2,hApf2,hApc3,hApf3⟩:=hAp.x4;obtain ⟨hCpc0,hCpf0,hCpc1,hCpf1,hCpc2,hCpf2,hCpc3,hCpf3⟩:=hCp.x4;go_wp2;(try rw [Exit.noGoto_ret])
    refine bodyPost_ret (v:=.tuple #[.agg #[.string ⟨#[]⟩,.string ⟨#[]⟩,.string ⟨#[]⟩,.string ⟨#[]⟩],.int .i64 0]) ?_ rfl ?_
    ·simp [results,Tryz.results107,go_sem,hApc0,hApc1,hApc2,hApc3,hApf0,hApf1,hApf2,hApf3,hAl]
    ·rw [HX.out];exact ⟨rfl,((((hbp.setCell HG.out.1 _).setCell HG.out.1 _).setCell HG.out.1 _).setCell HG.out.1 _)⟩
   ·have HX:Hid (R=fourF n (a-1)):=HS.out.trans (if_neg hx0);have hxe:((a:Int)==0)=false:=by rw [beq_eq_false_iff_ne];omega
    have c5:=C5.out hx0;clear HS;go_wp2;go_roundw
    case rel=>exact ⟨a-1,rfl,by omega,HQ2,HX,hbr⟩
    case measure=>simp [intOf];omega
end
end Go.Proofs.YteahlbhjhjhljaaGreatDoor
