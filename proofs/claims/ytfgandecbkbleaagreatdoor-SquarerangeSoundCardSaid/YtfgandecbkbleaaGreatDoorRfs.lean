/- ref25: the searches of the reference,as the same plain functions. -/
import Derived.Test.YtfgandecbkbleaaGreatDoorInt4
import Derived.Test.YtfgandecbkbleaaGreatDoorRef6
set_option linter.unusedVariables false
set_option linter.unusedSimpArgs false
set_option maxRecDepth 100000
set_option maxHeartbeats 16000000
namespace Go.Proofs.YtfgandecbkbleaaGreatDoor
section
/- foursquares: the searches,as plain functions. -/
open Go.RowKit Go.Shelf
def rt:Nat→Nat
 | 0=>0
 | n+1=>if (rt n+1)*(rt n+1)≤n+1 then rt n+1 else rt n
theorem rt_spec (n:Nat):rt n*rt n≤n∧n<(rt n+1)*(rt n+1):=by
 induction n with
 | zero=>exact ⟨Nat.le_refl _,Nat.one_pos⟩
 | succ n ih =>
  unfold rt;split
  ·rename_i h;refine ⟨h,?_⟩
   have h2:(rt n+1+1)*(rt n+1+1)=(rt n+1)*(rt n+1)+2*(rt n+1)+1:=by
    simp only [Nat.add_mul,Nat.mul_add,Nat.mul_one,Nat.one_mul];omega
   omega
  ·omega
theorem rt_uniq {n r:Nat} (h1:r*r≤n) (h2:n<(r+1)*(r+1)):r=rt n:=by
 obtain ⟨h3,h4⟩:=rt_spec n;rcases Nat.lt_trichotomy r (rt n) with h | h | h
 ·have:=Nat.mul_le_mul (show r+1≤rt n by omega) (show r+1≤rt n by omega);omega
 ·exact h
 ·have:=Nat.mul_le_mul (show rt n+1≤r by omega) (show rt n+1≤r by omega);omega
theorem rt_lt {n k:Nat} (h:n<k*k):rt n<k:=by
 apply Classical.byContradiction
 intro h1;have h2:=Nat.mul_le_mul (show k≤rt n by omega) (show k≤rt n by omega);have:=(rt_spec n).1;omega
def twoF (n:Nat):Nat→Option (Nat × Nat)
 | 0=>if 0<n then none else some (0,0)
 | x+1=>if 2*(x+1)*(x+1)<n then none else if rt (n-(x+1)*(x+1))*rt (n-(x+1)*(x+1))=n-(x+1)*(x+1)∧rt (n-(x+1)*(x+1))≤x+1 then some (x+1,rt (n-(x+1)*(x+1))) else twoF n x
def threeF (n:Nat):Nat→Option (Nat × Nat × Nat)
 | 0=>if 0<n then none else some (0,0,0)
 | x+1=>if 3*(x+1)*(x+1)<n then none else match twoF (n-(x+1)*(x+1)) (min (rt (n-(x+1)*(x+1))) (x+1)) with
  | some (y,z)=>some (x+1,y,z)
  | none=>threeF n x
def sevF:Nat→Nat→Bool
 | 0,n=>n%8==7
 | k+1,n=>if 0<n∧n%4=0 then sevF k (n / 4) else n%8==7
theorem fsroot_c (n:Nat) (w:World) (hn:n<4294967296) :
  Calls Tryz.prog 96 #[.int .u64 (n:Int)] w fun e w'=>e=.returned (.int .u64 (rt n:Nat))∧w=w':=by
 have HN:=Lib.hid hn;clear hn;go_enter Tryz.func96,Tryz.ntmps96
 go_wp2;go_loop [3,4] (fun x b=>∃(r p c:Nat),x=.int .u64 r∧b=.int .u64 c∧c=p / 2∧1≤p∧r+p≤131072∧Hid (r*r≤n∧n<(r+p)*(r+p))∧(p=1∨p%2=0)∧Hid (∃j,p=2^j)) (fun _ b=>(intOf b).toNat)
 case atStart=>exact ⟨0,131072,65536,rfl,rfl,rfl,by omega,by omega,⟨by omega,by have:=HN.out;omega⟩,by omega,⟨17,rfl⟩⟩
 case round =>
  obtain ⟨r,p,b,rfl,rfl,hb,hp1,hrp,HR,hp2,HJ⟩:=hrel;by_cases h1:p=1
  ·have HE:Hid (r=rt n):=rt_uniq HR.out.1 (by rw [←h1];exact HR.out.2);have hb0:¬ 0<b:=by omega
   have hb1:¬ (0:Int)<(b:Int):=by omega
   clear hb h1 hp2 HJ HR hrp hp1;obtain ⟨q,hq⟩:∃q,q=rt n:=⟨_,rfl⟩;rw [←hq] at HE;have HQ:=Lib.hid hq;obtain rfl:r=q:=HE.out;clear hq HE;go_wp2;go_ret
   exact ⟨by rw [←HQ.out];rfl,rfl⟩
  ·have hpb:p=2*b:=by omega
   have hb0:0<b:=by omega
   have HJ2:Hid (∃j,b=2^j):=by
    obtain ⟨j,hj⟩:=HJ.out;cases j with
    | zero=>exact absurd hj h1
    | succ j=>exact ⟨j,by rw [Nat.pow_succ] at hj;omega⟩
   have hb2:b=1∨b%2=0:=by
    obtain ⟨j,hj⟩:=HJ2.out;cases j with
    | zero=>left;simpa using hj
    | succ j=>right;rw [Nat.pow_succ] at hj;omega
   clear hb h1 hp2 HJ;subst hpb;obtain ⟨y,hy⟩:∃y,y=r+b:=⟨_,rfl⟩;have hy2:y≤131072:=by omega
   obtain ⟨z,hz⟩:∃z,z=y*y:=⟨_,rfl⟩;have hz2:z≤131072*131072:=by rw [hz];exact Nat.mul_le_mul hy2 hy2
   have c1:IntKind.u64.wrap ((r:Int)+(b:Int))=(y:Int):=by rw [IntKind.wrap_u64];omega
   have c2:IntKind.u64.wrap ((y:Int)*(y:Int))=(z:Int):=by rw [show (y:Int)*(y:Int)=(z:Int) by rw [hz];exact (Int.natCast_mul y y).symm,IntKind.wrap_u64];omega
   have c3:IntKind.u64.wrap ((b:Int).tdiv 2)=((b / 2:Nat):Int):=by rw [Int.tdiv_eq_ediv_of_nonneg (by omega),IntKind.wrap_u64];omega
   have HYY:=Lib.hid hy;have HZZ:=Lib.hid hz;clear hy hz;by_cases h2:z≤n
   ·have HX:Hid (y*y≤n∧n<(y+b)*(y+b)):=⟨by rw [←HZZ.out];exact h2,by have:=HR.out.2;rwa [show r+2*b=y+b by have:=HYY.out;omega] at this⟩;go_wp2;go_round
    case rel=>exact ⟨y,b,b / 2,rfl,rfl,rfl,by omega,by have:=HYY.out;omega,HX,hb2,HJ2⟩
    case measure=>simp [intOf];omega
   ·have HX:Hid (r*r≤n∧n<(r+b)*(r+b)):=⟨HR.out.1,by rw [←HYY.out,←HZZ.out];omega⟩;go_wp2;go_round
    case rel=>exact ⟨r,b,b / 2,rfl,rfl,rfl,by omega,by omega,HX,hb2,HJ2⟩
    case measure=>simp [intOf];omega
def oneB (n most:Nat):Bool:=decide (rt n*rt n=n)&&decide (rt n≤most)
theorem fsone_c (n most:Nat) (w:World) (hn:n<4294967296) :
  Calls Tryz.prog 164 #[.int .u64 (n:Int),.int .u64 (most:Int)] w fun e w'=>e=.returned (.tuple #[.int .u64 (rt n:Nat),.bool (oneB n most)])∧w=w':=by
 have h1:=fsroot_c n w hn;have h2:=rt_lt (k:=65536) (show n<65536*65536 by omega);have HB:Hid (oneB n most=(decide (rt n*rt n=n)&&decide (rt n≤most))):=rfl;generalize rt n=r at h1 h2 HB ⊢;generalize oneB n most=bo at HB ⊢;have HR:=Lib.hid h1;obtain ⟨z,hz⟩:∃z,z=r*r:=⟨_,rfl⟩;rw [←hz] at HB;have hz2:z≤65536*65536:=by rw [hz];exact Nat.mul_le_mul (by omega) (by omega)
 have c2:IntKind.u64.wrap ((r:Int)*(r:Int))=(z:Int):=by rw [show (r:Int)*(r:Int)=(z:Int) by rw [hz];exact (Int.natCast_mul r r).symm,IntKind.wrap_u64];omega
 clear h1 hz hz2;go_enter Tryz.func164,Tryz.ntmps164
 go_wp2_with fail
 refine HR.out.mono ?_;rintro e w' ⟨rfl,rfl⟩;by_cases h3:z=n
 ·have e1:((z:Int)==(n:Int))=true:=by rw [h3];simp
  by_cases h4:r≤most
  ·have HX:Hid (bo=true):=by rw [Hid,HB.out,decide_eq_true h3,decide_eq_true h4];rfl
   clear HB;go_wp2;go_ret2
   exact ⟨r2 rfl (congrArg Value.bool HX.out.symm),rfl⟩
  ·have HX:Hid (bo=false):=by rw [Hid,HB.out,decide_eq_true h3,decide_eq_false h4];rfl
   clear HB;go_wp2;go_ret2
   exact ⟨r2 rfl (congrArg Value.bool HX.out.symm),rfl⟩
 ·have e1:((z:Int)==(n:Int))=false:=by rw [beq_eq_false_iff_ne];omega
  have HX:Hid (bo=false):=by rw [Hid,HB.out,decide_eq_false h3];rfl
  clear HB;go_wp2;go_ret2
  exact ⟨r2 rfl (congrArg Value.bool HX.out.symm),rfl⟩
theorem sev_eq (m:Nat):((m:Int)%8==7)=(m%8==7):=by
 rw [Bool.eq_iff_iff];simp only [beq_iff_eq];omega
theorem sev_stop {k m:Nat} (h:¬ (0<m∧m%4=0)):sevF k m=(m%8==7):=by
 cases k with
 | zero=>rfl
 | succ k=>rw [sevF,if_neg h]
theorem fsseven_c (n:Nat) (w:World) (hn:n<4294967296) :
  Calls Tryz.prog 97 #[.int .u64 (n:Int)] w fun e w'=>e=.returned (.bool (sevF 16 n))∧w=w':=by
 obtain ⟨b,hb⟩:∃b,b=sevF 16 n:=⟨_,rfl⟩;have HB:=Lib.hid hb;rw [←hb];clear hb;have HN:Hid (n<4^16):=hn;go_enter Tryz.func97,Tryz.ntmps97
 go_wp2;go_loop [0] (fun x=>∃(k m:Nat),x=.int .u64 m∧m<4294967296∧Hid (m<4^k)∧Hid (b=sevF k m)) (fun x=>(intOf x).toNat)
 case atStart=>exact ⟨16,n,rfl,hn,HN,HB⟩
 case round =>
  obtain ⟨k,m,rfl,hm,HK,HS⟩:=hrel;clear HB HN;have c1:IntKind.u64.wrap ((m:Int).tmod 4)=((m%4:Nat):Int):=by rw [Int.tmod_eq_emod_of_nonneg (by omega),IntKind.wrap_u64];omega
  have c2:IntKind.u64.wrap ((m:Int).tdiv 4)=((m / 4:Nat):Int):=by rw [Int.tdiv_eq_ediv_of_nonneg (by omega),IntKind.wrap_u64];omega
  have c3:IntKind.u64.wrap ((m:Int).tmod 8)=((m%8:Nat):Int):=by rw [Int.tmod_eq_emod_of_nonneg (by omega),IntKind.wrap_u64];omega
  by_cases h1:0<m∧m%4=0
  ·obtain ⟨h0,h4⟩:=h1
   have HX:Hid (∃j,m / 4<4^j∧b=sevF j (m / 4)):=by
    have hk:=HK.out;cases k with
    | zero=>omega
    | succ j=>exact ⟨j,by rw [Nat.pow_succ] at hk;omega,by rw [HS.out,sevF,if_pos ⟨h0,h4⟩]⟩
   obtain ⟨j,hj1,hj2⟩:=HX.out;have HJ1:=Lib.hid hj1;have HJ2:=Lib.hid hj2;clear hj1 hj2 HX HK HS c3;have h5:(0:Int)<(m:Int):=by omega
   have h6:(((m%4:Nat):Int)==0)=true:=by rw [h4];rfl
   go_wp2;go_round
   case rel=>exact ⟨j,m / 4,rfl,by omega,HJ1,HJ2⟩
   case measure=>simp [intOf];omega
  ·have HX:Hid (b=(m%8==7)):=HS.out.trans (sev_stop h1);clear HS HK;by_cases h0:0<m
   ·have h4:¬ m%4=0:=fun h=>h1 ⟨h0,h⟩
    clear h1;go_wp2;go_ret
    exact ⟨congrArg (fun b=>Ending.returned (Value.bool b)) ((sev_eq m).trans HX.out.symm),rfl⟩
   ·clear h1;go_wp2;go_ret
    exact ⟨congrArg (fun b=>Ending.returned (Value.bool b)) ((sev_eq m).trans HX.out.symm),rfl⟩
theorem two_step (n x:Nat):twoF n x=if 2*x*x<n then none else if oneB (n-x*x) x=true then some (x,rt (n-x*x)) else if x=0 then none else twoF n (x-1):=by
 unfold oneB;cases x with
 | zero =>
  rw [twoF];by_cases h:0<n
  ·rw [if_pos h,if_pos (by simpa using h)]
  ·have:n=0:=by omega
   subst this;rfl
 | succ x =>
  rw [twoF];simp only [Bool.and_eq_true,decide_eq_true_eq,Nat.add_sub_cancel,Nat.succ_ne_zero,if_false,Nat.add_eq_zero_iff,Nat.one_ne_zero,and_false]
def tw1:Option (Nat × Nat)→Nat | some (a,_)=>a | none=>0
def tw2:Option (Nat × Nat)→Nat | some (_,b)=>b | none=>0
theorem fstwo_c (n most:Nat) (w:World) (hn:n<4294967296) (hm:most<4294967296) :
  Calls Tryz.prog 135 #[.int .u64 (n:Int),.int .u64 (most:Int)] w fun e w'=>e=.returned (.tuple #[.agg #[.int .u64 (tw1 (twoF n (min (rt n) most)):Nat),.int .u64 (tw2 (twoF n (min (rt n) most)):Nat)],.bool (twoF n (min (rt n) most)).isSome])∧Below w.heap.size w w':=by
 have h1:=fsroot_c n w hn;have h2:=rt_lt (k:=65536) (show n<65536*65536 by omega);have h3:=(rt_spec n).1;obtain ⟨x0,hx0⟩:∃x,x=min (rt n) most:=⟨_,rfl⟩;have hx1:x0≤rt n:=by omega
 have hxx:x0*x0≤n:=Nat.le_trans (Nat.mul_le_mul hx1 hx1) h3;have hx2:x0<65536:=by omega
 obtain ⟨R,hR⟩:∃R,R=twoF n x0:=⟨_,rfl⟩;rw [←hx0,←hR];have HR:=Lib.hid hR;have HX:=Lib.hid hx0;have HXR:Hid (True):=trivial;have HXX:=Lib.hid hxx;obtain ⟨r,hr⟩:∃r,r=rt n:=⟨_,rfl⟩;rw [←hr] at HX;have HRR:=Lib.hid hr;have hrb:min (r:Int) (most:Int)=(x0:Int):=by have:=HX.out;omega
 have HRT:Hid (∀w,Calls Tryz.prog 96 #[.int .u64 (n:Int)] w fun e w'=>e=.returned (.int .u64 (r:Nat))∧w=w'):=fun w=>by rw [HRR.out];exact fsroot_c n w hn
 have hA:=Blk.new w #[.int .u64 0,.int .u64 0] 178;have hBW:=b1 w (.cells #[.int .u64 0,.int .u64 0] 178);clear h1 h2 h3 hx1 hxx hR hx0 hr HRR HXR;go_enter Tryz.func135,Tryz.ntmps135
 go_wp2_with fail
 refine (HRT.out _).mono ?_;rintro e w' ⟨rfl,rfl⟩;go_wp2;generalize w.alloc (.cells #[.int .u64 0,.int .u64 0] 178)=w1 at hA hBW ⊢;obtain ⟨g,hg⟩:∃g,w.heap.size=g:=⟨_,rfl⟩;rw [hg] at hA ⊢;have HG:=Lib.hid hg;clear hg;replace hA:Blk w1 g 178 [.int .u64 0,.int .u64 0]:=hA;have hAl:=hA.lt;go_loop [6] (fun v=>∃x:Nat,v=.int .u64 x∧x<65536∧Hid (x*x≤n)∧Hid (R=twoF n x)) (fun v=>(intOf v).toNat)
 case atStart=>exact ⟨x0,rfl,hx2,HXX,HR⟩
 case round =>
  clear HR HXX hrb HX hx2;obtain ⟨x,rfl,hx,HXX,HR⟩:=hrel;have HS:=Lib.hid (HR.out.trans (two_step n x));clear HR;obtain ⟨q,hq⟩:∃q,q=x*x:=⟨_,rfl⟩;have hq2:q≤65536*65536:=by rw [hq];exact Nat.mul_le_mul (by omega) (by omega)
  have hqn:q≤n:=by rw [hq];exact HXX.out
  have hz:2*x*x=2*q:=by rw [hq,Nat.mul_assoc]
  rw [hz,←hq] at HS;have c1:IntKind.u64.wrap (2*(x:Int))=2*(x:Int):=by rw [IntKind.wrap_u64];omega
  have c2:IntKind.u64.wrap (2*(x:Int)*(x:Int))=((2*q:Nat):Int):=by
   rw [show 2*(x:Int)*(x:Int)=((2*q:Nat):Int) by rw [←hz];simp only [Int.natCast_mul];rfl,IntKind.wrap_u64];omega
  have c3:IntKind.u64.wrap ((x:Int)*(x:Int))=(q:Int):=by rw [show (x:Int)*(x:Int)=(q:Int) by rw [hq];exact (Int.natCast_mul x x).symm,IntKind.wrap_u64];omega
  have c4:IntKind.u64.wrap ((n:Int)-(q:Int))=((n-q:Nat):Int):=by rw [IntKind.wrap_u64];omega
  have hN:=hn;clear hq hz;by_cases h1:2*q<n
  ·have HX:Hid (R=none):=HS.out.trans (if_pos h1);have h1':¬ n≤2*q:=by omega
   have h1i:¬ (n:Int)≤((2*q:Nat):Int):=by omega
   clear HS;obtain ⟨hAc0,hAf0,hAc1,hAf1⟩:=hA.x2;go_wp2;refine bodyPost_ret (v:=.tuple #[.agg #[.int .u64 0,.int .u64 0],.bool false]) ?_ rfl ?_
   ·simp [results,Tryz.results135,go_sem,hAc0,hAc1,hAl]
   ·rw [HX.out];exact ⟨rfl,(hBW.setCell (Nat.le_of_eq HG.out) _).setCell (Nat.le_of_eq HG.out) _⟩
  ·have h1':n≤2*q:=by omega
   replace HS:=Lib.hid (HS.out.trans (if_neg h1));obtain ⟨d,hd⟩:∃d,d=n-q:=⟨_,rfl⟩;rw [←hd] at HS c4;have hd2:d<4294967296:=by omega
   obtain ⟨bo,hbo⟩:∃b,b=oneB d x:=⟨_,rfl⟩;obtain ⟨r2,hr2⟩:∃r,r=rt d:=⟨_,rfl⟩;have HON:Hid (∀w,Calls Tryz.prog 164 #[.int .u64 (d:Int),.int .u64 (x:Int)] w fun e w'=>e=.returned (.tuple #[.int .u64 (r2:Nat),.bool bo])∧w=w'):=fun w=>by rw [hr2,hbo];exact fsone_c d x w hd2
   rw [←hbo,←hr2] at HS;clear h1 hd hbo hr2 hd2;go_wp2_with fail
   refine (HON.out _).mono ?_;rintro e w' ⟨rfl,rfl⟩;cases bo
   ·replace HS:=Lib.hid (HS.out.trans (if_neg (by decide)));by_cases hx0:x=0
    ·have HX:Hid (R=none):=HS.out.trans (if_pos hx0);have hxe:((x:Int)==0)=true:=by rw [hx0];rfl
     clear HS;obtain ⟨hAc0,hAf0,hAc1,hAf1⟩:=hA.x2;go_wp2;refine bodyPost_ret (v:=.tuple #[.agg #[.int .u64 0,.int .u64 0],.bool false]) ?_ rfl ?_
     ·simp [results,Tryz.results135,go_sem,hAc0,hAc1,hAl]
     ·rw [HX.out];exact ⟨rfl,(hBW.setCell (Nat.le_of_eq HG.out) _).setCell (Nat.le_of_eq HG.out) _⟩
    ·have HX:Hid (R=twoF n (x-1)):=HS.out.trans (if_neg hx0);have hxe:((x:Int)==0)=false:=by rw [beq_eq_false_iff_ne];omega
     have c5:IntKind.u64.wrap ((x:Int)-1)=((x-1:Nat):Int):=by rw [IntKind.wrap_u64];omega
     have HQ2:Hid ((x-1)*(x-1)≤n):=Nat.le_trans (Nat.mul_le_mul (show x-1≤x by omega) (show x-1≤x by omega)) HXX.out;clear HS HXX;go_wp2;go_round
     case rel=>exact ⟨x-1,rfl,by omega,HQ2,HX⟩
     case measure=>simp [intOf];omega
   ·have HX:Hid (R=some (x,r2)):=HS.out.trans (if_pos rfl);clear HS HXX;obtain ⟨hAc0,hAf0,hAc1,hAf1⟩:=hA.x2;go_wp2;refine bodyPost_ret (v:=.tuple #[.agg #[.int .u64 (x:Int),.int .u64 (r2:Int)],.bool true]) ?_ rfl ?_
    ·simp [results,Tryz.results135,go_sem,hAc0,hAc1,hAf0,hAf1,hAl]
    ·rw [HX.out];exact ⟨rfl,(hBW.setCell (Nat.le_of_eq HG.out) _).setCell (Nat.le_of_eq HG.out) _⟩
theorem three_step (n x:Nat):threeF n x=if 3*x*x<n then none else match twoF (n-x*x) (min (rt (n-x*x)) x) with
  | some (y,z)=>some (x,y,z)
  | none=>if x=0 then none else threeF n (x-1):=by
 cases x with
 | zero =>
  rw [threeF];by_cases h:0<n
  ·rw [if_pos h,if_pos (by simpa using h)]
  ·have:n=0:=by omega
   subst this;rfl
 | succ x =>
  rw [threeF];simp only [Nat.add_sub_cancel,Nat.succ_ne_zero,if_false,Nat.add_eq_zero_iff,Nat.one_ne_zero,and_false]
def th1:Option (Nat × Nat × Nat)→Nat | some (a,_,_)=>a | none=>0
def th2:Option (Nat × Nat × Nat)→Nat | some (_,b,_)=>b | none=>0
def th3:Option (Nat × Nat × Nat)→Nat | some (_,_,c)=>c | none=>0
def thM (x:Nat) (r:Option (Nat × Nat × Nat)):Option (Nat × Nat)→Option (Nat × Nat × Nat) | some (y,z)=>some (x,y,z) | none=>r
theorem fsthree_c (n most:Nat) (w:World) (hn:n<4294967296) (hm:most<4294967296) :
  Calls Tryz.prog 98 #[.int .u64 (n:Int),.int .u64 (most:Int)] w fun e w'=>e=.returned (.tuple #[.agg #[.int .u64 (th1 (threeF n (min (rt n) most)):Nat),.int .u64 (th2 (threeF n (min (rt n) most)):Nat),.int .u64 (th3 (threeF n (min (rt n) most)):Nat)],.bool (threeF n (min (rt n) most)).isSome])∧Below w.heap.size w w':=by
 have h1:=fsroot_c n w hn;have h2:=rt_lt (k:=65536) (show n<65536*65536 by omega);have h3:=(rt_spec n).1;obtain ⟨x0,hx0⟩:∃x,x=min (rt n) most:=⟨_,rfl⟩;have hx1:x0≤rt n:=by omega
 have hxx:x0*x0≤n:=Nat.le_trans (Nat.mul_le_mul hx1 hx1) h3;have hx2:x0<65536:=by omega
 obtain ⟨R,hR⟩:∃R,R=threeF n x0:=⟨_,rfl⟩;rw [←hx0,←hR];have HR:=Lib.hid hR;have HX:=Lib.hid hx0;have HXX:=Lib.hid hxx;obtain ⟨r,hr⟩:∃r,r=rt n:=⟨_,rfl⟩;rw [←hr] at HX;have HRR:=Lib.hid hr;have hrb:min (r:Int) (most:Int)=(x0:Int):=by have:=HX.out;omega
 have HRT:Hid (∀w,Calls Tryz.prog 96 #[.int .u64 (n:Int)] w fun e w'=>e=.returned (.int .u64 (r:Nat))∧w=w'):=fun w=>by rw [HRR.out];exact fsroot_c n w hn
 have hA:=Blk.new w #[.int .u64 0,.int .u64 0,.int .u64 0] 144;have hBW:=b1 w (.cells #[.int .u64 0,.int .u64 0,.int .u64 0] 144);clear h1 h2 h3 hx1 hxx hR hx0 hr HRR;go_enter Tryz.func98,Tryz.ntmps98
 go_wp2_with fail
 refine (HRT.out _).mono ?_;rintro e w' ⟨rfl,rfl⟩;go_wp2;generalize w.alloc (.cells #[.int .u64 0,.int .u64 0,.int .u64 0] 144)=w1 at hA hBW ⊢;obtain ⟨g,hg⟩:∃g,w.heap.size=g:=⟨_,rfl⟩;rw [hg] at hA ⊢;have HG:=Lib.hid hg;clear hg;replace hA:Blk w1 g 144 [.int .u64 0,.int .u64 0,.int .u64 0]:=hA;go_loopw [6] (fun v wr=>∃x:Nat,v=.int .u64 x∧x<65536∧Hid (x*x≤n)∧Hid (R=threeF n x)∧Below w1.heap.size w1 wr) (fun v _=>(intOf v).toNat)
 case atStart=>exact ⟨x0,rfl,hx2,HXX,HR,Below.refl _ _⟩
 case round =>
  clear HR HXX hrb HX hx2;obtain ⟨x,rfl,hx,HXX,HR,hbr⟩:=hrel;obtain ⟨wp,hwp⟩:∃wp,wp=wr:=⟨_,rfl⟩;subst hwp;have hAp:=hA.after hbr;have hbp:=bt hBW hbr;have hAl:=hAp.lt;obtain ⟨q,hq⟩:∃q,q=x*x:=⟨_,rfl⟩;have hq2:q≤65536*65536:=by rw [hq];exact Nat.mul_le_mul (by omega) (by omega)
  have hqn:q≤n:=by rw [hq];exact HXX.out
  have hz:3*x*x=3*q:=by rw [hq,Nat.mul_assoc]
  obtain ⟨d,hd⟩:∃d,d=n-q:=⟨_,rfl⟩;have hd2:d<4294967296:=by omega
  have HTW:=fstwo_c d x;obtain ⟨T2,hT2⟩:∃t,t=twoF d (min (rt d) x):=⟨_,rfl⟩
  have HS:Hid (R=if 3*q<n then none else thM x (if x=0 then none else threeF n (x-1)) T2):=by
   rw [Hid,HR.out,three_step n x,hz,←hq,←hd,←hT2];split <;> (cases T2 <;> rfl)
  rw [←hT2] at HTW;have HTT:Hid (∀w,Calls Tryz.prog 135 #[.int .u64 (d:Int),.int .u64 (x:Int)] w fun e w'=>e=.returned (.tuple #[.agg #[.int .u64 (tw1 T2:Nat),.int .u64 (tw2 T2:Nat)],.bool T2.isSome])∧Below w.heap.size w w'):=fun w=>HTW w hd2 (by omega)
  have c1:IntKind.u64.wrap (3*(x:Int))=3*(x:Int):=by rw [IntKind.wrap_u64];omega
  have c2:IntKind.u64.wrap (3*(x:Int)*(x:Int))=((3*q:Nat):Int):=by
   rw [show 3*(x:Int)*(x:Int)=((3*q:Nat):Int) by rw [←hz];simp only [Int.natCast_mul];rfl,IntKind.wrap_u64];omega
  have c3:IntKind.u64.wrap ((x:Int)*(x:Int))=(q:Int):=by rw [show (x:Int)*(x:Int)=(q:Int) by rw [hq];exact (Int.natCast_mul x x).symm,IntKind.wrap_u64];omega
  have c4:IntKind.u64.wrap ((n:Int)-(q:Int))=(d:Int):=by rw [IntKind.wrap_u64];omega
  clear hq hz hT2 HTW HR hd hd2;by_cases h1:3*q<n
  ·have HX:Hid (R=none):=HS.out.trans (if_pos h1);have h1':¬ n≤3*q:=by omega
   have h1i:¬ (n:Int)≤((3*q:Nat):Int):=by omega
   clear HS HTT;obtain ⟨hApc0,hApf0,hApc1,hApf1,hApc2,hApf2⟩:=hAp.x3;go_wp2;refine bodyPost_ret (v:=.tuple #[.agg #[.int .u64 0,.int .u64 0,.int .u64 0],.bool false]) ?_ rfl ?_
   ·simp [results,Tryz.results98,go_sem,hApc0,hApc1,hApc2,hAl]
   ·rw [HX.out];exact ⟨rfl,((hbp.setCell (Nat.le_of_eq HG.out) _).setCell (Nat.le_of_eq HG.out) _).setCell (Nat.le_of_eq HG.out) _⟩
  ·have h1':n≤3*q:=by omega
   replace HS:=Lib.hid (HS.out.trans (if_neg h1));clear h1;go_wp2_with fail
   refine (HTT.out _).mono ?_;rintro e w2 ⟨rfl,hb2⟩;clear HTT;cases T2 with
   | none =>
    replace HS:Hid (R=if x=0 then none else threeF n (x-1)):=HS;simp only [tw1,tw2,Option.isSome_none];have hA2:=hAp.after hb2;have hb3:=bt hbp hb2;by_cases hx0:x=0
    ·have HX:Hid (R=none):=HS.out.trans (if_pos hx0);have hxe:((x:Int)==0)=true:=by rw [hx0];rfl
     have hA3:=hA2.alloc (.cells #[.int .u64 0,.int .u64 0] 178);have hb4:=ba hb3 (.cells #[.int .u64 0,.int .u64 0] 178);have hA3l:=hA3.lt;clear HS;obtain ⟨hA3c0,hA3f0,hA3c1,hA3f1,hA3c2,hA3f2⟩:=hA3.x3;go_wp2;refine bodyPost_ret (v:=.tuple #[.agg #[.int .u64 0,.int .u64 0,.int .u64 0],.bool false]) ?_ rfl ?_
     ·simp [results,Tryz.results98,go_sem,hA3c0,hA3c1,hA3c2,hA3l]
     ·rw [HX.out];exact ⟨rfl,((hb4.setCell (Nat.le_of_eq HG.out) _).setCell (Nat.le_of_eq HG.out) _).setCell (Nat.le_of_eq HG.out) _⟩
    ·have HX:Hid (R=threeF n (x-1)):=HS.out.trans (if_neg hx0);have hxe:((x:Int)==0)=false:=by rw [beq_eq_false_iff_ne];omega
     have c5:IntKind.u64.wrap ((x:Int)-1)=((x-1:Nat):Int):=by rw [IntKind.wrap_u64];omega
     have HQ2:Hid ((x-1)*(x-1)≤n):=Nat.le_trans (Nat.mul_le_mul (show x-1≤x by omega) (show x-1≤x by omega)) HXX.out;have hbn:=ba (bt hbr hb2) (.cells #[.int .u64 0,.int .u64 0] 178);clear HS HXX;go_wp2;go_roundw
     case rel=>exact ⟨x-1,rfl,by omega,HQ2,HX,hbn⟩
     case measure=>simp [intOf];omega
   | some yz =>
    obtain ⟨y,z⟩:=yz;have HX:Hid (R=some (x,y,z)):=HS;clear HS;simp only [tw1,tw2,Option.isSome_some];have hA2:=(hAp.after hb2).alloc (.cells #[.int .u64 (y:Int),.int .u64 (z:Int)] 178);have hC2:=Blk.new w2 #[.int .u64 (y:Int),.int .u64 (z:Int)] 178;have hb3:=ba (bt hbp hb2) (.cells #[.int .u64 (y:Int),.int .u64 (z:Int)] 178);have hA2l:=hA2.lt;have hC2l:=hC2.lt;have hne:¬ w2.heap.size=g:=by have:=(hAp.after hb2).lt;omega
    obtain ⟨hA2c0,hA2f0,hA2c1,hA2f1,hA2c2,hA2f2⟩:=hA2.x3;obtain ⟨hC2c0,hC2f0,hC2c1,hC2f1⟩:=hC2.x2;go_wp2;refine bodyPost_ret (v:=.tuple #[.agg #[.int .u64 (x:Int),.int .u64 (y:Int),.int .u64 (z:Int)],.bool true]) ?_ rfl ?_
    ·simp [results,Tryz.results98,go_sem,hA2c0,hA2c1,hA2c2,hA2f0,hA2f1,hA2f2,hA2l]
    ·rw [HX.out];exact ⟨rfl,((hb3.setCell (Nat.le_of_eq HG.out) _).setCell (Nat.le_of_eq HG.out) _).setCell (Nat.le_of_eq HG.out) _⟩
end
section
open Go.RowKit Go.Shelf
theorem wi64 {x:Int} (h1:-9223372036854775808≤x) (h2:x≤9223372036854775807):IntKind.i64.wrap x=x:=by
 simp [IntKind.wrap,IntKind.signed,IntKind.bits];omega
theorem r25root_c (n:Nat) (w:World) (hn:n<4294967296) :
  Calls Tryz.prog 105 #[.int .i64 (n:Int)] w fun e w'=>e=.returned (.int .i64 (rt n:Nat))∧w=w':=by
 have HN:=Lib.hid hn;clear hn;go_enter Tryz.func105,Tryz.ntmps105
 go_wp2;go_loop [3,4] (fun x y=>∃(l h:Nat),x=.int .i64 l∧y=.int .i64 h∧l<h∧h≤65536∧Hid (l*l≤n∧n<h*h)) (fun x y=>(intOf y-intOf x).toNat)
 case atStart=>exact ⟨0,65536,rfl,rfl,by omega,by omega,⟨by omega,by have:=HN.out;omega⟩⟩
 case round =>
  obtain ⟨l,h,rfl,rfl,hlh,hh,HR⟩:=hrel;have c0:IntKind.i64.wrap ((h:Int)-(l:Int))=(h:Int)-(l:Int):=wi64 (by omega) (by omega);by_cases h1:h=l+1
  ·have HE:Hid (l=rt n):=rt_uniq HR.out.1 (by rw [←h1];exact HR.out.2);have hb1:¬ (1:Int)<(h:Int)-(l:Int):=by omega
   clear h1 HR hlh hh;go_wp2;go_ret
   exact ⟨by rw [←HE.out];rfl,rfl⟩
  ·have hb1:(1:Int)<(h:Int)-(l:Int):=by omega
   obtain ⟨m,hm⟩:∃m,m=(l+h) / 2:=⟨_,rfl⟩;obtain ⟨z,hz⟩:∃z,z=m*m:=⟨_,rfl⟩;have hz2:z≤65536*65536:=by rw [hz];exact Nat.mul_le_mul (by omega) (by omega)
   have c1:IntKind.i64.wrap ((l:Int)+(h:Int))=(l:Int)+(h:Int):=wi64 (by omega) (by omega);have c2:IntKind.i64.wrap (((l:Int)+(h:Int)).tdiv 2)=(m:Int):=by rw [Int.tdiv_eq_ediv_of_nonneg (by omega),wi64 (by omega) (by omega)];omega
   have c3:IntKind.i64.wrap ((m:Int)*(m:Int))=(z:Int):=by rw [show (m:Int)*(m:Int)=(z:Int) by rw [hz];exact (Int.natCast_mul m m).symm,wi64 (by omega) (by omega)]
   have hm1:l<m∧m<h:=by omega
   have HZZ:=Lib.hid hz;clear hz hm h1;by_cases h2:z≤n
   ·have HX:Hid (m*m≤n∧n<h*h):=⟨by rw [←HZZ.out];exact h2,HR.out.2⟩;go_wp2;go_round
    case rel=>exact ⟨m,h,rfl,rfl,by omega,by omega,HX⟩
    case measure=>simp [intOf];omega
   ·have HX:Hid (l*l≤n∧n<m*m):=⟨HR.out.1,by rw [←HZZ.out];omega⟩;go_wp2;go_round
    case rel=>exact ⟨l,m,rfl,rfl,by omega,by omega,HX⟩
    case measure=>simp [intOf];omega
theorem r25seven_c (n:Nat) (w:World) (hn:n<4294967296) :
  Calls Tryz.prog 106 #[.int .i64 (n:Int)] w fun e w'=>e=.returned (.bool (sevF 16 n))∧w=w':=by
 obtain ⟨b,hb⟩:∃b,b=sevF 16 n:=⟨_,rfl⟩;have HB:=Lib.hid hb;rw [←hb];clear hb;have HN:Hid (n<4^16):=hn;go_enter Tryz.func106,Tryz.ntmps106
 go_wp2;go_loop [0] (fun x=>∃(k m:Nat),x=.int .i64 m∧m<4294967296∧Hid (m<4^k)∧Hid (b=sevF k m)) (fun x=>(intOf x).toNat)
 case atStart=>exact ⟨16,n,rfl,hn,HN,HB⟩
 case round =>
  obtain ⟨k,m,rfl,hm,HK,HS⟩:=hrel;clear HB HN;have c1:IntKind.i64.wrap ((m:Int).tmod 4)=((m%4:Nat):Int):=by rw [Int.tmod_eq_emod_of_nonneg (by omega),wi64 (by omega) (by omega)];rfl
  have c2:IntKind.i64.wrap ((m:Int).tdiv 4)=((m / 4:Nat):Int):=by rw [Int.tdiv_eq_ediv_of_nonneg (by omega),wi64 (by omega) (by omega)];rfl
  have c3:IntKind.i64.wrap ((m:Int).tmod 8)=((m%8:Nat):Int):=by rw [Int.tmod_eq_emod_of_nonneg (by omega),wi64 (by omega) (by omega)];rfl
  by_cases h1:0<m∧m%4=0
  ·obtain ⟨h0,h4⟩:=h1
   have HX:Hid (∃j,m / 4<4^j∧b=sevF j (m / 4)):=by
    have hk:=HK.out;cases k with
    | zero=>omega
    | succ j=>exact ⟨j,by rw [Nat.pow_succ] at hk;omega,by rw [HS.out,sevF,if_pos ⟨h0,h4⟩]⟩
   obtain ⟨j,hj1,hj2⟩:=HX.out;have HJ1:=Lib.hid hj1;have HJ2:=Lib.hid hj2;clear hj1 hj2 HX HK HS c3;have h5:(0:Int)<(m:Int):=by omega
   have h6:(((m%4:Nat):Int)==0)=true:=by rw [h4];rfl
   go_wp2;go_round
   case rel=>exact ⟨j,m / 4,rfl,by omega,HJ1,HJ2⟩
   case measure=>simp [intOf];omega
  ·have HX:Hid (b=(m%8==7)):=HS.out.trans (sev_stop h1);clear HS HK;by_cases h0:0<m
   ·have h4:¬ m%4=0:=fun h=>h1 ⟨h0,h⟩
    clear h1;go_wp2;go_ret
    exact ⟨congrArg (fun b=>Ending.returned (Value.bool b)) ((sev_eq m).trans HX.out.symm),rfl⟩
   ·clear h1;go_wp2;go_ret
    exact ⟨congrArg (fun b=>Ending.returned (Value.bool b)) ((sev_eq m).trans HX.out.symm),rfl⟩
def twoZ (n:Nat) (x:Int):Option (Nat × Nat):=if x<0 then none else twoF n x.toNat
theorem twoZ_nat (n x:Nat):twoZ n (x:Int)=twoF n x:=by rw [twoZ,if_neg (by omega)];rfl
theorem twoZ_pred (n x:Nat):twoZ n ((x:Int)-1)=if x=0 then none else twoF n (x-1):=by
 rw [twoZ];by_cases h:x=0
 ·rw [if_pos h,if_pos (by omega)]
 ·rw [if_neg h,if_neg (by omega)];congr 1;omega
theorem r25two_c (n most:Nat) (w:World) (hn:n<4294967296) (hm:most<4294967296) :
  Calls Tryz.prog 144 #[.int .i64 (n:Int),.int .i64 (most:Int)] w fun e w'=>e=.returned (.tuple #[.int .i64 (tw1 (twoF n (min (rt n) most)):Nat),.int .i64 (tw2 (twoF n (min (rt n) most)):Nat),.bool (twoF n (min (rt n) most)).isSome])∧w=w':=by
 have h2:=rt_lt (k:=65536) (show n<65536*65536 by omega);have h3:=(rt_spec n).1;obtain ⟨x0,hx0⟩:∃x,x=min (rt n) most:=⟨_,rfl⟩;have hx1:x0≤rt n:=by omega
 have hxx:x0*x0≤n:=Nat.le_trans (Nat.mul_le_mul hx1 hx1) h3;have hx2:x0<65536:=by omega
 obtain ⟨R,hR⟩:∃R,R=twoF n x0:=⟨_,rfl⟩;rw [←hx0,←hR];have HR:Hid (R=twoZ n (x0:Int)):=hR.trans (twoZ_nat n x0).symm;have HXX:=Lib.hid hxx;obtain ⟨r,hr⟩:∃r,r=rt n:=⟨_,rfl⟩;rw [←hr] at hx0;have hrb:min (r:Int) (most:Int)=(x0:Int):=by omega
 have HRT:Hid (∀w,Calls Tryz.prog 105 #[.int .i64 (n:Int)] w fun e w'=>e=.returned (.int .i64 (r:Nat))∧w=w'):=fun w=>by rw [hr];exact r25root_c n w hn
 clear h2 h3 hx1 hxx hR hx0 hr;go_enter Tryz.func144,Tryz.ntmps144
 go_wp2_with fail
 refine (HRT.out _).mono ?_;rintro e w' ⟨rfl,rfl⟩;go_wp2;go_loop [7] (fun v=>∃x:Int,v=.int .i64 x∧-1≤x∧x<65536∧Hid (0≤x→x.toNat*x.toNat≤n)∧Hid (R=twoZ n x)) (fun v=>(intOf v+1).toNat)
 case atStart=>exact ⟨x0,rfl,by omega,by omega,fun _=>HXX.out,HR⟩
 case round =>
  clear HR HXX hrb hx2;obtain ⟨x,rfl,hx1,hx,HXX,HR⟩:=hrel;by_cases h0:x<0
  ·have HX:Hid (R=none):=HR.out.trans (by rw [twoZ,if_pos h0]);have h0':¬ (0:Int)≤x:=by omega
   clear HR HXX;go_wp2;refine bodyPost_ret (v:=.tuple #[.int .i64 0,.int .i64 0,.bool false]) ?_ rfl ?_
   ·simp [results,Tryz.results144,go_sem]
   ·rw [HX.out];exact ⟨rfl,rfl⟩
  ·have h0':(0:Int)≤x:=by omega
   obtain ⟨y,rfl⟩:∃y:Nat,x=(y:Int):=⟨x.toNat,by omega⟩;replace HXX:Hid (y*y≤n):=HXX.out h0';have hy:y<65536:=by omega
   clear h0 hx1 hx;have HS:=Lib.hid ((HR.out.trans (twoZ_nat n y)).trans (two_step n y));clear HR;obtain ⟨q,hq⟩:∃q,q=y*y:=⟨_,rfl⟩;have hq2:q≤65536*65536:=by rw [hq];exact Nat.mul_le_mul (by omega) (by omega)
   have hqn:q≤n:=by rw [hq];exact HXX.out
   have hz:2*y*y=2*q:=by rw [hq,Nat.mul_assoc]
   rw [hz,←hq] at HS;have c1:IntKind.i64.wrap (2*(y:Int))=2*(y:Int):=wi64 (by omega) (by omega)
   have c2:IntKind.i64.wrap (2*(y:Int)*(y:Int))=((2*q:Nat):Int):=by
    rw [show 2*(y:Int)*(y:Int)=((2*q:Nat):Int) by rw [←hz];simp only [Int.natCast_mul];rfl,wi64 (by omega) (by omega)]
   have c3:IntKind.i64.wrap ((y:Int)*(y:Int))=(q:Int):=by rw [show (y:Int)*(y:Int)=(q:Int) by rw [hq];exact (Int.natCast_mul y y).symm,wi64 (by omega) (by omega)]
   obtain ⟨d,hd⟩:∃d,d=n-q:=⟨_,rfl⟩;have c4:IntKind.i64.wrap ((n:Int)-(q:Int))=(d:Int):=by rw [wi64 (by omega) (by omega)];omega
   rw [←hd] at HS;have hd2:d<4294967296:=by omega
   by_cases h1:2*q<n
   ·have HX:Hid (R=none):=HS.out.trans (if_pos h1);have h1':¬ n≤2*q:=by omega
    have h1i:¬ (n:Int)≤((2*q:Nat):Int):=by omega
    clear HS hq hz hd hd2 c4 h1 hq2 hqn;go_wp2;refine bodyPost_ret (v:=.tuple #[.int .i64 0,.int .i64 0,.bool false]) ?_ rfl ?_
    ·simp [results,Tryz.results144,go_sem]
    ·rw [HX.out];exact ⟨rfl,rfl⟩
   ·have h1':n≤2*q:=by omega
    have h1i:(n:Int)≤((2*q:Nat):Int):=by omega
    replace HS:=Lib.hid (HS.out.trans (if_neg h1));obtain ⟨r2,hr2⟩:∃r,r=rt d:=⟨_,rfl⟩;have hr3:r2<65536:=by rw [hr2];exact rt_lt (by omega)
    have HON:Hid (∀w,Calls Tryz.prog 105 #[.int .i64 (d:Int)] w fun e w'=>e=.returned (.int .i64 (r2:Nat))∧w=w'):=fun w=>by rw [hr2];exact r25root_c d w hd2
    have HOB:Hid (oneB d y=(decide (r2*r2=d)&&decide (r2≤y))):=by rw [Hid,hr2];rfl
    rw [←hr2] at HS;obtain ⟨z,hz2⟩:∃z,z=r2*r2:=⟨_,rfl⟩;have hz3:z≤65536*65536:=by rw [hz2];exact Nat.mul_le_mul (by omega) (by omega)
    have c6:IntKind.i64.wrap ((r2:Int)*(r2:Int))=(z:Int):=by rw [show (r2:Int)*(r2:Int)=(z:Int) by rw [hz2];exact (Int.natCast_mul r2 r2).symm,wi64 (by omega) (by omega)]
    rw [←hz2] at HOB;clear h1 hd hr2 hd2 hq hz hz2 hq2 hqn hz3 hr3;go_wp2_with fail
    refine (HON.out _).mono ?_;rintro e w' ⟨rfl,rfl⟩;by_cases h3:z=d
    ·have e1:((z:Int)==(d:Int))=true:=by rw [h3];simp
     by_cases h4:r2≤y
     ·have HX:Hid (R=some (y,r2)):=HS.out.trans (if_pos (HOB.out.trans (by rw [decide_eq_true h3,decide_eq_true h4];rfl)));clear HS HOB HXX h3;go_wp2;refine bodyPost_ret (v:=.tuple #[.int .i64 (y:Int),.int .i64 (r2:Int),.bool true]) ?_ rfl ?_
      ·simp [results,Tryz.results144,go_sem]
      ·rw [HX.out];exact ⟨rfl,rfl⟩
     ·have HX:Hid (R=twoZ n ((y:Int)-1)):=(HS.out.trans (if_neg (by rw [HOB.out,decide_eq_true h3,decide_eq_false h4];decide))).trans (twoZ_pred n y).symm;have c5:IntKind.i64.wrap ((y:Int)-1)=(y:Int)-1:=wi64 (by omega) (by omega);have HQ2:Hid (0≤(y:Int)-1→((y:Int)-1).toNat*((y:Int)-1).toNat≤n):=fun _=>Nat.le_trans (Nat.mul_le_mul (by omega) (by omega)) HXX.out
      clear HS HOB HXX h3;go_wp2;go_round
      case rel=>exact ⟨(y:Int)-1,rfl,by omega,by omega,HQ2,HX⟩
      case measure=>simp [intOf]
    ·have e1:((z:Int)==(d:Int))=false:=by rw [beq_eq_false_iff_ne];omega
     have HX:Hid (R=twoZ n ((y:Int)-1)):=(HS.out.trans (if_neg (by rw [HOB.out,decide_eq_false h3];simp))).trans (twoZ_pred n y).symm;have c5:IntKind.i64.wrap ((y:Int)-1)=(y:Int)-1:=wi64 (by omega) (by omega);have HQ2:Hid (0≤(y:Int)-1→((y:Int)-1).toNat*((y:Int)-1).toNat≤n):=fun _=>Nat.le_trans (Nat.mul_le_mul (by omega) (by omega)) HXX.out
     clear HS HOB HXX h3;go_wp2;go_round
     case rel=>exact ⟨(y:Int)-1,rfl,by omega,by omega,HQ2,HX⟩
     case measure=>simp [intOf]
def threeZ (n:Nat) (x:Int):Option (Nat × Nat × Nat):=if x<0 then none else threeF n x.toNat
theorem threeZ_nat (n x:Nat):threeZ n (x:Int)=threeF n x:=by rw [threeZ,if_neg (by omega)];rfl
theorem threeZ_pred (n x:Nat):threeZ n ((x:Int)-1)=if x=0 then none else threeF n (x-1):=by
 rw [threeZ];by_cases h:x=0
 ·rw [if_pos h,if_pos (by omega)]
 ·rw [if_neg h,if_neg (by omega)];congr 1;omega
theorem r25three_c (n most:Nat) (w:World) (hn:n<4294967296) (hm:most<4294967296) :
  Calls Tryz.prog 107 #[.int .i64 (n:Int),.int .i64 (most:Int)] w fun e w'=>∃g,e=.returned (.tuple #[.slice (some ⟨g,0,none⟩) 3 3,.bool (threeF n (min (rt n) most)).isSome])∧Blk w' g 3 [.int .i64 (th1 (threeF n (min (rt n) most)):Nat),.int .i64 (th2 (threeF n (min (rt n) most)):Nat),.int .i64 (th3 (threeF n (min (rt n) most)):Nat)]∧Below w.heap.size w w':=by
 have h2:=rt_lt (k:=65536) (show n<65536*65536 by omega);have h3:=(rt_spec n).1;obtain ⟨x0,hx0⟩:∃x,x=min (rt n) most:=⟨_,rfl⟩;have hx1:x0≤rt n:=by omega
 have hxx:x0*x0≤n:=Nat.le_trans (Nat.mul_le_mul hx1 hx1) h3;have hx2:x0<65536:=by omega
 obtain ⟨R,hR⟩:∃R,R=threeF n x0:=⟨_,rfl⟩;rw [←hx0,←hR];have HR:Hid (R=threeZ n (x0:Int)):=hR.trans (threeZ_nat n x0).symm;have HXX:=Lib.hid hxx;obtain ⟨r,hr⟩:∃r,r=rt n:=⟨_,rfl⟩;rw [←hr] at hx0;have hrb:min (r:Int) (most:Int)=(x0:Int):=by omega
 have HRT:Hid (∀w,Calls Tryz.prog 105 #[.int .i64 (n:Int)] w fun e w'=>e=.returned (.int .i64 (r:Nat))∧w=w'):=fun w=>by rw [hr];exact r25root_c n w hn
 clear h2 h3 hx1 hxx hR hx0 hr;go_enter Tryz.func107,Tryz.ntmps107
 go_wp2_with fail
 refine (HRT.out _).mono ?_;rintro e w' ⟨rfl,rfl⟩;go_wp2;go_loop [6] (fun v=>∃x:Int,v=.int .i64 x∧-1≤x∧x<65536∧Hid (0≤x→x.toNat*x.toNat≤n)∧Hid (R=threeZ n x)) (fun v=>(intOf v+1).toNat)
 case atStart=>exact ⟨x0,rfl,by omega,by omega,fun _=>HXX.out,HR⟩
 case round =>
  clear HR HXX hrb hx2;obtain ⟨x,rfl,hx1,hx,HXX,HR⟩:=hrel;by_cases h0:x<0
  ·have HX:Hid (R=none):=HR.out.trans (by rw [threeZ,if_pos h0]);have h0':¬ (0:Int)≤x:=by omega
   clear HR HXX;go_wp2;go_ret2
   rw [HX.out];exact ⟨_,rfl,Blk.new _ _ _,b1 _ _⟩
  ·have h0':(0:Int)≤x:=by omega
   obtain ⟨y,rfl⟩:∃y:Nat,x=(y:Int):=⟨x.toNat,by omega⟩;replace HXX:Hid (y*y≤n):=HXX.out h0';have hy:y<65536:=by omega
   clear h0 hx1 hx;have HS:=Lib.hid ((HR.out.trans (threeZ_nat n y)).trans (three_step n y));clear HR;obtain ⟨q,hq⟩:∃q,q=y*y:=⟨_,rfl⟩;have hq2:q≤65536*65536:=by rw [hq];exact Nat.mul_le_mul (by omega) (by omega)
   have hqn:q≤n:=by rw [hq];exact HXX.out
   have hz:3*y*y=3*q:=by rw [hq,Nat.mul_assoc]
   obtain ⟨d,hd⟩:∃d,d=n-q:=⟨_,rfl⟩;have hd2:d<4294967296:=by omega
   have HTW:=fun w=>r25two_c d y w hd2 (by omega)
   obtain ⟨T2,hT2⟩:∃t,t=twoF d (min (rt d) y):=⟨_,rfl⟩
   replace HS:Hid (R=if 3*q<n then none else thM y (threeZ n ((y:Int)-1)) T2):=by
    rw [Hid,HS.out,hz,←hq,←hd,←hT2,threeZ_pred];split <;> (cases T2 <;> rfl)
   rw [←hT2] at HTW;have HTT:=Lib.hid HTW;have c1:IntKind.i64.wrap (3*(y:Int))=3*(y:Int):=wi64 (by omega) (by omega)
   have c2:IntKind.i64.wrap (3*(y:Int)*(y:Int))=((3*q:Nat):Int):=by
    rw [show 3*(y:Int)*(y:Int)=((3*q:Nat):Int) by rw [←hz];simp only [Int.natCast_mul];rfl,wi64 (by omega) (by omega)]
   have c3:IntKind.i64.wrap ((y:Int)*(y:Int))=(q:Int):=by rw [show (y:Int)*(y:Int)=(q:Int) by rw [hq];exact (Int.natCast_mul y y).symm,wi64 (by omega) (by omega)]
   have c4:IntKind.i64.wrap ((n:Int)-(q:Int))=(d:Int):=by rw [wi64 (by omega) (by omega)];omega
   have c5:IntKind.i64.wrap ((y:Int)-1)=(y:Int)-1:=wi64 (by omega) (by omega);by_cases h1:3*q<n
   ·have HX:Hid (R=none):=HS.out.trans (if_pos h1);have h1':¬ n≤3*q:=by omega
    have h1i:¬ (n:Int)≤((3*q:Nat):Int):=by omega
    clear HS hq hz hd hd2 c4 h1 hq2 hqn HTW hT2 HTT;go_wp2;go_ret2
    rw [HX.out];exact ⟨_,rfl,Blk.new _ _ _,b1 _ _⟩
   ·have h1':n≤3*q:=by omega
    have h1i:(n:Int)≤((3*q:Nat):Int):=by omega
    replace HS:=Lib.hid (HS.out.trans (if_neg h1));clear h1 hd hd2 hq hz hq2 hqn HTW hT2;go_wp2_with fail
    refine (HTT.out _).mono ?_;rintro e w' ⟨rfl,rfl⟩;clear HTT;cases T2 with
    | none =>
     replace HS:Hid (R=threeZ n ((y:Int)-1)):=HS;simp only [tw1,tw2,Option.isSome_none];have HQ2:Hid (0≤(y:Int)-1→((y:Int)-1).toNat*((y:Int)-1).toNat≤n):=fun _=>Nat.le_trans (Nat.mul_le_mul (by omega) (by omega)) HXX.out
     clear HXX;go_wp2;go_round
     case rel=>exact ⟨(y:Int)-1,rfl,by omega,by omega,HQ2,HS⟩
     case measure=>simp [intOf]
    | some yz =>
     obtain ⟨y2,z2⟩:=yz;have HX:Hid (R=some (y,y2,z2)):=HS;clear HS HXX;simp only [tw1,tw2,Option.isSome_some];go_wp2;go_ret2
     rw [HX.out];exact ⟨_,rfl,Blk.new _ _ _,b1 _ _⟩
theorem r25number_c (n:Nat) (w:World) (h:n<256^128) :
  Calls Tryz.prog 104 #[.string (E n)] w fun e w'=>e=.returned (.tuple #[.int .i64 (if n<4294967296 then n else 0:Nat),.int .i64 (if n<4294967296 then 0 else 5)])∧w=w':=by
 have HV:Hid (∀w,Calls Tryz.prog 50 #[.string (E n)] w fun e w'=>e=.returned (.bool true)∧w=w'):=fun w=>rvalidE_c n w h
 by_cases h1:n<4294967296
 ·rw [if_pos h1,if_pos h1];have hs:(E n).size≤4:=(E_size_le n 4).2 (Nat.lt_of_lt_of_le h1 (by decide));have hs':¬ (4:Int)<((E n).size:Int):=by omega
  have HU:Hid (∀w,Calls Tryz.prog 127 #[.string (E n)] w fun e w'=>e=.returned (.int .u64 n)∧w=w'):=fun w=>ru64_c n w (Nat.lt_of_lt_of_le h1 (by decide))
  have c1:IntKind.i64.wrap (n:Int)=(n:Int):=wi64 (by omega) (by omega);clear h h1;go_enter Tryz.func104,Tryz.ntmps104
  go_wp2_with fail
  refine (HV.out _).mono ?_;rintro e w' ⟨rfl,rfl⟩;go_wp2_with fail
  refine (HU.out _).mono ?_;rintro e w' ⟨rfl,rfl⟩;go_wp2;go_ret2
  exact ⟨rfl,rfl⟩
 ·rw [if_neg h1,if_neg h1]
  have hs:4<(E n).size:=by
   apply Classical.byContradiction
   intro hn;have:=(E_size_le n 4).1 (by omega);exact h1 (Nat.lt_of_lt_of_le this (by decide))
  have hs':(4:Int)<((E n).size:Int):=by omega
  go_enter Tryz.func104,Tryz.ntmps104
  go_wp2_with fail
  refine (HV.out _).mono ?_;rintro e w' ⟨rfl,rfl⟩;go_wp2;go_ret2
  exact ⟨rfl,rfl⟩
theorem r25of_c (n:Nat) (w:World) (h:n<65536) :
  Calls Tryz.prog 108 #[.int .i64 (n:Int)] w fun e w'=>e=.returned (.string (E n))∧Below w.heap.size w w':=by
 have HO:Hid (∀w,Calls Tryz.prog 64 #[.int .u64 (n:Int)] w fun e w'=>e=.returned (.string (E n))∧Below w.heap.size w w'):=fun w=>rof_c n w (Nat.lt_of_lt_of_le h (by decide))
 have c1:IntKind.u64.wrap (n:Int)=(n:Int):=by rw [IntKind.wrap_u64];omega
 go_enter Tryz.func108,Tryz.ntmps108
 go_wp2_with fail
 refine (HO.out _).mono ?_;rintro e w' ⟨rfl,hb⟩;go_wp2;go_ret
 exact ⟨rfl,hb⟩
end
end Go.Proofs.YtfgandecbkbleaaGreatDoor
