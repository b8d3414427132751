import Derived.Test.YtfgandecbkbleaaGreatDoorInt4
import Derived.Test.YtfgandecbkbleaaGreatDoorNat2
import Derived.Test.YtfgandecbkbleaaGreatDoorDivN
set_option linter.unusedVariables false
set_option linter.unusedSimpArgs false
set_option maxRecDepth 100000
set_option maxHeartbeats 16000000
namespace Go.Proofs.YtfgandecbkbleaaGreatDoor
section
/- foursquares: the searches,as plain functions. -/
open Go.RowKit Go.Shelf
def rt:Nat→Nat
 | 0=>0
 | n+1=>if (rt n+1)*(rt n+1)≤n+1 then rt n+1 else rt n
theorem rt_spec (n:Nat):rt n*rt n≤n∧n<(rt n+1)*(rt n+1):=by
 induction n with
 | zero=>exact ⟨Nat.le_refl _,Nat.one_pos⟩
 | succ n ih =>
  unfold rt;split
  ·rename_i h;refine ⟨h,?_⟩
   have h2:(rt n+1+1)*(rt n+1+1)=(rt n+1)*(rt n+1)+2*(rt n+1)+1:=by
    simp only [Nat.add_mul,Nat.mul_add,Nat.mul_one,Nat.one_mul];omega
   omega
  ·omega
theorem rt_uniq {n r:Nat} (h1:r*r≤n) (h2:n<(r+1)*(r+1)):r=rt n:=by
 obtain ⟨h3,h4⟩:=rt_spec n;rcases Nat.lt_trichotomy r (rt n) with h | h | h
 ·have:=Nat.mul_le_mul (show r+1≤rt n by omega) (show r+1≤rt n by omega);omega
 ·exact h
 ·have:=Nat.mul_le_mul (show rt n+1≤r by omega) (show rt n+1≤r by omega);omega
theorem rt_lt {n k:Nat} (h:n<k*k):rt n<k:=by
 apply Classical.byContradiction
 intro h1;have h2:=Nat.mul_le_mul (show k≤rt n by omega) (show k≤rt n by omega);have:=(rt_spec n).1;omega
def twoF (n:Nat):Nat→Option (Nat × Nat)
 | 0=>if 0<n then none else some (0,0)
 | x+1=>if 2*(x+1)*(x+1)<n then none else if rt (n-(x+1)*(x+1))*rt (n-(x+1)*(x+1))=n-(x+1)*(x+1)∧rt (n-(x+1)*(x+1))≤x+1 then some (x+1,rt (n-(x+1)*(x+1))) else twoF n x
def threeF (n:Nat):Nat→Option (Nat × Nat × Nat)
 | 0=>if 0<n then none else some (0,0,0)
 | x+1=>if 3*(x+1)*(x+1)<n then none else match twoF (n-(x+1)*(x+1)) (min (rt (n-(x+1)*(x+1))) (x+1)) with
  | some (y,z)=>some (x+1,y,z)
  | none=>threeF n x
def sevF:Nat→Nat→Bool
 | 0,n=>n%8==7
 | k+1,n=>if 0<n∧n%4=0 then sevF k (n / 4) else n%8==7
theorem fsroot_c (n:Nat) (w:World) (hn:n<4294967296) :
  Calls Tryz.prog 96 #[.int .u64 (n:Int)] w fun e w'=>e=.returned (.int .u64 (rt n:Nat))∧w=w':=by
 have HN:=Lib.hid hn;clear hn;go_enter Tryz.func96,Tryz.ntmps96
 go_wp2;go_loop [3,4] (fun x b=>∃(r p c:Nat),x=.int .u64 r∧b=.int .u64 c∧c=p / 2∧1≤p∧r+p≤131072∧Hid (r*r≤n∧n<(r+p)*(r+p))∧(p=1∨p%2=0)∧Hid (∃j,p=2^j)) (fun _ b=>(intOf b).toNat)
 case atStart=>exact ⟨0,131072,65536,rfl,rfl,rfl,by omega,by omega,⟨by omega,by have:=HN.out;omega⟩,by omega,⟨17,rfl⟩⟩
 case round =>
  obtain ⟨r,p,b,rfl,rfl,hb,hp1,hrp,HR,hp2,HJ⟩:=hrel;by_cases h1:p=1
  ·have HE:Hid (r=rt n):=rt_uniq HR.out.1 (by rw [←h1];exact HR.out.2);have hb0:¬ 0<b:=by omega
   have hb1:¬ (0:Int)<(b:Int):=by omega
   clear hb h1 hp2 HJ HR hrp hp1;obtain ⟨q,hq⟩:∃q,q=rt n:=⟨_,rfl⟩;rw [←hq] at HE;have HQ:=Lib.hid hq;obtain rfl:r=q:=HE.out;clear hq HE;go_wp2;go_ret
   exact ⟨by rw [←HQ.out];rfl,rfl⟩
  ·have hpb:p=2*b:=by omega
   have hb0:0<b:=by omega
   have HJ2:Hid (∃j,b=2^j):=by
    obtain ⟨j,hj⟩:=HJ.out;cases j with
    | zero=>exact absurd hj h1
    | succ j=>exact ⟨j,by rw [Nat.pow_succ] at hj;omega⟩
   have hb2:b=1∨b%2=0:=by
    obtain ⟨j,hj⟩:=HJ2.out;cases j with
    | zero=>left;simpa using hj
    | succ j=>right;rw [Nat.pow_succ] at hj;omega
   clear hb h1 hp2 HJ;subst hpb;obtain ⟨y,hy⟩:∃y,y=r+b:=⟨_,rfl⟩;have hy2:y≤131072:=by omega
   obtain ⟨z,hz⟩:∃z,z=y*y:=⟨_,rfl⟩;have hz2:z≤131072*131072:=by rw [hz];exact Nat.mul_le_mul hy2 hy2
   have c1:IntKind.u64.wrap ((r:Int)+(b:Int))=(y:Int):=by rw [IntKind.wrap_u64];omega
   have c2:IntKind.u64.wrap ((y:Int)*(y:Int))=(z:Int):=by rw [show (y:Int)*(y:Int)=(z:Int) by rw [hz];exact (Int.natCast_mul y y).symm,IntKind.wrap_u64];omega
   have c3:IntKind.u64.wrap ((b:Int).tdiv 2)=((b / 2:Nat):Int):=by rw [Int.tdiv_eq_ediv_of_nonneg (by omega),IntKind.wrap_u64];omega
   have HYY:=Lib.hid hy;have HZZ:=Lib.hid hz;clear hy hz;by_cases h2:z≤n
   ·have HX:Hid (y*y≤n∧n<(y+b)*(y+b)):=⟨by rw [←HZZ.out];exact h2,by have:=HR.out.2;rwa [show r+2*b=y+b by have:=HYY.out;omega] at this⟩;go_wp2;go_round
    case rel=>exact ⟨y,b,b / 2,rfl,rfl,rfl,by omega,by have:=HYY.out;omega,HX,hb2,HJ2⟩
    case measure=>simp [intOf];omega
   ·have HX:Hid (r*r≤n∧n<(r+b)*(r+b)):=⟨HR.out.1,by rw [←HYY.out,←HZZ.out];omega⟩;go_wp2;go_round
    case rel=>exact ⟨r,b,b / 2,rfl,rfl,rfl,by omega,by omega,HX,hb2,HJ2⟩
    case measure=>simp [intOf];omega
def oneB (n most:Nat):Bool:=decide (rt n*rt n=n)&&decide (rt n≤most)
theorem fsone_c (n most:Nat) (w:World) (hn:n<4294967296) :
  Calls Tryz.prog 164 #[.int .u64 (n:Int),.int .u64 (most:Int)] w fun e w'=>e=.returned (.tuple #[.int .u64 (rt n:Nat),.bool (oneB n most)])∧w=w':=by
 have h1:=fsroot_c n w hn;have h2:=rt_lt (k:=65536) (show n<65536*65536 by omega);have HB:Hid (oneB n most=(decide (rt n*rt n=n)&&decide (rt n≤most))):=rfl;generalize rt n=r at h1 h2 HB ⊢;generalize oneB n most=bo at HB ⊢;have HR:=Lib.hid h1;obtain ⟨z,hz⟩:∃z,z=r*r:=⟨_,rfl⟩;rw [←hz] at HB;have hz2:z≤65536*65536:=by rw [hz];exact Nat.mul_le_mul (by omega) (by omega)
 have c2:IntKind.u64.wrap ((r:Int)*(r:Int))=(z:Int):=by rw [show (r:Int)*(r:Int)=(z:Int) by rw [hz];exact (Int.natCast_mul r r).symm,IntKind.wrap_u64];omega
 clear h1 hz hz2;go_enter Tryz.func164,Tryz.ntmps164
 go_wp2_with fail
 refine HR.out.mono ?_;rintro e w' ⟨rfl,rfl⟩;by_cases h3:z=n
 ·have e1:((z:Int)==(n:Int))=true:=by rw [h3];simp
  by_cases h4:r≤most
  ·have HX:Hid (bo=true):=by rw [Hid,HB.out,decide_eq_true h3,decide_eq_true h4];rfl
   clear HB;go_wp2;go_ret2
   exact ⟨r2 rfl (congrArg Value.bool HX.out.symm),rfl⟩
  ·have HX:Hid (bo=false):=by rw [Hid,HB.out,decide_eq_true h3,decide_eq_false h4];rfl
   clear HB;go_wp2;go_ret2
   exact ⟨r2 rfl (congrArg Value.bool HX.out.symm),rfl⟩
 ·have e1:((z:Int)==(n:Int))=false:=by rw [beq_eq_false_iff_ne];omega
  have HX:Hid (bo=false):=by rw [Hid,HB.out,decide_eq_false h3];rfl
  clear HB;go_wp2;go_ret2
  exact ⟨r2 rfl (congrArg Value.bool HX.out.symm),rfl⟩
theorem sev_eq (m:Nat):((m:Int)%8==7)=(m%8==7):=by
 rw [Bool.eq_iff_iff];simp only [beq_iff_eq];omega
theorem sev_stop {k m:Nat} (h:¬ (0<m∧m%4=0)):sevF k m=(m%8==7):=by
 cases k with
 | zero=>rfl
 | succ k=>rw [sevF,if_neg h]
theorem fsseven_c (n:Nat) (w:World) (hn:n<4294967296) :
  Calls Tryz.prog 97 #[.int .u64 (n:Int)] w fun e w'=>e=.returned (.bool (sevF 16 n))∧w=w':=by
 obtain ⟨b,hb⟩:∃b,b=sevF 16 n:=⟨_,rfl⟩;have HB:=Lib.hid hb;rw [←hb];clear hb;have HN:Hid (n<4^16):=hn;go_enter Tryz.func97,Tryz.ntmps97
 go_wp2;go_loop [0] (fun x=>∃(k m:Nat),x=.int .u64 m∧m<4294967296∧Hid (m<4^k)∧Hid (b=sevF k m)) (fun x=>(intOf x).toNat)
 case atStart=>exact ⟨16,n,rfl,hn,HN,HB⟩
 case round =>
  obtain ⟨k,m,rfl,hm,HK,HS⟩:=hrel;clear HB HN;have c1:IntKind.u64.wrap ((m:Int).tmod 4)=((m%4:Nat):Int):=by rw [Int.tmod_eq_emod_of_nonneg (by omega),IntKind.wrap_u64];omega
  have c2:IntKind.u64.wrap ((m:Int).tdiv 4)=((m / 4:Nat):Int):=by rw [Int.tdiv_eq_ediv_of_nonneg (by omega),IntKind.wrap_u64];omega
  have c3:IntKind.u64.wrap ((m:Int).tmod 8)=((m%8:Nat):Int):=by rw [Int.tmod_eq_emod_of_nonneg (by omega),IntKind.wrap_u64];omega
  by_cases h1:0<m∧m%4=0
  ·obtain ⟨h0,h4⟩:=h1
   have HX:Hid (∃j,m / 4<4^j∧b=sevF j (m / 4)):=by
    have hk:=HK.out;cases k with
    | zero=>omega
    | succ j=>exact ⟨j,by rw [Nat.pow_succ] at hk;omega,by rw [HS.out,sevF,if_pos ⟨h0,h4⟩]⟩
   obtain ⟨j,hj1,hj2⟩:=HX.out;have HJ1:=Lib.hid hj1;have HJ2:=Lib.hid hj2;clear hj1 hj2 HX HK HS c3;have h5:(0:Int)<(m:Int):=by omega
   have h6:(((m%4:Nat):Int)==0)=true:=by rw [h4];rfl
   go_wp2;go_round
   case rel=>exact ⟨j,m / 4,rfl,by omega,HJ1,HJ2⟩
   case measure=>simp [intOf];omega
  ·have HX:Hid (b=(m%8==7)):=HS.out.trans (sev_stop h1);clear HS HK;by_cases h0:0<m
   ·have h4:¬ m%4=0:=fun h=>h1 ⟨h0,h⟩
    clear h1;go_wp2;go_ret
    exact ⟨congrArg (fun b=>Ending.returned (Value.bool b)) ((sev_eq m).trans HX.out.symm),rfl⟩
   ·clear h1;go_wp2;go_ret
    exact ⟨congrArg (fun b=>Ending.returned (Value.bool b)) ((sev_eq m).trans HX.out.symm),rfl⟩
theorem two_step (n x:Nat):twoF n x=if 2*x*x<n then none else if oneB (n-x*x) x=true then some (x,rt (n-x*x)) else if x=0 then none else twoF n (x-1):=by
 unfold oneB;cases x with
 | zero =>
  rw [twoF];by_cases h:0<n
  ·rw [if_pos h,if_pos (by simpa using h)]
  ·have:n=0:=by omega
   subst this;rfl
 | succ x =>
  rw [twoF];simp only [Bool.and_eq_true,decide_eq_true_eq,Nat.add_sub_cancel,Nat.succ_ne_zero,if_false,Nat.add_eq_zero_iff,Nat.one_ne_zero,and_false]
def tw1:Option (Nat × Nat)→Nat | some (a,_)=>a | none=>0
def tw2:Option (Nat × Nat)→Nat | some (_,b)=>b | none=>0
theorem fstwo_c (n most:Nat) (w:World) (hn:n<4294967296) (hm:most<4294967296) :
  Calls Tryz.prog 135 #[.int .u64 (n:Int),.int .u64 (most:Int)] w fun e w'=>e=.returned (.tuple #[.agg #[.int .u64 (tw1 (twoF n (min (rt n) most)):Nat),.int .u64 (tw2 (twoF n (min (rt n) most)):Nat)],.bool (twoF n (min (rt n) most)).isSome])∧Below w.heap.size w w':=by
 have h1:=fsroot_c n w hn;have h2:=rt_lt (k:=65536) (show n<65536*65536 by omega);have h3:=(rt_spec n).1;obtain ⟨x0,hx0⟩:∃x,x=min (rt n) most:=⟨_,rfl⟩;have hx1:x0≤rt n:=by omega
 have hxx:x0*x0≤n:=Nat.le_trans (Nat.mul_le_mul hx1 hx1) h3;have hx2:x0<65536:=by omega
 obtain ⟨R,hR⟩:∃R,R=twoF n x0:=⟨_,rfl⟩;rw [←hx0,←hR];have HR:=Lib.hid hR;have HX:=Lib.hid hx0;have HXR:Hid (True):=trivial;have HXX:=Lib.hid hxx;obtain ⟨r,hr⟩:∃r,r=rt n:=⟨_,rfl⟩;rw [←hr] at HX;have HRR:=Lib.hid hr;have hrb:min (r:Int) (most:Int)=(x0:Int):=by have:=HX.out;omega
 have HRT:Hid (∀w,Calls Tryz.prog 96 #[.int .u64 (n:Int)] w fun e w'=>e=.returned (.int .u64 (r:Nat))∧w=w'):=fun w=>by rw [HRR.out];exact fsroot_c n w hn
 have hA:=Blk.new w #[.int .u64 0,.int .u64 0] 178;have hBW:=b1 w (.cells #[.int .u64 0,.int .u64 0] 178);clear h1 h2 h3 hx1 hxx hR hx0 hr HRR HXR;go_enter Tryz.func135,Tryz.ntmps135
 go_wp2_with fail
 refine (HRT.out _).mono ?_;rintro e w' ⟨rfl,rfl⟩;go_wp2;generalize w.alloc (.cells #[.int .u64 0,.int .u64 0] 178)=w1 at hA hBW ⊢;obtain ⟨g,hg⟩:∃g,w.heap.size=g:=⟨_,rfl⟩;rw [hg] at hA ⊢;have HG:=Lib.hid hg;clear hg;replace hA:Blk w1 g 178 [.int .u64 0,.int .u64 0]:=hA;have hAl:=hA.lt;go_loop [6] (fun v=>∃x:Nat,v=.int .u64 x∧x<65536∧Hid (x*x≤n)∧Hid (R=twoF n x)) (fun v=>(intOf v).toNat)
 case atStart=>exact ⟨x0,rfl,hx2,HXX,HR⟩
 case round =>
  clear HR HXX hrb HX hx2;obtain ⟨x,rfl,hx,HXX,HR⟩:=hrel;have HS:=Lib.hid (HR.out.trans (two_step n x));clear HR;obtain ⟨q,hq⟩:∃q,q=x*x:=⟨_,rfl⟩;have hq2:q≤65536*65536:=by rw [hq];exact Nat.mul_le_mul (by omega) (by omega)
  have hqn:q≤n:=by rw [hq];exact HXX.out
  have hz:2*x*x=2*q:=by rw [hq,Nat.mul_assoc]
  rw [hz,←hq] at HS;have c1:IntKind.u64.wrap (2*(x:Int))=2*(x:Int):=by rw [IntKind.wrap_u64];omega
  have c2:IntKind.u64.wrap (2*(x:Int)*(x:Int))=((2*q:Nat):Int):=by
   rw [show 2*(x:Int)*(x:Int)=((2*q:Nat):Int) by rw [←hz];simp only [Int.natCast_mul];rfl,IntKind.wrap_u64];omega
  have c3:IntKind.u64.wrap ((x:Int)*(x:Int))=(q:Int):=by rw [show (x:Int)*(x:Int)=(q:Int) by rw [hq];exact (Int.natCast_mul x x).symm,IntKind.wrap_u64];omega
  have c4:IntKind.u64.wrap ((n:Int)-(q:Int))=((n-q:Nat):Int):=by rw [IntKind.wrap_u64];omega
  have hN:=hn;clear hq hz;by_cases h1:2*q<n
  ·have HX:Hid (R=none):=HS.out.trans (if_pos h1);have h1':¬ n≤2*q:=by omega
   have h1i:¬ (n:Int)≤((2*q:Nat):Int):=by omega
   clear HS;obtain ⟨hAc0,hAf0,hAc1,hAf1⟩:=hA.x2;go_wp2;refine bodyPost_ret (v:=.tuple #[.agg #[.int .u64 0,.int .u64 0],.bool false]) ?_ rfl ?_
   ·simp [results,Tryz.results135,go_sem,hAc0,hAc1,hAl]
   ·rw [HX.out];exact ⟨rfl,(hBW.setCell (Nat.le_of_eq HG.out) _).setCell (Nat.le_of_eq HG.out) _⟩
  ·have h1':n≤2*q:=by omega
   replace HS:=Lib.hid (HS.out.trans (if_neg h1));obtain ⟨d,hd⟩:∃d,d=n-q:=⟨_,rfl⟩;rw [←hd] at HS c4;have hd2:d<4294967296:=by omega
   obtain ⟨bo,hbo⟩:∃b,b=oneB d x:=⟨_,rfl⟩;obtain ⟨r2,hr2⟩:∃r,r=rt d:=⟨_,rfl⟩;have HON:Hid (∀w,Calls Tryz.prog 164 #[.int .u64 (d:Int),.int .u64 (x:Int)] w fun e w'=>e=.returned (.tuple #[.int .u64 (r2:Nat),.bool bo])∧w=w'):=fun w=>by rw [hr2,hbo];exact fsone_c d x w hd2
   rw [←hbo,←hr2] at HS;clear h1 hd hbo hr2 hd2;go_wp2_with fail
   refine (HON.out _).mono ?_;rintro e w' ⟨rfl,rfl⟩;cases bo
   ·replace HS:=Lib.hid (HS.out.trans (if_neg (by decide)));by_cases hx0:x=0
    ·have HX:Hid (R=none):=HS.out.trans (if_pos hx0);have hxe:((x:Int)==0)=true:=by rw [hx0];rfl
     clear HS;obtain ⟨hAc0,hAf0,hAc1,hAf1⟩:=hA.x2;go_wp2;refine bodyPost_ret (v:=.tuple #[.agg #[.int .u64 0,.int .u64 0],.bool false]) ?_ rfl ?_
     ·simp [results,Tryz.results135,go_sem,hAc0,hAc1,hAl]
     ·rw [HX.out];exact ⟨rfl,(hBW.setCell (Nat.le_of_eq HG.out) _).setCell (Nat.le_of_eq HG.out) _⟩
    ·have HX:Hid (R=twoF n (x-1)):=HS.out.trans (if_neg hx0);have hxe:((x:Int)==0)=false:=by rw [beq_eq_false_iff_ne];omega
     have c5:IntKind.u64.wrap ((x:Int)-1)=((x-1:Nat):Int):=by rw [IntKind.wrap_u64];omega
     have HQ2:Hid ((x-1)*(x-1)≤n):=Nat.le_trans (Nat.mul_le_mul (show x-1≤x by omega) (show x-1≤x by omega)) HXX.out;clear HS HXX;go_wp2;go_round
     case rel=>exact ⟨x-1,rfl,by omega,HQ2,HX⟩
     case measure=>simp [intOf];omega
   ·have HX:Hid (R=some (x,r2)):=HS.out.trans (if_pos rfl);clear HS HXX;obtain ⟨hAc0,hAf0,hAc1,hAf1⟩:=hA.x2;go_wp2;refine bodyPost_ret (v:=.tuple #[.agg #[.int .u64 (x:Int),.int .u64 (r2:Int)],.bool true]) ?_ rfl ?_
    ·simp [results,Tryz.results135,go_sem,hAc0,hAc1,hAf0,hAf1,hAl]
    ·rw [HX.out];exact ⟨rfl,(hBW.setCell (Nat.le_of_eq HG.out) _).setCell (Nat.le_of_eq HG.out) _⟩
theorem three_step (n x:Nat):threeF n x=if 3*x*x<n then none else match twoF (n-x*x) (min (rt (n-x*x)) x) with
  | some (y,z)=>some (x,y,z)
  | none=>if x=0 then none else threeF n (x-1):=by
 cases x with
 | zero =>
  rw [threeF];by_cases h:0<n
  ·rw [if_pos h,if_pos (by simpa using h)]
  ·have:n=0:=by omega
   subst this;rfl
 | succ x =>
  rw [threeF];simp only [Nat.add_sub_cancel,Nat.succ_ne_zero,if_false,Nat.add_eq_zero_iff,Nat.one_ne_zero,and_false]
def th1:Option (Nat × Nat × Nat)→Nat | some (a,_,_)=>a | none=>0
def th2:Option (Nat × Nat × Nat)→Nat | some (_,b,_)=>b | none=>0
def th3:Option (Nat × Nat × Nat)→Nat | some (_,_,c)=>c | none=>0
def thM (x:Nat) (r:Option (Nat × Nat × Nat)):Option (Nat × Nat)→Option (Nat × Nat × Nat) | some (y,z)=>some (x,y,z) | none=>r
theorem fsthree_c (n most:Nat) (w:World) (hn:n<4294967296) (hm:most<4294967296) :
  Calls Tryz.prog 98 #[.int .u64 (n:Int),.int .u64 (most:Int)] w fun e w'=>e=.returned (.tuple #[.agg #[.int .u64 (th1 (threeF n (min (rt n) most)):Nat),.int .u64 (th2 (threeF n (min (rt n) most)):Nat),.int .u64 (th3 (threeF n (min (rt n) most)):Nat)],.bool (threeF n (min (rt n) most)).isSome])∧Below w.heap.size w w':=by
 have h1:=fsroot_c n w hn;have h2:=rt_lt (k:=65536) (show n<65536*65536 by omega);have h3:=(rt_spec n).1;obtain ⟨x0,hx0⟩:∃x,x=min (rt n) most:=⟨_,rfl⟩;have hx1:x0≤rt n:=by omega
 have hxx:x0*x0≤n:=Nat.le_trans (Nat.mul_le_mul hx1 hx1) h3;have hx2:x0<65536:=by omega
 obtain ⟨R,hR⟩:∃R,R=threeF n x0:=⟨_,rfl⟩;rw [←hx0,←hR];have HR:=Lib.hid hR;have HX:=Lib.hid hx0;have HXX:=Lib.hid hxx;obtain ⟨r,hr⟩:∃r,r=rt n:=⟨_,rfl⟩;rw [←hr] at HX;have HRR:=Lib.hid hr;have hrb:min (r:Int) (most:Int)=(x0:Int):=by have:=HX.out;omega
 have HRT:Hid (∀w,Calls Tryz.prog 96 #[.int .u64 (n:Int)] w fun e w'=>e=.returned (.int .u64 (r:Nat))∧w=w'):=fun w=>by rw [HRR.out];exact fsroot_c n w hn
 have hA:=Blk.new w #[.int .u64 0,.int .u64 0,.int .u64 0] 144;have hBW:=b1 w (.cells #[.int .u64 0,.int .u64 0,.int .u64 0] 144);clear h1 h2 h3 hx1 hxx hR hx0 hr HRR;go_enter Tryz.func98,Tryz.ntmps98
 go_wp2_with fail
 refine (HRT.out _).mono ?_;rintro e w' ⟨rfl,rfl⟩;go_wp2;generalize w.alloc (.cells #[.int .u64 0,.int .u64 0,.int .u64 0] 144)=w1 at hA hBW ⊢;obtain ⟨g,hg⟩:∃g,w.heap.size=g:=⟨_,rfl⟩;rw [hg] at hA ⊢;have HG:=Lib.hid hg;clear hg;replace hA:Blk w1 g 144 [.int .u64 0,.int .u64 0,.int .u64 0]:=hA;go_loopw [6] (fun v wr=>∃x:Nat,v=.int .u64 x∧x<65536∧Hid (x*x≤n)∧Hid (R=threeF n x)∧Below w1.heap.size w1 wr) (fun v _=>(intOf v).toNat)
 case atStart=>exact ⟨x0,rfl,hx2,HXX,HR,Below.refl _ _⟩
 case round =>
  clear HR HXX hrb HX hx2;obtain ⟨x,rfl,hx,HXX,HR,hbr⟩:=hrel;obtain ⟨wp,hwp⟩:∃wp,wp=wr:=⟨_,rfl⟩;subst hwp;have hAp:=hA.after hbr;have hbp:=bt hBW hbr;have hAl:=hAp.lt;obtain ⟨q,hq⟩:∃q,q=x*x:=⟨_,rfl⟩;have hq2:q≤65536*65536:=by rw [hq];exact Nat.mul_le_mul (by omega) (by omega)
  have hqn:q≤n:=by rw [hq];exact HXX.out
  have hz:3*x*x=3*q:=by rw [hq,Nat.mul_assoc]
  obtain ⟨d,hd⟩:∃d,d=n-q:=⟨_,rfl⟩;have hd2:d<4294967296:=by omega
  have HTW:=fstwo_c d x;obtain ⟨T2,hT2⟩:∃t,t=twoF d (min (rt d) x):=⟨_,rfl⟩
  have HS:Hid (R=if 3*q<n then none else thM x (if x=0 then none else threeF n (x-1)) T2):=by
   rw [Hid,HR.out,three_step n x,hz,←hq,←hd,←hT2];split <;> (cases T2 <;> rfl)
  rw [←hT2] at HTW;have HTT:Hid (∀w,Calls Tryz.prog 135 #[.int .u64 (d:Int),.int .u64 (x:Int)] w fun e w'=>e=.returned (.tuple #[.agg #[.int .u64 (tw1 T2:Nat),.int .u64 (tw2 T2:Nat)],.bool T2.isSome])∧Below w.heap.size w w'):=fun w=>HTW w hd2 (by omega)
  have c1:IntKind.u64.wrap (3*(x:Int))=3*(x:Int):=by rw [IntKind.wrap_u64];omega
  have c2:IntKind.u64.wrap (3*(x:Int)*(x:Int))=((3*q:Nat):Int):=by
   rw [show 3*(x:Int)*(x:Int)=((3*q:Nat):Int) by rw [←hz];simp only [Int.natCast_mul];rfl,IntKind.wrap_u64];omega
  have c3:IntKind.u64.wrap ((x:Int)*(x:Int))=(q:Int):=by rw [show (x:Int)*(x:Int)=(q:Int) by rw [hq];exact (Int.natCast_mul x x).symm,IntKind.wrap_u64];omega
  have c4:IntKind.u64.wrap ((n:Int)-(q:Int))=(d:Int):=by rw [IntKind.wrap_u64];omega
  clear hq hz hT2 HTW HR hd hd2;by_cases h1:3*q<n
  ·have HX:Hid (R=none):=HS.out.trans (if_pos h1);have h1':¬ n≤3*q:=by omega
   have h1i:¬ (n:Int)≤((3*q:Nat):Int):=by omega
   clear HS HTT;obtain ⟨hApc0,hApf0,hApc1,hApf1,hApc2,hApf2⟩:=hAp.x3;go_wp2;refine bodyPost_ret (v:=.tuple #[.agg #[.int .u64 0,.int .u64 0,.int .u64 0],.bool false]) ?_ rfl ?_
   ·simp [results,Tryz.results98,go_sem,hApc0,hApc1,hApc2,hAl]
   ·rw [HX.out];exact ⟨rfl,((hbp.setCell (Nat.le_of_eq HG.out) _).setCell (Nat.le_of_eq HG.out) _).setCell (Nat.le_of_eq HG.out) _⟩
  ·have h1':n≤3*q:=by omega
   replace HS:=Lib.hid (HS.out.trans (if_neg h1));clear h1;go_wp2_with fail
   refine (HTT.out _).mono ?_;rintro e w2 ⟨rfl,hb2⟩;clear HTT;cases T2 with
   | none =>
    replace HS:Hid (R=if x=0 then none else threeF n (x-1)):=HS;simp only [tw1,tw2,Option.isSome_none];have hA2:=hAp.after hb2;have hb3:=bt hbp hb2;by_cases hx0:x=0
    ·have HX:Hid (R=none):=HS.out.trans (if_pos hx0);have hxe:((x:Int)==0)=true:=by rw [hx0];rfl
     have hA3:=hA2.alloc (.cells #[.int .u64 0,.int .u64 0] 178);have hb4:=ba hb3 (.cells #[.int .u64 0,.int .u64 0] 178);have hA3l:=hA3.lt;clear HS;obtain ⟨hA3c0,hA3f0,hA3c1,hA3f1,hA3c2,hA3f2⟩:=hA3.x3;go_wp2;refine bodyPost_ret (v:=.tuple #[.agg #[.int .u64 0,.int .u64 0,.int .u64 0],.bool false]) ?_ rfl ?_
     ·simp [results,Tryz.results98,go_sem,hA3c0,hA3c1,hA3c2,hA3l]
     ·rw [HX.out];exact ⟨rfl,((hb4.setCell (Nat.le_of_eq HG.out) _).setCell (Nat.le_of_eq HG.out) _).setCell (Nat.le_of_eq HG.out) _⟩
    ·have HX:Hid (R=threeF n (x-1)):=HS.out.trans (if_neg hx0);have hxe:((x:Int)==0)=false:=by rw [beq_eq_false_iff_ne];omega
     have c5:IntKind.u64.wrap ((x:Int)-1)=((x-1:Nat):Int):=by rw [IntKind.wrap_u64];omega
     have HQ2:Hid ((x-1)*(x-1)≤n):=Nat.le_trans (Nat.mul_le_mul (show x-1≤x by omega) (show x-1≤x by omega)) HXX.out;have hbn:=ba (bt hbr hb2) (.cells #[.int .u64 0,.int .u64 0] 178);clear HS HXX;go_wp2;go_roundw
     case rel=>exact ⟨x-1,rfl,by omega,HQ2,HX,hbn⟩
     case measure=>simp [intOf];omega
   | some yz =>
    obtain ⟨y,z⟩:=yz;have HX:Hid (R=some (x,y,z)):=HS;clear HS;simp only [tw1,tw2,Option.isSome_some];have hA2:=(hAp.after hb2).alloc (.cells #[.int .u64 (y:Int),.int .u64 (z:Int)] 178);have hC2:=Blk.new w2 #[.int .u64 (y:Int),.int .u64 (z:Int)] 178;have hb3:=ba (bt hbp hb2) (.cells #[.int .u64 (y:Int),.int .u64 (z:Int)] 178);have hA2l:=hA2.lt;have hC2l:=hC2.lt;have hne:¬ w2.heap.size=g:=by have:=(hAp.after hb2).lt;omega
    obtain ⟨hA2c0,hA2f0,hA2c1,hA2f1,hA2c2,hA2f2⟩:=hA2.x3;obtain ⟨hC2c0,hC2f0,hC2c1,hC2f1⟩:=hC2.x2;go_wp2;refine bodyPost_ret (v:=.tuple #[.agg #[.int .u64 (x:Int),.int .u64 (y:Int),.int .u64 (z:Int)],.bool true]) ?_ rfl ?_
    ·simp [results,Tryz.results98,go_sem,hA2c0,hA2c1,hA2c2,hA2f0,hA2f1,hA2f2,hA2l]
    ·rw [HX.out];exact ⟨rfl,((hb3.setCell (Nat.le_of_eq HG.out) _).setCell (Nat.le_of_eq HG.out) _).setCell (Nat.le_of_eq HG.out) _⟩
end
section
/- Long division in base 256: the digits of a number as a list,one digit set,the steps of the loops. Plain Lean. -/
def digs (X M:Nat):List Nat:=(List.range M).map fun i=>X / 256^i%256
def setd (X p v:Nat):Nat:=X / 256^(p+1)*256^(p+1)+v*256^p+X%256^p
theorem p256 (k:Nat):0<256^k:=Nat.pow_pos (by decide)
theorem digs_len (X M:Nat):(digs X M).length=M:=by simp [digs]
theorem digs_get (X M i:Nat) (h:i<(digs X M).length):(digs X M)[i]=X / 256^i%256:=by simp [digs]
theorem digs_get? (X M i:Nat) (h:i<M):(digs X M)[i]?=some (X / 256^i%256):=by simp [digs,h]
theorem digs_zero (M:Nat):digs 0 M=List.replicate M 0:=by
 refine List.ext_getElem (by simp [digs]) fun i h1 h2=>?_
 simp [digs]
theorem dig_parts (X p:Nat):X=X / 256^(p+1)*256^(p+1)+X / 256^p%256*256^p+X%256^p:=by
 have h1:=Nat.div_add_mod X (256^(p+1));have h2:=mod_succ X p;rw [Nat.mul_comm] at h1;omega
theorem setd_eq (X p v:Nat):setd X p v+X / 256^p%256*256^p=X+v*256^p:=by
 have:=dig_parts X p;unfold setd;omega
theorem dig_low (A p L i:Nat) (h:i<p):(A*256^p+L) / 256^i%256=L / 256^i%256:=by
 obtain ⟨d,rfl⟩:∃d,p=i+1+d:=⟨p-i-1,by omega⟩;rw [show A*256^(i+1+d)+L=L+256^i*(256*(256^d*A)) by rw [Nat.pow_add,Nat.pow_add,Nat.pow_one];rw [Nat.add_comm];congr 1;rw [Nat.mul_comm A,Nat.mul_assoc,Nat.mul_assoc],Nat.add_mul_div_left _ _ (p256 i),Nat.add_mul_mod_self_left]
theorem dig_high (A p L i:Nat) (h:p≤i) (hL:L<256^p):(A*256^p+L) / 256^i=A / 256^(i-p):=by
 obtain ⟨d,rfl⟩:∃d,i=p+d:=⟨i-p,by omega⟩;rw [Nat.pow_add,←Nat.div_div_eq_div_mul,Nat.add_comm,Nat.add_mul_div_right _ _ (p256 p),Nat.div_eq_of_lt hL,Nat.zero_add,Nat.add_sub_cancel_left]
theorem low_lt (v r p:Nat) (hv:v<256) (hr:r<256^p):v*256^p+r<256^(p+1):=by
 have:(v+1)*256^p≤256*256^p:=Nat.mul_le_mul_right _ hv;rw [Nat.add_mul,Nat.one_mul] at this;rw [Nat.pow_succ,Nat.mul_comm (256^p)];omega
theorem setd_div (X p v M:Nat) (hv:v<256) (h:p<M):setd X p v / 256^M=X / 256^M:=by
 have hr:X%256^p<256^p:=Nat.mod_lt _ (p256 p)
 have e1:setd X p v / 256^M=X / 256^(p+1) / 256^(M-(p+1)):=by
  unfold setd;rw [Nat.add_assoc,dig_high _ (p+1) _ M (by omega) (low_lt v _ p hv hr)]
 rw [e1,Nat.div_div_eq_div_mul,←Nat.pow_add,show p+1+(M-(p+1))=M by omega]
theorem setd_dig (X p v i:Nat) (hv:v<256):setd X p v / 256^i%256=if i=p then v else X / 256^i%256:=by
 have hr:X%256^p<256^p:=Nat.mod_lt _ (p256 p);by_cases h:i=p
 ·subst h;rw [if_pos rfl];unfold setd
  rw [show X / 256^(i+1)*256^(i+1)+v*256^i+X%256^i=(X / 256^(i+1)*256+v)*256^i+X%256^i by rw [Nat.add_mul,Nat.pow_succ,Nat.mul_comm (256^i) 256,Nat.mul_assoc],
   dig_high _ _ _ _ (Nat.le_refl _) hr,Nat.sub_self,Nat.pow_zero,Nat.div_one,Nat.add_comm,Nat.mul_comm,Nat.add_mul_mod_self_left,Nat.mod_eq_of_lt hv]
 ·rw [if_neg h];rcases Nat.lt_or_gt_of_ne h with h1 | h1
  ·have e1:setd X p v / 256^i%256=X%256^p / 256^i%256:=by
    unfold setd;rw [show X / 256^(p+1)*256^(p+1)+v*256^p+X%256^p=(X / 256^(p+1)*256+v)*256^p+X%256^p by rw [Nat.add_mul,Nat.pow_succ,Nat.mul_comm (256^p) 256,Nat.mul_assoc],dig_low _ _ _ _ h1]
   have e2:X / 256^i%256=X%256^p / 256^i%256:=by
    conv=>lhs;rw [show X=X / 256^p*256^p+X%256^p by have:=Nat.div_add_mod X (256^p);rw [Nat.mul_comm] at this;omega]
    rw [dig_low _ _ _ _ h1]
   rw [e1,e2]
  ·rw [setd_div X p v i hv h1]
theorem digs_set (X p v M:Nat) (hv:v<256):(digs X M).set p v=digs (setd X p v) M:=by
 refine List.ext_getElem (by simp [digs]) fun i h1 h2=>?_
 rw [List.getElem_set,digs_get,digs_get,setd_dig X p v i hv];by_cases h:p=i
 ·rw [if_pos h,if_pos h.symm]
 ·rw [if_neg h,if_neg (fun e=>h e.symm)]
theorem setd_fill (X k:Nat):setd (X%256^k) k (X / 256^k%256)=X%256^(k+1):=by
 have h1:=setd_eq (X%256^k) k (X / 256^k%256);rw [Nat.div_eq_of_lt (Nat.mod_lt _ (p256 k)),Nat.zero_mod,Nat.zero_mul,Nat.add_zero] at h1;rw [h1,mod_succ];omega
theorem shl_dig0 (x s:Nat):x*2^s / 256^0%256=x%256*2^s%256:=by
 rw [Nat.pow_zero,Nat.div_one,Nat.mod_mul_mod]
theorem two8 {s:Nat} (hs:s≤7):2^(8-s)*2^s=256:=by
 rw [←Nat.pow_add,show 8-s+s=8 by omega]
theorem shl_dig (x s k:Nat) (hs:s≤7):x*2^s / 256^(k+1)%256=x / 256^(k+1)%256*2^s%256+x / 256^k%256 / 2^(8-s):=by
 have h8:=two8 hs;have hp:0<2^s:=Nat.pow_pos (by decide);have hq:0<2^(8-s):=Nat.pow_pos (by decide)
 have e1:x*2^s / 256^(k+1)=x / 256^k / 2^(8-s):=by
  rw [Nat.pow_succ,show 256^k*256=256^k*2^(8-s)*2^s by rw [Nat.mul_assoc,h8],Nat.mul_div_mul_right _ _ hp,Nat.div_div_eq_div_mul]
 have e2:x / 256^(k+1)=x / 256^k / 256:=by rw [Nat.pow_succ,Nat.div_div_eq_div_mul]
 rw [e1,e2];generalize x / 256^k=y
 have h1:y=y%256+2^(8-s)*(2^s*(y / 256)):=by
  have:=Nat.mod_add_div y 256;rw [←Nat.mul_assoc,h8];omega
 have h2:y / 2^(8-s)=y%256 / 2^(8-s)+2^s*(y / 256):=by
  conv=>lhs;rw [h1]
  rw [Nat.add_mul_div_left _ _ hq]
 have h3:y%256 / 2^(8-s)<2^s:=by
  rw [Nat.div_lt_iff_lt_mul hq,Nat.mul_comm,h8];exact Nat.mod_lt _ (by decide)
 rw [h2,Nat.mod_mul_mod,Nat.mul_comm (y / 256)];generalize y%256 / 2^(8-s)=r at h3
 have h4:2^s*(y / 256)%256=2^s*(y / 256%2^(8-s)):=by
  have:(256:Nat)=2^s*2^(8-s):=by rw [Nat.mul_comm,h8]
  conv=>lhs;arg 2;rw [this]
  rw [Nat.mul_mod_mul_left]
 have h5:2^s*(y / 256%2^(8-s))+2^s≤256:=by
  have:=Nat.mod_lt (y / 256) hq;have h6:2^s*(y / 256%2^(8-s)+1)≤2^s*2^(8-s):=Nat.mul_le_mul_left _ this;rw [Nat.mul_add,Nat.mul_one,Nat.mul_comm (2^s) (2^(8-s)),h8] at h6;exact h6
 rw [Nat.add_mod,h4,Nat.mod_eq_of_lt (a:=r) (by omega),Nat.mod_eq_of_lt (by omega)];omega
theorem shl_or (x y s:Nat) (hs:s≤7):(x%256*2^s%256) ||| (y%256 / 2^(8-s))=x%256*2^s%256+y%256 / 2^(8-s):=by
 have h8:=two8 hs;have hq:0<2^(8-s):=Nat.pow_pos (by decide)
 have h3:y%256 / 2^(8-s)<2^s:=by
  rw [Nat.div_lt_iff_lt_mul hq,Nat.mul_comm,h8];exact Nat.mod_lt _ (by decide)
 have h4:x%256*2^s%256=2^s*(x%256%2^(8-s)):=by
  have:(256:Nat)=2^s*2^(8-s):=by rw [Nat.mul_comm,h8]
  conv=>lhs;rw [Nat.mul_comm (x%256)]
  conv=>lhs;arg 2;rw [this]
  rw [Nat.mul_mod_mul_left]
 rw [h4,Nat.two_pow_add_eq_or_of_lt h3]
theorem ld_sub (X D Y j k g c t x' t':Nat) (h:Y+g*(D%256^k)*256^j=X+(c+t)*256^(j+k))
  (hx:x'+(c+g*(D / 256^k%256))%256+t=Y / 256^(j+k)%256+256*t') :
  setd Y (j+k) x'+g*(D%256^(k+1))*256^j=X+((c+g*(D / 256^k%256)) / 256+t')*256^(j+(k+1)):=by
 have h1:=setd_eq Y (j+k) x';have h2:=Nat.div_add_mod (c+g*(D / 256^k%256)) 256;have h3:=mod_succ D k;generalize (c+g*(D / 256^k%256)) / 256=c1 at *;generalize (c+g*(D / 256^k%256))%256=c0 at *;generalize Y / 256^(j+k)%256=y at *;generalize D / 256^k%256=d at *;rw [h3,show j+(k+1)=j+k+1 by omega,Nat.pow_succ]
 have e1:g*(d*256^k+D%256^k)*256^j=g*d*256^(j+k)+g*(D%256^k)*256^j:=by
  rw [Nat.mul_add,Nat.add_mul,Nat.pow_add,←Nat.mul_assoc,Nat.mul_assoc (g*d),Nat.mul_comm (256^k)]
 rw [e1];generalize g*(D%256^k)*256^j=G at *;generalize 256^(j+k)=P at *;have e2:(x'+c+g*d+t)*P=(y+256*t'+256*c1)*P:=by congr 1;omega
 rw [Nat.mul_comm P 256,show (c1+t')*(256*P)=(256*(c1+t'))*P by rw [Nat.mul_comm 256 (c1+t'),Nat.mul_assoc]];simp only [Nat.add_mul,Nat.mul_add] at *;omega
theorem ld_add (Y0 D Y j k c:Nat) (h:Y+c*256^(j+k)=Y0+D%256^k*256^j) :
  setd Y (j+k) ((c+(Y / 256^(j+k)%256+D / 256^k%256))%256)+(c+(Y / 256^(j+k)%256+D / 256^k%256)) / 256*256^(j+(k+1))=Y0+D%256^(k+1)*256^j:=by
 generalize hv:c+(Y / 256^(j+k)%256+D / 256^k%256)=v;have h1:=setd_eq Y (j+k) (v%256);have h2:=Nat.div_add_mod v 256;have h3:=mod_succ D k;generalize v / 256=c1 at *;generalize v%256=c0 at *;generalize Y / 256^(j+k)%256=y at *;generalize D / 256^k%256=d at *;rw [h3,show j+(k+1)=j+k+1 by omega,Nat.pow_succ]
 have e1:(d*256^k+D%256^k)*256^j=d*256^(j+k)+D%256^k*256^j:=by
  rw [Nat.add_mul,Nat.pow_add,Nat.mul_assoc,Nat.mul_comm (256^k)]
 rw [e1];generalize D%256^k*256^j=G at *;generalize 256^(j+k)=P at *;have e2:(c+(y+d))*P=(256*c1+c0)*P:=by congr 1;omega
 rw [Nat.mul_comm P 256,show c1*(256*P)=(256*c1)*P by rw [Nat.mul_comm 256 c1,Nat.mul_assoc]];simp only [Nat.add_mul] at *;omega
theorem ld_guess (X D j n:Nat) (hn:0<n) (hD:0<D / 256^(n-1)) (hX:X<D*256^(j+1)) :
  X<(min (X / 256^(j+n-1) / (D / 256^(n-1))) 255+1)*(D*256^j):=by
 have hD0:0<D:=by
  rcases Nat.eq_zero_or_pos D with h | h
  ·subst h;simp at hD
  ·exact h
 have hW:0<D*256^j:=Nat.mul_pos hD0 (p256 j);rw [←Nat.div_lt_iff_lt_mul hW]
 have h1:X / (D*256^j)≤255:=by
  have:X / (D*256^j)<256:=by
   rw [Nat.div_lt_iff_lt_mul hW];rw [Nat.pow_succ] at hX;rw [show 256*(D*256^j)=D*(256^j*256) by rw [Nat.mul_comm 256,Nat.mul_assoc]];exact hX
  omega
 have h2:X / (D*256^j)≤X / 256^(j+n-1) / (D / 256^(n-1)):=by
  rw [Nat.div_div_eq_div_mul];refine Nat.div_le_div_left ?_ (Nat.mul_pos (p256 _) hD);rw [show j+n-1=j+(n-1) by omega,Nat.pow_add,Nat.mul_assoc,Nat.mul_comm D,Nat.mul_comm (256^(n-1))];exact Nat.mul_le_mul_left _ (Nat.div_mul_le_self _ _)
 have:=Nat.le_min.2 ⟨h2,h1⟩;omega
theorem dig_two (X p:Nat) (h:X<256^(p+2)):X / 256^p=X / 256^(p+1)%256*256+X / 256^p%256:=by
 have e:X / 256^(p+1)=X / 256^p / 256:=by rw [Nat.pow_succ,Nat.div_div_eq_div_mul]
 have h2:X / 256^(p+1)<256:=by
  rw [Nat.div_lt_iff_lt_mul (p256 _),show 256*256^(p+1)=256^(p+2) by rw [Nat.pow_succ 256 (p+1),Nat.mul_comm]];exact h
 rw [Nat.mod_eq_of_lt h2,e];have:=Nat.div_add_mod (X / 256^p) 256;omega
theorem or8 (u v:Nat) (hv:v<256):(u*256) ||| v=u*256+v:=by
 have:=Nat.two_pow_add_eq_or_of_lt (i:=8) (show v<2^8 by omega) u;rw [Nat.mul_comm u 256];exact this.symm
theorem ld_neg (Y X G W M u:Nat) (T:Int) (hY:Y / M=u) (h:(Y:Int)+(T-u)*M=X-G*W) (hM:0<M) (hT:T<0):X<G*W:=by
 have h1:=Nat.div_add_mod Y M;have h2:=Nat.mod_lt Y hM;rw [hY] at h1;have h3:(Y:Int)=(M:Int)*(u:Int)+(Y%M:Nat):=by rw [←Int.natCast_mul];omega
 have h4:T*(M:Int)≤-1*(M:Int):=Int.mul_le_mul_of_nonneg_right (by omega) (by omega);rw [Int.sub_mul,Int.mul_comm (u:Int)] at h;have h5:(X:Int)<((G*W:Nat):Int):=by rw [Int.natCast_mul];omega
 exact Int.ofNat_lt.1 h5
theorem ld_exit (Y X G W M u:Nat) (T:Int) (hY:Y / M=u) (h:(Y:Int)+(T-u)*M=X-G*W) (hX:X<(G+1)*W) (hW:W≤M) (hM:0<M) (hT:¬ T<0):T=0∧G*W≤X∧Y%M=X-G*W:=by
 have h1:=Nat.div_add_mod Y M;rw [hY] at h1;have h3:(Y:Int)=(M:Int)*(u:Int)+(Y%M:Nat):=by rw [←Int.natCast_mul];omega
 rw [Int.sub_mul,Int.mul_comm (u:Int)] at h;rw [Nat.add_mul,Nat.one_mul] at hX;have h5:((G*W:Nat):Int)=(G:Int)*(W:Int):=Int.natCast_mul _ _
 have hT0:T=0:=by
  apply Classical.byContradiction
  intro hn;have h4:1*(M:Int)≤T*(M:Int):=Int.mul_le_mul_of_nonneg_right (by omega) (by omega);omega
 subst hT0;rw [Int.zero_mul] at h;refine ⟨rfl,?_,?_⟩ <;> omega
theorem setd_top (Y p u:Nat) (hY:Y / 256^p=u) (hu:u<256):setd Y p 0=Y%256^p:=by
 unfold setd;rw [Nat.pow_succ,←Nat.div_div_eq_div_mul,hY,Nat.div_eq_of_lt hu];omega
theorem ld_back (Y Y' X G W M u c:Nat) (T:Int) (h:(Y:Int)+(T-u)*M=X-G*W) (h0:0<G) (hb:Y'+c*M=Y+W):(Y':Int)+((T+c)-u)*M=X-((G-1:Nat):Int)*W:=by
 have e1:((G-1:Nat):Int)=(G:Int)-1:=by omega
 have e2:(Y':Int)+(c:Int)*(M:Int)=(Y:Int)+(W:Int):=by rw [←Int.natCast_mul];omega
 rw [e1];simp only [Int.sub_mul,Int.add_mul,Int.one_mul] at *;omega
theorem ld_first (Y X G W M u c t:Nat) (h:Y+G*W=X+(c+t)*M):(Y:Int)+(((u:Int)-c-t)-u)*M=X-G*W:=by
 have e:(Y:Int)+(G:Int)*(W:Int)=(X:Int)+((c:Int)+(t:Int))*(M:Int):=by rw [←Int.natCast_mul,←Int.natCast_add,←Int.natCast_add,←Int.natCast_mul,←Int.natCast_add];exact congrArg _ h
 simp only [Int.sub_mul,Int.add_mul] at *;omega
theorem ld_next (l:Nat) (A D X G j:Nat) (hv:l*(256^(j+1)*D)+X=A) (hg:G*(D*256^j)≤X):(l*256+G)*(256^j*D)+(X-G*(D*256^j))=A:=by
 rw [Nat.add_mul,Nat.mul_comm D] at *;have e:l*256*(256^j*D)=l*(256^(j+1)*D):=by rw [Nat.pow_succ,Nat.mul_comm (256^j) 256,Nat.mul_assoc,Nat.mul_assoc]
 rw [e];omega
theorem ld_end (v a b s X:Nat) (h:v*(b*2^s)+X=a*2^s) (hX:X<b*2^s):v=a / b∧X / 2^s=a%b:=by
 have hs:0<2^s:=Nat.pow_pos (by decide);obtain ⟨k1,k2⟩:=kn_scale a b (2^s) hs;have hD:0<b*2^s:=by omega
 have e1:a*2^s / (b*2^s)=v:=by
  rw [←h,Nat.add_comm,Nat.add_mul_div_right _ _ hD,Nat.div_eq_of_lt hX,Nat.zero_add]
 have e2:a*2^s%(b*2^s)=X:=by
  rw [←h,Nat.add_comm,Nat.add_mul_mod_self_right,Nat.mod_eq_of_lt hX]
 rw [e1] at k1;rw [e2] at k2;exact ⟨k1,k2⟩
theorem shr_dig (X s k:Nat) (hs:s≤7):((X / 256^k%256) ||| (X / 256^(k+1)%256*256)) / 2^s%256=X / 2^s / 256^k%256:=by
 rw [Nat.or_comm,or8 _ _ (Nat.mod_lt _ (by decide))];have e:X / 2^s / 256^k=X / 256^k / 2^s:=by rw [Nat.div_div_eq_div_mul,Nat.div_div_eq_div_mul,Nat.mul_comm]
 rw [e,Nat.pow_succ,←Nat.div_div_eq_div_mul];generalize X / 256^k=y;have h8:=two8 hs;have hp:0<2^s:=Nat.pow_pos (by decide)
 have h1:y=(y / 256%256*256+y%256)+2^s*(256*(2^(8-s)*(y / 256 / 256))):=by
  rw [show 2^s*(256*(2^(8-s)*(y / 256 / 256)))=256*256*(y / 256 / 256) by rw [Nat.mul_left_comm,←Nat.mul_assoc (2^s),Nat.mul_comm (2^s),h8,Nat.mul_assoc]];omega
 conv=>rhs;rw [h1]
 rw [Nat.add_mul_div_left _ _ hp,Nat.add_mul_mod_self_left]
end
end Go.Proofs.YtfgandecbkbleaaGreatDoor
