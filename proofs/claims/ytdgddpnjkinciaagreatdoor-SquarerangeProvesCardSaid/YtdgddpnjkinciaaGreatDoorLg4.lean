/- The searches of foursquares find what there is. Plain Lean. -/
import Derived.Test.YtdgddpnjkinciaaGreatDoorInt4
import Derived.Test.YtdgddpnjkinciaaGreatDoorRef3
import Derived.Test.YtdgddpnjkinciaaGreatDoorRinb
import Derived.WalkMore
import Derived.Deep.CutRange
section
set_option linter.all false
/- one step of Knuth's division with two digits,in natural numbers -/
namespace Go.Proofs.YtdgddpnjkinciaaGreatDoor

section
variable {B Y Y1 Y0 U D q r:Nat}

theorem kn_lt (hY:Y=Y1*B+Y0) (hU:U<Y) (hD:D<B):(U*B+D) / Y<B:=by
 rw[Nat.div_lt_iff_lt_mul (by omega)];have:(U+1)*B≤Y*B:=Nat.mul_le_mul_right B hU;have h2:(U+1)*B=U*B+B:=by rw[Nat.add_mul,Nat.one_mul]
 have h3:B*Y=Y*B:=Nat.mul_comm _ _;omega

theorem kn_le (hY:Y=Y1*B+Y0) (hb:0<Y) (hq:q*Y1+r=U) (h:q*Y0≤B*r+D):q≤(U*B+D) / Y:=by
 rw[Nat.le_div_iff_mul_le hb,hY,Nat.mul_add,←Nat.mul_assoc,←hq,Nat.add_mul,Nat.mul_comm r B];omega

theorem kn_gt (hY:Y=Y1*B+Y0) (hb:0<Y) (hq:q*Y1+r=U) (h:B*r+D<q*Y0):(U*B+D) / Y<q:=by
 rw[Nat.div_lt_iff_lt_mul hb,hY,Nat.mul_add,←Nat.mul_assoc,←hq,Nat.add_mul,Nat.mul_comm r B];omega

theorem kn_start (hY:Y=Y1*B+Y0) (h1:0<Y1) (h0:Y0<B):(U*B+D) / Y≤(U*B+D) / (Y1*B):=
 Nat.div_le_div_left (by omega) (Nat.mul_pos h1 (by omega))

theorem kn_first (hY:Y=Y1*B+Y0) (h1:0<Y1) (h0:Y0<B) (hD:D<B):(U*B+D) / Y≤U / Y1:=by
 refine Nat.le_trans (kn_start hY h1 h0) ?_;rw[Nat.mul_comm Y1 B,←Nat.div_div_eq_div_mul,Nat.mul_comm U B,Nat.mul_add_div (by omega),Nat.div_eq_of_lt hD,Nat.add_zero];exact Nat.le_refl _

theorem kn_break (hY:Y=Y1*B+Y0) (h0:Y0<B) (hU:U<Y) (hq:q*Y1+r=U) (hr:B≤r):q*Y0≤B*r+D:=by
 have h1:q*Y1<B*Y1:=by rw[Nat.mul_comm B Y1];omega
 have h2:q<B:=Nat.lt_of_mul_lt_mul_right h1;have h3:q*Y0≤B*Y0:=Nat.mul_le_mul_right _ (by omega);have h4:B*Y0≤B*r:=Nat.mul_le_mul_left _ (by omega);omega

theorem kn_down (hq:q*Y1+r=U) (h:0<q):(q-1)*Y1+(r+Y1)=U:=by
 have:q=q-1+1:=by omega
 rw[this,Nat.add_mul,Nat.one_mul]at hq;omega
end

theorem kn_two (n0 n1 n2 Y B:Nat) (hY:0<Y) :
  ((n0*B+n1)*B+n2) / Y=(n0*B+n1) / Y*B+((n0*B+n1)%Y*B+n2) / Y:=by
 have h:=Nat.div_add_mod (n0*B+n1) Y
 have:(n0*B+n1)*B+n2=Y*((n0*B+n1) / Y*B)+((n0*B+n1)%Y*B+n2):=by
  conv=>lhs;rw[←h]
  rw[Nat.add_mul,Nat.mul_assoc,Nat.add_assoc]
 rw[this,Nat.mul_add_div hY]

theorem kn_two_mod (n0 n1 n2 Y B:Nat) (hY:0<Y) :
  ((n0*B+n1)*B+n2)%Y=((n0*B+n1)%Y*B+n2)%Y:=by
 have h:=Nat.div_add_mod (n0*B+n1) Y
 have:(n0*B+n1)*B+n2=Y*((n0*B+n1) / Y*B)+((n0*B+n1)%Y*B+n2):=by
  conv=>lhs;rw[←h]
  rw[Nat.add_mul,Nat.mul_assoc,Nat.add_assoc]
 rw[this,Nat.mul_add_mod]

theorem kn_scale (N y t:Nat) (ht:0<t):(N*t) / (y*t)=N / y∧(N*t)%(y*t) / t=N%y:=by
 refine⟨Nat.mul_div_mul_right _ _ ht,?_⟩;rw[Nat.mul_mod_mul_right,Nat.mul_div_cancel _ ht]

end Go.Proofs.YtdgddpnjkinciaaGreatDoor
end

section
/- foursquares: the searches,as plain functions. -/
set_option linter.all false
set_option maxRecDepth 100000
namespace Go.Proofs.YtdgddpnjkinciaaGreatDoor
open Go.RowKit Go.Shelf

def rt:Nat→Nat
 | 0=>0
 | n+1=>if (rt n+1)*(rt n+1)≤n+1 then rt n+1 else rt n
theorem rt_spec (n:Nat):rt n*rt n≤n∧n<(rt n+1)*(rt n+1):=by
 induction n with
 | zero=>exact⟨Nat.le_refl _,Nat.one_pos⟩
 | succ n ih =>
  unfold rt;split
  ·rename_i h;refine⟨h,?_⟩
   have h2:(rt n+1+1)*(rt n+1+1)=(rt n+1)*(rt n+1)+2*(rt n+1)+1:=by
    simp only[Nat.add_mul,Nat.mul_add,Nat.mul_one,Nat.one_mul];omega
   omega
  ·omega
theorem rt_uniq {n r:Nat} (h1:r*r≤n) (h2:n<(r+1)*(r+1)):r=rt n:=by
 obtain⟨h3,h4⟩:=rt_spec n;rcases Nat.lt_trichotomy r (rt n) with h | h | h
 ·have:=Nat.mul_le_mul (show r+1≤rt n by omega) (show r+1≤rt n by omega);omega
 ·exact h
 ·have:=Nat.mul_le_mul (show rt n+1≤r by omega) (show rt n+1≤r by omega);omega
theorem rt_lt {n k:Nat} (h:n<k*k):rt n<k:=by
 apply Classical.byContradiction
 intro h1;have h2:=Nat.mul_le_mul (show k≤rt n by omega) (show k≤rt n by omega);have:=(rt_spec n).1;omega
def twoF (n:Nat):Nat→Option (Nat × Nat)
 | 0=>if 0<n then none else some (0,0)
 | x+1=>if 2*(x+1)*(x+1)<n then none else if rt (n-(x+1)*(x+1))*rt (n-(x+1)*(x+1))=n-(x+1)*(x+1)∧rt (n-(x+1)*(x+1))≤x+1 then some (x+1,rt (n-(x+1)*(x+1))) else twoF n x
def threeF (n:Nat):Nat→Option (Nat × Nat × Nat)
 | 0=>if 0<n then none else some (0,0,0)
 | x+1=>if 3*(x+1)*(x+1)<n then none else match twoF (n-(x+1)*(x+1)) (min (rt (n-(x+1)*(x+1))) (x+1)) with
  | some (y,z)=>some (x+1,y,z)
  | none=>threeF n x
def sevF:Nat→Nat→Bool
 | 0,n=>n%8==7
 | k+1,n=>if 0<n∧n%4=0 then sevF k (n / 4) else n%8==7

set_option maxHeartbeats 1600000 in
theorem fsroot_c (n:Nat) (w:World) (hn:n<4294967296) :
  Calls Tryz.prog 95 #[.int .u64 (n:Int)] w fun e w'=>e=.returned (.int .u64 (rt n:Nat))∧w=w':=by
 have HN:=Kh hn;clear hn;go_enter Tryz.func95,Tryz.ntmps95
 go_wp2;go_loop [3,4] (fun x b=>∃(r p c:Nat),x=.int .u64 r∧b=.int .u64 c∧c=p / 2∧1≤p∧r+p≤131072∧Hid (r*r≤n∧n<(r+p)*(r+p))∧(p=1∨p%2=0)∧Hid (∃j,p=2^j)) (fun _ b=>(intOf b).toNat)
 case atStart=>exact⟨0,131072,65536,rfl,rfl,rfl,by omega,by omega,⟨by omega,by have:=HN.out;omega⟩,by omega,⟨17,rfl⟩⟩
 case round =>
  obtain⟨r,p,b,rfl,rfl,hb,hi,hk,HR,he,HJ⟩:=hrel;by_cases h1:p=1
  ·have HE:Hid (r=rt n):=rt_uniq HR.out.1 (by rw[←h1];exact HR.out.2);have hl:¬ 0<b:=by omega
   have ho:¬ (0:Int)<(b:Int):=by omega
   clear hb h1 he HJ HR hk hi;obtain⟨q,hq⟩:∃q,q=rt n:=⟨_,rfl⟩;rw[←hq]at HE;have HQ:=Kh hq;obtain rfl:r=q:=HE.out;clear hq HE;go_wp2;go_ret
   exact⟨by rw[←HQ.out];rfl,rfl⟩
  ·have hm:p=2*b:=by omega
   have hl:0<b:=by omega
   have hc:Hid (∃j,b=2^j):=by
    obtain⟨j,hj⟩:=HJ.out;cases j with
    | zero=>exact absurd hj h1
    | succ j=>exact⟨j,by rw[Nat.pow_succ]at hj;omega⟩
   have hf:b=1∨b%2=0:=by
    obtain⟨j,hj⟩:=hc.out;cases j with
    | zero=>left;simpa using hj
    | succ j=>right;rw[Nat.pow_succ]at hj;omega
   clear hb h1 he HJ;subst hm;obtain⟨y,hy⟩:∃y,y=r+b:=⟨_,rfl⟩;have hg:y≤131072:=by omega
   obtain⟨z,hz⟩:∃z,z=y*y:=⟨_,rfl⟩;have hp:z≤131072*131072:=by rw[hz];exact Nat.mul_le_mul hg hg
   have c1:IntKind.u64.wrap ((r:Int)+(b:Int))=(y:Int):=by rw[IntKind.wrap_u64];omega
   have c2:IntKind.u64.wrap ((y:Int)*(y:Int))=(z:Int):=by rw[show (y:Int)*(y:Int)=(z:Int) by rw[hz];exact (Int.natCast_mul y y).symm,IntKind.wrap_u64];omega
   have c3:IntKind.u64.wrap ((b:Int).tdiv 2)=((b / 2:Nat):Int):=by rw[Int.tdiv_eq_ediv_of_nonneg (by omega),IntKind.wrap_u64];omega
   have hd:=Kh hy;have hh:=Kh hz;clear hy hz;by_cases h2:z≤n
   ·have HX:Hid (y*y≤n∧n<(y+b)*(y+b)):=⟨by rw[←hh.out];exact h2,by have:=HR.out.2;rwa [show r+2*b=y+b by have:=hd.out;omega]at this⟩;go_wp2;go_round
    case rel=>exact⟨y,b,b / 2,rfl,rfl,rfl,by omega,by have:=hd.out;omega,HX,hf,hc⟩
    case measure=>simp[intOf];omega
   ·have HX:Hid (r*r≤n∧n<(r+b)*(r+b)):=⟨HR.out.1,by rw[←hd.out,←hh.out];omega⟩;go_wp2;go_round
    case rel=>exact⟨r,b,b / 2,rfl,rfl,rfl,by omega,by omega,HX,hf,hc⟩
    case measure=>simp[intOf];omega

def oneB (n most:Nat):Bool:=decide (rt n*rt n=n)&&decide (rt n≤most)
set_option maxHeartbeats 1600000 in
theorem fsone_c (n most:Nat) (w:World) (hn:n<4294967296) :
  Calls Tryz.prog 179 #[.int .u64 (n:Int),.int .u64 (most:Int)] w fun e w'=>e=.returned (.tuple #[.int .u64 (rt n:Nat),.bool (oneB n most)])∧w=w':=by
 have h1:=fsroot_c n w hn;have h2:=rt_lt (k:=65536) (show n<65536*65536 by omega);have HB:Hid (oneB n most=(decide (rt n*rt n=n)&&decide (rt n≤most))):=rfl;generalize rt n=r at h1 h2 HB ⊢;generalize oneB n most=bo at HB ⊢;have HR:=Kh h1;obtain⟨z,hz⟩:∃z,z=r*r:=⟨_,rfl⟩;rw[←hz]at HB;have hb:z≤65536*65536:=by rw[hz];exact Nat.mul_le_mul (by omega) (by omega)
 have c2:IntKind.u64.wrap ((r:Int)*(r:Int))=(z:Int):=by rw[show (r:Int)*(r:Int)=(z:Int) by rw[hz];exact (Int.natCast_mul r r).symm,IntKind.wrap_u64];omega
 clear h1 hz hb;go_enter Tryz.func179,Tryz.ntmps179
 go_wp2_with fail
 refine HR.out.mono ?_;rintro e w' ⟨rfl,rfl⟩;by_cases h3:z=n
 ·have e1:((z:Int)==(n:Int))=true:=by rw[h3];simp
  by_cases h4:r≤most
  ·have HX:Hid (bo=true):=by rw[Hid,HB.out,Dt h3,Dt h4];rfl
   clear HB;go_wp2;go_ret2
   exact⟨r2 rfl (congrArg Value.bool HX.out.symm),rfl⟩
  ·have HX:Hid (bo=false):=by rw[Hid,HB.out,Dt h3,decide_eq_false h4];rfl
   clear HB;go_wp2;go_ret2
   exact⟨r2 rfl (congrArg Value.bool HX.out.symm),rfl⟩
 ·have e1:((z:Int)==(n:Int))=false:=by rw[beq_eq_false_iff_ne];omega
  have HX:Hid (bo=false):=by rw[Hid,HB.out,decide_eq_false h3];rfl
  clear HB;go_wp2;go_ret2
  exact⟨r2 rfl (congrArg Value.bool HX.out.symm),rfl⟩

theorem sev_eq (m:Nat):((m:Int)%8==7)=(m%8==7):=by
 rw[Bool.eq_iff_iff];simp only[beq_iff_eq];omega
theorem sev_stop {k m:Nat} (h:¬ (0<m∧m%4=0)):sevF k m=(m%8==7):=by
 cases k with
 | zero=>rfl
 | succ k=>rw[sevF,if_neg h]
set_option maxHeartbeats 1600000 in
theorem fsseven_c (n:Nat) (w:World) (hn:n<4294967296) :
  Calls Tryz.prog 96 #[.int .u64 (n:Int)] w fun e w'=>e=.returned (.bool (sevF 16 n))∧w=w':=by
 obtain⟨b,hb⟩:∃b,b=sevF 16 n:=⟨_,rfl⟩;have HB:=Kh hb;rw[←hb];clear hb;have HN:Hid (n<4^16):=hn;go_enter Tryz.func96,Tryz.ntmps96
 go_wp2;go_loop [0] (fun x=>∃(k m:Nat),x=.int .u64 m∧m<4294967296∧Hid (m<4^k)∧Hid (b=sevF k m)) (fun x=>(intOf x).toNat)
 case atStart=>exact⟨16,n,rfl,hn,HN,HB⟩
 case round =>
  obtain⟨k,m,rfl,hm,HK,HS⟩:=hrel;clear HB HN;have c1:IntKind.u64.wrap ((m:Int).tmod 4)=((m%4:Nat):Int):=by rw[Int.tmod_eq_emod_of_nonneg (by omega),IntKind.wrap_u64];omega
  have c2:IntKind.u64.wrap ((m:Int).tdiv 4)=((m / 4:Nat):Int):=by rw[Int.tdiv_eq_ediv_of_nonneg (by omega),IntKind.wrap_u64];omega
  have c3:IntKind.u64.wrap ((m:Int).tmod 8)=((m%8:Nat):Int):=by rw[Int.tmod_eq_emod_of_nonneg (by omega),IntKind.wrap_u64];omega
  by_cases h1:0<m∧m%4=0
  ·obtain⟨h0,h4⟩:=h1
   have HX:Hid (∃j,m / 4<4^j∧b=sevF j (m / 4)):=by
    have hk:=HK.out;cases k with
    | zero=>omega
    | succ j=>exact⟨j,by rw[Nat.pow_succ]at hk;omega,by rw[HS.out,sevF,if_pos ⟨h0,h4⟩]⟩
   obtain⟨j,hc,hd⟩:=HX.out;have he:=Kh hc;have hf:=Kh hd;clear hc hd HX HK HS c3;have h5:(0:Int)<(m:Int):=by omega
   have h6:(((m%4:Nat):Int)==0)=true:=by rw[h4];rfl
   go_wp2;go_round
   case rel=>exact⟨j,m / 4,rfl,by omega,he,hf⟩
   case measure=>simp[intOf];omega
  ·have HX:Hid (b=(m%8==7)):=HS.out.trans (sev_stop h1);clear HS HK;by_cases h0:0<m
   ·have h4:¬ m%4=0:=fun h=>h1 ⟨h0,h⟩
    clear h1;go_wp2;go_ret
    exact⟨congrArg (fun b=>Ending.returned (Value.bool b)) ((sev_eq m).trans HX.out.symm),rfl⟩
   ·clear h1;go_wp2;go_ret
    exact⟨congrArg (fun b=>Ending.returned (Value.bool b)) ((sev_eq m).trans HX.out.symm),rfl⟩

theorem two_step (n x:Nat):twoF n x=if 2*x*x<n then none else if oneB (n-x*x) x=true then some (x,rt (n-x*x)) else if x=0 then none else twoF n (x-1):=by
 unfold oneB;cases x with
 | zero =>
  rw[twoF];by_cases h:0<n
  ·rw[if_pos h,if_pos (by simpa using h)]
  ·have:n=0:=by omega
   subst this;rfl
 | succ x =>
  rw[twoF];simp only[Bool.and_eq_true,decide_eq_true_eq,Nat.add_sub_cancel,Nat.succ_ne_zero,if_false,Nat.add_eq_zero_iff,Nat.one_ne_zero,and_false]
def tw1:Option (Nat × Nat)→Nat | some (a,_)=>a | none=>0
def tw2:Option (Nat × Nat)→Nat | some (_,b)=>b | none=>0

set_option maxHeartbeats 3200000 in
theorem fstwo_c (n most:Nat) (w:World) (hn:n<4294967296) (hm:most<4294967296) :
  Calls Tryz.prog 136 #[.int .u64 (n:Int),.int .u64 (most:Int)] w fun e w'=>e=.returned (.tuple #[.agg #[.int .u64 (tw1 (twoF n (min (rt n) most)):Nat),.int .u64 (tw2 (twoF n (min (rt n) most)):Nat)],.bool (twoF n (min (rt n) most)).isSome])∧Bw w w':=by
 have h1:=fsroot_c n w hn;have h2:=rt_lt (k:=65536) (show n<65536*65536 by omega);have h3:=(rt_spec n).1;obtain⟨x0,hx0⟩:∃x,x=min (rt n) most:=⟨_,rfl⟩;have hx1:x0≤rt n:=by omega
 have ho:x0*x0≤n:=Nat.le_trans (Nat.mul_le_mul hx1 hx1) h3;have hp:x0<65536:=by omega
 obtain⟨R,hR⟩:∃R,R=twoF n x0:=⟨_,rfl⟩;rw[←hx0,←hR];have HR:=Kh hR;have HX:=Kh hx0;have hv:Hid (True):=trivial;have he:=Kh ho;obtain⟨r,hr⟩:∃r,r=rt n:=⟨_,rfl⟩;rw[←hr]at HX;have ht:=Kh hr;have hw:min (r:Int) (most:Int)=(x0:Int):=by have:=HX.out;omega
 have hy:Hid (∀w,Calls Tryz.prog 95 #[.int .u64 (n:Int)] w fun e w'=>e=.returned (.int .u64 (r:Nat))∧w=w'):=fun w=>by rw[ht.out];exact fsroot_c n w hn
 obtain⟨hA,hi⟩:=blk1 w #[.int .u64 0,.int .u64 0] 184;clear h1 h2 h3 hx1 ho hR hx0 hr ht hv;go_enter Tryz.func136,Tryz.ntmps136
 go_wp2_with fail
 refine (hy.out _).mono ?_;rintro e w' ⟨rfl,rfl⟩;go_wp2;generalize w.alloc (.cells #[.int .u64 0,.int .u64 0] 184)=w1 at hA hi ⊢;obtain⟨g,hg⟩:∃g,w.heap.size=g:=⟨_,rfl⟩;rw[hg]at hA ⊢;have HG:=Kh hg;clear hg;replace hA:Blk w1 g 184 [.int .u64 0,.int .u64 0]:=hA;have hj:=hA.lt;go_loop [6] (fun v=>∃x:Nat,v=.int .u64 x∧x<65536∧Hid (x*x≤n)∧Hid (R=twoF n x)) (fun v=>(intOf v).toNat)
 case atStart=>exact⟨x0,rfl,hp,he,HR⟩
 case round =>
  clear HR he hw HX hp;obtain⟨x,rfl,hx,he,HR⟩:=hrel;have HS:=Kh (HR.out.trans (two_step n x));clear HR;obtain⟨q,hq⟩:∃q,q=x*x:=⟨_,rfl⟩;have hF:q≤65536*65536:=by rw[hq];exact Nat.mul_le_mul (by omega) (by omega)
  have hG:q≤n:=by rw[hq];exact he.out
  have hz:2*x*x=2*q:=by rw[hq,Nat.mul_assoc]
  rw[hz,←hq]at HS;have c1:IntKind.u64.wrap (2*(x:Int))=2*(x:Int):=by rw[IntKind.wrap_u64];omega
  have c2:IntKind.u64.wrap (2*(x:Int)*(x:Int))=((2*q:Nat):Int):=by
   rw[show 2*(x:Int)*(x:Int)=((2*q:Nat):Int) by rw[←hz];simp only[Int.natCast_mul];rfl,IntKind.wrap_u64];omega
  have c3:IntKind.u64.wrap ((x:Int)*(x:Int))=(q:Int):=by rw[show (x:Int)*(x:Int)=(q:Int) by rw[hq];exact (Int.natCast_mul x x).symm,IntKind.wrap_u64];omega
  have c4:IntKind.u64.wrap ((n:Int)-(q:Int))=((n-q:Nat):Int):=by rw[IntKind.wrap_u64];omega
  have hN:=hn;clear hq hz;by_cases h1:2*q<n
  ·have HX:Hid (R=none):=HS.out.trans (if_pos h1);have hB:¬ n≤2*q:=by omega
   have hH:¬ (n:Int)≤((2*q:Nat):Int):=by omega
   clear HS;obtain⟨hb,hf,hc,hh⟩:=hA.x2;go_wp2;refine bodyPost_ret (v:=.tuple #[.agg #[.int .u64 0,.int .u64 0],.bool false]) ?_ rfl ?_
   ·simp[results,Tryz.results136,go_sem,hb,hc,hj]
   ·rw[HX.out];exact⟨rfl,(hi.setCell (Nat.le_of_eq HG.out) _).setCell (Nat.le_of_eq HG.out) _⟩
  ·have hB:n≤2*q:=by omega
   replace HS:=Kh (HS.out.trans (if_neg h1));obtain⟨d,hd⟩:∃d,d=n-q:=⟨_,rfl⟩;rw[←hd]at HS c4;have hu:d<4294967296:=by omega
   obtain⟨bo,hk⟩:∃b,b=oneB d x:=⟨_,rfl⟩;obtain⟨r2,hl⟩:∃r,r=rt d:=⟨_,rfl⟩;have hC:Hid (∀w,Calls Tryz.prog 179 #[.int .u64 (d:Int),.int .u64 (x:Int)] w fun e w'=>e=.returned (.tuple #[.int .u64 (r2:Nat),.bool bo])∧w=w'):=fun w=>by rw[hl,hk];exact fsone_c d x w hu
   rw[←hk,←hl]at HS;clear h1 hd hk hl hu;go_wp2_with fail
   refine (hC.out _).mono ?_;rintro e w' ⟨rfl,rfl⟩;cases bo
   ·replace HS:=Kh (HS.out.trans (if_neg (by decide)));by_cases hx0:x=0
    ·have HX:Hid (R=none):=HS.out.trans (if_pos hx0);have hD:((x:Int)==0)=true:=by rw[hx0];rfl
     clear HS;obtain⟨hb,hf,hc,hh⟩:=hA.x2;go_wp2;refine bodyPost_ret (v:=.tuple #[.agg #[.int .u64 0,.int .u64 0],.bool false]) ?_ rfl ?_
     ·simp[results,Tryz.results136,go_sem,hb,hc,hj]
     ·rw[HX.out];exact⟨rfl,(hi.setCell (Nat.le_of_eq HG.out) _).setCell (Nat.le_of_eq HG.out) _⟩
    ·have HX:Hid (R=twoF n (x-1)):=HS.out.trans (if_neg hx0);have hD:((x:Int)==0)=false:=by rw[beq_eq_false_iff_ne];omega
     have c5:IntKind.u64.wrap ((x:Int)-1)=((x-1:Nat):Int):=by rw[IntKind.wrap_u64];omega
     have hE:Hid ((x-1)*(x-1)≤n):=Nat.le_trans (Nat.mul_le_mul (show x-1≤x by omega) (show x-1≤x by omega)) he.out;clear HS he;go_wp2;go_round
     case rel=>exact⟨x-1,rfl,by omega,hE,HX⟩
     case measure=>simp[intOf];omega
   ·have HX:Hid (R=some (x,r2)):=HS.out.trans (if_pos rfl);clear HS he;obtain⟨hb,hf,hc,hh⟩:=hA.x2;go_wp2;refine bodyPost_ret (v:=.tuple #[.agg #[.int .u64 (x:Int),.int .u64 (r2:Int)],.bool true]) ?_ rfl ?_
    ·simp[results,Tryz.results136,go_sem,hb,hc,hf,hh,hj]
    ·rw[HX.out];exact⟨rfl,(hi.setCell (Nat.le_of_eq HG.out) _).setCell (Nat.le_of_eq HG.out) _⟩

theorem three_step (n x:Nat):threeF n x=if 3*x*x<n then none else match twoF (n-x*x) (min (rt (n-x*x)) x) with
  | some (y,z)=>some (x,y,z)
  | none=>if x=0 then none else threeF n (x-1):=by
 cases x with
 | zero =>
  rw[threeF];by_cases h:0<n
  ·rw[if_pos h,if_pos (by simpa using h)]
  ·have:n=0:=by omega
   subst this;rfl
 | succ x =>
  rw[threeF];simp only[Nat.add_sub_cancel,Nat.succ_ne_zero,if_false,Nat.add_eq_zero_iff,Nat.one_ne_zero,and_false]
def th1:Option (Nat × Nat × Nat)→Nat | some (a,_,_)=>a | none=>0
def th2:Option (Nat × Nat × Nat)→Nat | some (_,b,_)=>b | none=>0
def th3:Option (Nat × Nat × Nat)→Nat | some (_,_,c)=>c | none=>0
def thM (x:Nat) (r:Option (Nat × Nat × Nat)):Option (Nat × Nat)→Option (Nat × Nat × Nat) | some (y,z)=>some (x,y,z) | none=>r

set_option maxHeartbeats 3200000 in
theorem fsthree_c (n most:Nat) (w:World) (hn:n<4294967296) (hm:most<4294967296) :
  Calls Tryz.prog 97 #[.int .u64 (n:Int),.int .u64 (most:Int)] w fun e w'=>e=.returned (.tuple #[.agg #[.int .u64 (th1 (threeF n (min (rt n) most)):Nat),.int .u64 (th2 (threeF n (min (rt n) most)):Nat),.int .u64 (th3 (threeF n (min (rt n) most)):Nat)],.bool (threeF n (min (rt n) most)).isSome])∧Bw w w':=by
 have h1:=fsroot_c n w hn;have h2:=rt_lt (k:=65536) (show n<65536*65536 by omega);have h3:=(rt_spec n).1;obtain⟨x0,hx0⟩:∃x,x=min (rt n) most:=⟨_,rfl⟩;have hx1:x0≤rt n:=by omega
 have hJ:x0*x0≤n:=Nat.le_trans (Nat.mul_le_mul hx1 hx1) h3;have hK:x0<65536:=by omega
 obtain⟨R,hR⟩:∃R,R=threeF n x0:=⟨_,rfl⟩;rw[←hx0,←hR];have HR:=Kh hR;have HX:=Kh hx0;have hb:=Kh hJ;obtain⟨r,hr⟩:∃r,r=rt n:=⟨_,rfl⟩;rw[←hr]at HX;have hL:=Kh hr;have h4:min (r:Int) (most:Int)=(x0:Int):=by have:=HX.out;omega
 have h5:Hid (∀w,Calls Tryz.prog 95 #[.int .u64 (n:Int)] w fun e w'=>e=.returned (.int .u64 (r:Nat))∧w=w'):=fun w=>by rw[hL.out];exact fsroot_c n w hn
 obtain⟨hA,hM⟩:=blk1 w #[.int .u64 0,.int .u64 0,.int .u64 0] 162;clear h1 h2 h3 hx1 hJ hR hx0 hr hL;go_enter Tryz.func97,Tryz.ntmps97
 go_wp2_with fail
 refine (h5.out _).mono ?_;rintro e w' ⟨rfl,rfl⟩;go_wp2;generalize w.alloc (.cells #[.int .u64 0,.int .u64 0,.int .u64 0] 162)=w1 at hA hM ⊢;obtain⟨g,hg⟩:∃g,w.heap.size=g:=⟨_,rfl⟩;rw[hg]at hA ⊢;have HG:=Kh hg;clear hg;replace hA:Blk w1 g 162 [.int .u64 0,.int .u64 0,.int .u64 0]:=hA;go_loopw [6] (fun v wr=>∃x:Nat,v=.int .u64 x∧x<65536∧Hid (x*x≤n)∧Hid (R=threeF n x)∧Bw w1 wr) (fun v _=>(intOf v).toNat)
 case atStart=>exact⟨x0,rfl,hK,hb,HR,Br⟩
 case round =>
  clear HR hb h4 HX hK;obtain⟨x,rfl,hx,hb,HR,hB⟩:=hrel;obtain⟨wp,h6⟩:∃wp,wp=wr:=⟨_,rfl⟩;subst h6;have he:=hA.after hB;have hC:=bt hM hB;have h7:=he.lt;obtain⟨q,hq⟩:∃q,q=x*x:=⟨_,rfl⟩;have Hd:q≤65536*65536:=by rw[hq];exact Nat.mul_le_mul (by omega) (by omega)
  have He:q≤n:=by rw[hq];exact hb.out
  have hz:3*x*x=3*q:=by rw[hq,Nat.mul_assoc]
  obtain⟨d,hd⟩:∃d,d=n-q:=⟨_,rfl⟩;have hN:d<4294967296:=by omega
  have hD:=fstwo_c d x;obtain⟨T2,hE⟩:∃t,t=twoF d (min (rt d) x):=⟨_,rfl⟩
  have HS:Hid (R=if 3*q<n then none else thM x (if x=0 then none else threeF n (x-1)) T2):=by
   rw[Hid,HR.out,three_step n x,hz,←hq,←hd,←hE];split <;> (cases T2 <;> rfl)
  rw[←hE]at hD;have hF:Hid (∀w,Calls Tryz.prog 136 #[.int .u64 (d:Int),.int .u64 (x:Int)] w fun e w'=>e=.returned (.tuple #[.agg #[.int .u64 (tw1 T2:Nat),.int .u64 (tw2 T2:Nat)],.bool T2.isSome])∧Bw w w'):=fun w=>hD w hN (by omega)
  have c1:IntKind.u64.wrap (3*(x:Int))=3*(x:Int):=by rw[IntKind.wrap_u64];omega
  have c2:IntKind.u64.wrap (3*(x:Int)*(x:Int))=((3*q:Nat):Int):=by
   rw[show 3*(x:Int)*(x:Int)=((3*q:Nat):Int) by rw[←hz];simp only[Int.natCast_mul];rfl,IntKind.wrap_u64];omega
  have c3:IntKind.u64.wrap ((x:Int)*(x:Int))=(q:Int):=by rw[show (x:Int)*(x:Int)=(q:Int) by rw[hq];exact (Int.natCast_mul x x).symm,IntKind.wrap_u64];omega
  have c4:IntKind.u64.wrap ((n:Int)-(q:Int))=(d:Int):=by rw[IntKind.wrap_u64];omega
  clear hq hz hE hD HR hd hN;by_cases h1:3*q<n
  ·have HX:Hid (R=none):=HS.out.trans (if_pos h1);have h8:¬ n≤3*q:=by omega
   have Hf:¬ (n:Int)≤((3*q:Nat):Int):=by omega
   clear HS hF;obtain⟨hf,hO,hh,hP,hi,hQ⟩:=he.x3;go_wp2;refine bodyPost_ret (v:=.tuple #[.agg #[.int .u64 0,.int .u64 0,.int .u64 0],.bool false]) ?_ rfl ?_
   ·simp[results,Tryz.results97,go_sem,hf,hh,hi,h7]
   ·rw[HX.out];exact⟨rfl,((hC.setCell (Nat.le_of_eq HG.out) _).setCell (Nat.le_of_eq HG.out) _).setCell (Nat.le_of_eq HG.out) _⟩
  ·have h8:n≤3*q:=by omega
   replace HS:=Kh (HS.out.trans (if_neg h1));clear h1;go_wp2_with fail
   refine (hF.out _).mono ?_;rintro e w2 ⟨rfl,hc⟩;clear hF;cases T2 with
   | none =>
    replace HS:Hid (R=if x=0 then none else threeF n (x-1)):=HS;simp only[tw1,tw2,Option.isSome_none];have hy:=he.after hc;have hG:=bt hC hc;by_cases hx0:x=0
    ·have HX:Hid (R=none):=HS.out.trans (if_pos hx0);have h9:((x:Int)==0)=true:=by rw[hx0];rfl
     have hS:=hy.alloc (.cells #[.int .u64 0,.int .u64 0] 184);have hb4:=ba hG (.cells #[.int .u64 0,.int .u64 0] 184);have hH:=hS.lt;clear HS;obtain⟨hj,hT,hk,hU,hl,hV⟩:=hS.x3;go_wp2;refine bodyPost_ret (v:=.tuple #[.agg #[.int .u64 0,.int .u64 0,.int .u64 0],.bool false]) ?_ rfl ?_
     ·simp[results,Tryz.results97,go_sem,hj,hk,hl,hH]
     ·rw[HX.out];exact⟨rfl,((hb4.setCell (Nat.le_of_eq HG.out) _).setCell (Nat.le_of_eq HG.out) _).setCell (Nat.le_of_eq HG.out) _⟩
    ·have HX:Hid (R=threeF n (x-1)):=HS.out.trans (if_neg hx0);have h9:((x:Int)==0)=false:=by rw[beq_eq_false_iff_ne];omega
     have c5:IntKind.u64.wrap ((x:Int)-1)=((x-1:Nat):Int):=by rw[IntKind.wrap_u64];omega
     have Ha:Hid ((x-1)*(x-1)≤n):=Nat.le_trans (Nat.mul_le_mul (show x-1≤x by omega) (show x-1≤x by omega)) hb.out;have Hb:=ba (bt hB hc) (.cells #[.int .u64 0,.int .u64 0] 184);clear HS hb;go_wp2;go_roundw
     case rel=>exact⟨x-1,rfl,by omega,Ha,HX,Hb⟩
     case measure=>simp[intOf];omega
   | some yz =>
    obtain⟨y,z⟩:=yz;have HX:Hid (R=some (x,y,z)):=HS;clear HS;simp only[tw1,tw2,Option.isSome_some];have hy:=(he.after hc).alloc (.cells #[.int .u64 (y:Int),.int .u64 (z:Int)] 184);have hW:=Blk.new w2 #[.int .u64 (y:Int),.int .u64 (z:Int)] 184;have hG:=ba (bt hC hc) (.cells #[.int .u64 (y:Int),.int .u64 (z:Int)] 184);have hI:=hy.lt;have Hc:=hW.lt;have Hg:¬ w2.heap.size=g:=by have:=(he.after hc).lt;omega
    obtain⟨ho,hp,ht,hu,hv,hw⟩:=hy.x3;obtain⟨hX,hY,hZ,h0⟩:=hW.x2;go_wp2;refine bodyPost_ret (v:=.tuple #[.agg #[.int .u64 (x:Int),.int .u64 (y:Int),.int .u64 (z:Int)],.bool true]) ?_ rfl ?_
    ·simp[results,Tryz.results97,go_sem,ho,ht,hv,hp,hu,hw,hI]
    ·rw[HX.out];exact⟨rfl,((hG.setCell (Nat.le_of_eq HG.out) _).setCell (Nat.le_of_eq HG.out) _).setCell (Nat.le_of_eq HG.out) _⟩
end Go.Proofs.YtdgddpnjkinciaaGreatDoor
end

section
/- ref25: the searches of the reference,as the same plain functions. -/
set_option linter.all false
set_option maxRecDepth 100000
namespace Go.Proofs.YtdgddpnjkinciaaGreatDoor
open Go.RowKit Go.Shelf

theorem wi64 {x:Int} (h1:-9223372036854775808≤x) (h2:x≤9223372036854775807):IntKind.i64.wrap x=x:=by
 simp[IntKind.wrap,IntKind.signed,IntKind.bits];omega

end Go.Proofs.YtdgddpnjkinciaaGreatDoor
end

section
/- foursquares.Four. -/
set_option linter.all false
set_option maxRecDepth 100000
namespace Go.Proofs.YtdgddpnjkinciaaGreatDoor
open Go.RowKit Go.Shelf

set_option maxHeartbeats 1600000 in
theorem small_long (n:Nat) (w:World) (h:256^8≤n) (h2:n<256^128) :
  Calls Tryz.prog 135 #[.string (E n)] w fun e w'=>e=.returned (.tuple #[.int .u64 0,.bool false])∧w=w':=by
 have h1:8<(E n).size:=by
  apply Classical.byContradiction
  intro hn;have:=(E_size_le n 8).1 (by omega);omega
 have HV:Hid (∀w,Calls Tryz.prog 32 #[.string (E n)] w fun e w'=>e=.returned (.bool true)∧w=w'):=fun w=>validE_c n w h2
 have h3:(8:Int)<((E n).size:Int):=by omega
 clear h h2;go_enter Tryz.func135,Tryz.ntmps135
 go_wp2_with fail
 refine (HV.out _).mono ?_;rintro e w' ⟨rfl,rfl⟩;go_wp2;go_ret2
 exact⟨rfl,rfl⟩

set_option maxHeartbeats 1600000 in
theorem fsmall_c (n:Nat) (w:World) (h:n<256^128) :
  Calls Tryz.prog 94 #[.string (E n)] w fun e w'=>e=.returned (.tuple #[.int .u64 (if n<4294967296 then n else 0:Nat),.int .i64 (if n<4294967296 then 0 else 5)])∧w=w':=by
 have HV:Hid (∀w,Calls Tryz.prog 32 #[.string (E n)] w fun e w'=>e=.returned (.bool true)∧w=w'):=fun w=>validE_c n w h
 by_cases h8:n<256^8
 ·have HS:Hid (∀w,Calls Tryz.prog 135 #[.string (E n)] w fun e w'=>e=.returned (.tuple #[.int .u64 n,.bool true])∧w=w'):=fun w=>small_c n w h8
  clear h8 h;by_cases h1:n<4294967296
  ·rw[if_pos h1,if_pos h1];obtain⟨kb,hc⟩:∃k:Int,k=4294967296:=⟨_,rfl⟩;have h2:¬ kb≤(n:Int):=by omega
   clear h1;go_enter Tryz.func94,Tryz.ntmps94
   go_wp2_with fail
   refine (HV.out _).mono ?_;rintro e w' ⟨rfl,rfl⟩;go_wp2_with fail
   refine (HS.out _).mono ?_;rintro e w' ⟨rfl,rfl⟩;go_upto_region 4 with fail
   rw[←hc];clear hc;go_wp2;go_ret2
   exact⟨rfl,rfl⟩
  ·rw[if_neg h1,if_neg h1];obtain⟨kb,hc⟩:∃k:Int,k=4294967296:=⟨_,rfl⟩;have h2:kb≤(n:Int):=by omega
   clear h1;go_enter Tryz.func94,Tryz.ntmps94
   go_wp2_with fail
   refine (HV.out _).mono ?_;rintro e w' ⟨rfl,rfl⟩;go_wp2_with fail
   refine (HS.out _).mono ?_;rintro e w' ⟨rfl,rfl⟩;go_upto_region 4 with fail
   rw[←hc];clear hc;go_wp2;go_ret2
   exact⟨rfl,rfl⟩
 ·have hb:¬ n<4294967296:=fun h9=>h8 (Nl h9 (by decide))
  rw[if_neg hb,if_neg hb];have HS:Hid (∀w,Calls Tryz.prog 135 #[.string (E n)] w fun e w'=>e=.returned (.tuple #[.int .u64 0,.bool false])∧w=w'):=fun w=>small_long n w (by omega) h
  clear h8 h hb;go_enter Tryz.func94,Tryz.ntmps94
  go_wp2_with fail
  refine (HV.out _).mono ?_;rintro e w' ⟨rfl,rfl⟩;go_wp2_with fail
  refine (HS.out _).mono ?_;rintro e w' ⟨rfl,rfl⟩;go_wp2;go_ret2
  exact⟨rfl,rfl⟩

def fourF (n:Nat):Nat→Option (Nat × Nat × Nat × Nat)
 | 0=>if sevF 16 n=false then (match threeF n 0 with | some (x,y,z)=>some (0,x,y,z) | none=>none) else none
 | a+1=>if sevF 16 (n-(a+1)*(a+1))=false then (match threeF (n-(a+1)*(a+1)) (min (rt (n-(a+1)*(a+1))) (a+1)) with | some (x,y,z)=>some (a+1,x,y,z) | none=>fourF n a) else fourF n a
def foM (a:Nat) (r:Option (Nat × Nat × Nat × Nat)):Option (Nat × Nat × Nat)→Option (Nat × Nat × Nat × Nat) | some (x,y,z)=>some (a,x,y,z) | none=>r
theorem four_step (n a:Nat):fourF n a=if sevF 16 (n-a*a)=false then foM a (if a=0 then none else fourF n (a-1)) (threeF (n-a*a) (min (rt (n-a*a)) a)) else if a=0 then none else fourF n (a-1):=by
 cases a with
 | zero =>
  rw[fourF];simp only[Nat.mul_zero,Nat.sub_zero,Nat.min_zero,if_true];split
  ·cases threeF n 0 <;> rfl
  ·rfl
 | succ a =>
  rw[fourF];simp only[Nat.add_sub_cancel,Nat.succ_ne_zero,if_false,Nat.add_eq_zero_iff,Nat.one_ne_zero,and_false];split
  ·cases threeF (n-(a+1)*(a+1)) (min (rt (n-(a+1)*(a+1))) (a+1)) <;> rfl
  ·rfl
theorem twoF_le {n a b:Nat}:∀{x:Nat},twoF n x=some (a,b)→a≤x∧b≤x
 | 0,h=>by
  rw[twoF]at h;split at h
  ·cases h
  ·cases h;exact⟨Nat.le_refl _,Nat.le_refl _⟩
 | x+1,h=>by
  rw[twoF]at h;split at h
  ·cases h
  ·split at h
   ·rename_i h2;cases h
    exact⟨Nat.le_refl _,h2.2⟩
   ·have:=twoF_le h;omega
theorem threeF_le {n a b c:Nat}:∀{x:Nat},threeF n x=some (a,b,c)→a≤x∧b≤x∧c≤x
 | 0,h=>by
  rw[threeF]at h;split at h
  ·cases h
  ·cases h;exact⟨Nat.le_refl _,Nat.le_refl _,Nat.le_refl _⟩
 | x+1,h=>by
  rw[threeF]at h;split at h
  ·cases h
  ·split at h
   ·rename_i y z h2;have h3:=twoF_le h2;cases h
    omega
   ·have:=threeF_le h;omega
def foV:Option (Nat × Nat × Nat × Nat)→List Value | some (a,x,y,z)=>[.string (E a),.string (E x),.string (E y),.string (E z)] | none=>[.string ⟨#[]⟩,.string ⟨#[]⟩,.string ⟨#[]⟩,.string ⟨#[]⟩]

set_option maxHeartbeats 3200000 in
theorem fsfour_c (n:Nat) (w:World) (hn:n<4294967296) :
  Calls Tryz.prog 50 #[.string (E n)] w fun e w'=>e=.returned (.tuple #[.agg (foV (fourF n (rt n))).toArray,.int .i64 0])∧Bw w w':=by
 have HB:Hid (∀w,Calls Tryz.prog 94 #[.string (E n)] w fun e w'=>e=.returned (.tuple #[.int .u64 (n:Nat),.int .i64 0])∧w=w'):=fun w=>by
  have h:=fsmall_c n w (Nl hn (by decide));rwa [if_pos hn,if_pos hn]at h
 have h2:=rt_lt (k:=65536) (show n<65536*65536 by omega);have h3:=(rt_spec n).1;obtain⟨R,hR⟩:∃R,R=fourF n (rt n):=⟨_,rfl⟩;rw[←hR];have HR:=Kh hR;have h0:Hid (∀w,Calls Tryz.prog 95 #[.int .u64 (n:Int)] w fun e w'=>e=.returned (.int .u64 (rt n:Nat))∧w=w'):=fun w=>fsroot_c n w hn
 have he:=Kh h3;generalize rt n=r at h2 HR h0 he;obtain⟨hA,hC,Hb⟩:=blk2 w #[.string ⟨#[]⟩,.string ⟨#[]⟩,.string ⟨#[]⟩,.string ⟨#[]⟩] #[.string ⟨#[]⟩,.string ⟨#[]⟩,.string ⟨#[]⟩,.string ⟨#[]⟩] 117 117;clear h3 hR;go_enter Tryz.func50,Tryz.ntmps50
 go_upto_region 1 with fail
 go_step3
 go_wp2_with fail
 refine (HB.out _).mono ?_;rintro e w' ⟨rfl,rfl⟩;go_wp2;go_step3
 go_wp2_with fail
 refine (h0.out _).mono ?_;rintro e w' ⟨rfl,rfl⟩;go_wp2;generalize (w.alloc (.cells #[.string ⟨#[]⟩,.string ⟨#[]⟩,.string ⟨#[]⟩,.string ⟨#[]⟩] 117)).alloc (.cells #[.string ⟨#[]⟩,.string ⟨#[]⟩,.string ⟨#[]⟩,.string ⟨#[]⟩] 117)=w1 at hA hC Hb ⊢;obtain⟨g2,Hc⟩:∃g,w.heap.size=g:=⟨_,rfl⟩;obtain⟨g6,Hd⟩:∃g,w.heap.size+1=g:=⟨_,rfl⟩;rw[Hd]at hC ⊢;rw[Hc]at hA ⊢;have HG:Hid (w.heap.size≤g2∧w.heap.size≤g6∧g2≠g6):=by rw[Hid];omega
 clear Hc Hd;replace hA:Blk w1 g2 117 [.string ⟨#[]⟩,.string ⟨#[]⟩,.string ⟨#[]⟩,.string ⟨#[]⟩]:=hA;replace hC:Blk w1 g6 117 [.string ⟨#[]⟩,.string ⟨#[]⟩,.string ⟨#[]⟩,.string ⟨#[]⟩]:=hC;go_loopw [7] (fun v wr=>∃a:Nat,v=.int .u64 a∧a<65536∧Hid (a*a≤n)∧Hid (R=fourF n a)∧Bw w1 wr) (fun v _=>(intOf v).toNat)
 case atStart=>exact⟨r,rfl,h2,he,HR,Br⟩
 case round =>
  clear HR he h2 h0;obtain⟨a,rfl,ha,he,HR,hk⟩:=hrel;obtain⟨wp,HC⟩:∃wp,wp=wr:=⟨_,rfl⟩;subst HC;have hf:=hA.after hk;have hg:=hC.after hk;have hh:=bt Hb hk;obtain⟨q,hq⟩:∃q,q=a*a:=⟨_,rfl⟩;have HD:q≤65536*65536:=by rw[hq];exact Nat.mul_le_mul (by omega) (by omega)
  have HE:q≤n:=by rw[hq];exact he.out
  obtain⟨d,hd⟩:∃d,d=n-q:=⟨_,rfl⟩;have h4:d<4294967296:=by omega
  obtain⟨T3,hZ⟩:∃t,t=threeF d (min (rt d) a):=⟨_,rfl⟩;obtain⟨sv,h5⟩:∃b,b=sevF 16 d:=⟨_,rfl⟩
  have HS:Hid (R=if sv=false then foM a (if a=0 then none else fourF n (a-1)) T3 else if a=0 then none else fourF n (a-1)):=by
   rw[Hid,HR.out,four_step n a,←hq,←hd,←hZ,←h5]
  have HF:Hid (∀w,Calls Tryz.prog 96 #[.int .u64 (d:Int)] w fun e w'=>e=.returned (.bool sv)∧w=w'):=fun w=>by rw[h5];exact fsseven_c d w h4
  have h6:Hid (∀w,Calls Tryz.prog 97 #[.int .u64 (d:Int),.int .u64 (a:Int)] w fun e w'=>e=.returned (.tuple #[.agg #[.int .u64 (th1 T3:Nat),.int .u64 (th2 T3:Nat),.int .u64 (th3 T3:Nat)],.bool T3.isSome])∧Bw w w'):=fun w=>by rw[hZ];exact fsthree_c d a w h4 (by omega)
  have h7:Hid (∀x y z,T3=some (x,y,z)→x≤a∧y≤a∧z≤a):=fun x y z h=>by
   have h9:=threeF_le (hZ.symm.trans h);omega
  have c3:IntKind.u64.wrap ((a:Int)*(a:Int))=(q:Int):=by rw[show (a:Int)*(a:Int)=(q:Int) by rw[hq];exact (Int.natCast_mul a a).symm,IntKind.wrap_u64];omega
  have c4:IntKind.u64.wrap ((n:Int)-(q:Int))=(d:Int):=by rw[IntKind.wrap_u64];omega
  have c5:a≠0→IntKind.u64.wrap ((a:Int)-1)=((a-1:Nat):Int):=fun h=>by rw[IntKind.wrap_u64];omega
  have He:Hid ((a-1)*(a-1)≤n):=Nat.le_trans (Nat.mul_le_mul (show a-1≤a by omega) (show a-1≤a by omega)) he.out;have C5:=Kh c5;clear hq hZ h5 HR hd h4 HD HE he c5;go_wp2_with fail
  refine (HF.out _).mono ?_;rintro e w' ⟨rfl,rfl⟩;cases sv
  ·replace HS:=Kh (HS.out.trans (if_pos rfl));go_wp2_with fail
   refine (h6.out _).mono ?_;rintro e w2 ⟨rfl,hb⟩;clear h6;cases T3 with
   | none =>
    replace HS:Hid (R=if a=0 then none else fourF n (a-1)):=HS;simp only[th1,th2,th3,Option.isSome_none];have Hf:=ba (bt hk hb) (.cells #[.int .u64 0,.int .u64 0,.int .u64 0] 162);by_cases hx0:a=0
    ·have HX:Hid (R=none):=HS.out.trans (if_pos hx0);have h8:((a:Int)==0)=true:=by rw[hx0];rfl
     have hi:=(hf.after hb).alloc (.cells #[.int .u64 0,.int .u64 0,.int .u64 0] 162);have hj:=(hg.after hb).alloc (.cells #[.int .u64 0,.int .u64 0,.int .u64 0] 162);have hl:=ba (bt hh hb) (.cells #[.int .u64 0,.int .u64 0,.int .u64 0] 162);have hm:=hi.lt;have Ha:=hj.lt;have e1:¬ g2=g6:=HG.out.2.2;have e2:¬ g6=g2:=fun e=>e1 e.symm
     clear HS hf hg hh hb Hf;obtain⟨ho,hp,hr,ht,hu,hv,hw,hx⟩:=hi.x4;obtain⟨Hg,Hh,Hi,Hj,Hk,Hl,Hm,Hn⟩:=hj.x4;go_wp2;(try rw[Exit.noGoto_ret])
     refine bodyPost_ret (v:=.tuple #[.agg #[.string ⟨#[]⟩,.string ⟨#[]⟩,.string ⟨#[]⟩,.string ⟨#[]⟩],.int .i64 0]) ?_ rfl ?_
     ·simp[results,Tryz.results50,go_sem,ho,hr,hu,hw,hp,ht,hv,hx,hm]
     ·rw[HX.out];exact⟨rfl,((((hl.setCell HG.out.1 _).setCell HG.out.1 _).setCell HG.out.1 _).setCell HG.out.1 _)⟩
    ·have HX:Hid (R=fourF n (a-1)):=HS.out.trans (if_neg hx0);have h8:((a:Int)==0)=false:=by rw[beq_eq_false_iff_ne];omega
     have c5:=C5.out hx0;clear HS hf hg hh hb;go_wp2;go_roundw
     case rel=>exact⟨a-1,rfl,by omega,He,HX,Hf⟩
     case measure=>simp[intOf];omega
   | some xyz =>
    obtain⟨x,y,z⟩:=xyz;have HX:Hid (R=some (a,x,y,z)):=HS;clear HS;simp only[th1,th2,th3,Option.isSome_some];obtain⟨HH,HI,HJ⟩:=h7.out x y z rfl;have HK:(65536:Nat)≤256^8:=by decide
    have HL:Hid (∀w,Calls Tryz.prog 70 #[.int .u64 (a:Int)] w fun e w'=>e=.returned (.string (E a))∧Bw w w'):=fun w=>of_c a w (by omega)
    have HM:Hid (∀w,Calls Tryz.prog 70 #[.int .u64 (x:Int)] w fun e w'=>e=.returned (.string (E x))∧Bw w w'):=fun w=>of_c x w (by omega)
    have HN:Hid (∀w,Calls Tryz.prog 70 #[.int .u64 (y:Int)] w fun e w'=>e=.returned (.string (E y))∧Bw w w'):=fun w=>of_c y w (by omega)
    have HO:Hid (∀w,Calls Tryz.prog 70 #[.int .u64 (z:Int)] w fun e w'=>e=.returned (.string (E z))∧Bw w w'):=fun w=>of_c z w (by omega)
    have hi:=(hf.after hb).alloc (.cells #[.int .u64 (x:Int),.int .u64 (y:Int),.int .u64 (z:Int)] 162);have hj:=(hg.after hb).alloc (.cells #[.int .u64 (x:Int),.int .u64 (y:Int),.int .u64 (z:Int)] 162);have hc:=Blk.new w2 #[.int .u64 (x:Int),.int .u64 (y:Int),.int .u64 (z:Int)] 162;have hl:=ba (bt hh hb) (.cells #[.int .u64 (x:Int),.int .u64 (y:Int),.int .u64 (z:Int)] 162);have e1:¬ g2=g6:=HG.out.2.2;have e2:¬ g6=g2:=fun e=>e1 e.symm
    clear HH HI HJ HK hf hg hh hb h7;go_upto_region 11 with fail
    generalize w2.alloc (.cells #[.int .u64 (x:Int),.int .u64 (y:Int),.int .u64 (z:Int)] 162)=w3 at hi hj hc hl ⊢;generalize w2.heap.size=gD at hc ⊢;replace hc:Blk w3 gD 162 [.int .u64 (x:Int),.int .u64 (y:Int),.int .u64 (z:Int)]:=hc;have Ho:=hc.gcell 0;have Hp:=hc.gcell 1;have Hq:=hc.gcell 2;go_wp2_with fail
    refine wp_region_gw_tail 12 (by kernel_rfl) (by kernel_rfl) ?_;simp only[List.take_succ_cons,List.take_zero,List.drop_succ_cons,List.drop_zero];repeat (go_big_quiet_step (first | (go_at_call 70;with_reducible exact gw_of (HL.out _)) | (go_at_call 70;with_reducible exact gw_of (HM.out _)) | (go_at_call 70;with_reducible exact gw_of (HN.out _)) | (go_at_call 70;with_reducible exact gw_of (HO.out _))))
    refine wpQuiet_nil ?_;rintro w4 ⟨xw4,rfl⟩;have hb4:=gw_below xw4;generalize gw xw4=w4 at hb4;have Hr:=hi.after hb4;have Hs:=hj.after hb4;have HP:=bt hl hb4;have Ha:=Hs.lt;have hm:=Hr.lt;clear hi hj hl hb4 hc;obtain⟨hy,hz,hB,hD,hE,hF,hG,hH⟩:=Hs.x4;obtain⟨hI,hJ,hK,hL,hM,hN,hO,hP⟩:=Hr.x4;go_wp2;(try rw[Exit.noGoto_ret])
    refine bodyPost_ret (v:=.tuple #[.agg #[.string (E a),.string (E x),.string (E y),.string (E z)],.int .i64 0]) ?_ rfl ?_
    ·simp[results,Tryz.results50,go_sem,hI,hK,hM,hO,hJ,hL,hN,hP,hy,hB,hE,hG,hz,hD,hF,hH,hm,Ha,e1,e2]
    ·rw[HX.out];exact⟨rfl,((((((((HP.setCell HG.out.2.1 _).setCell HG.out.2.1 _).setCell HG.out.2.1 _).setCell HG.out.2.1 _).setCell HG.out.1 _).setCell HG.out.1 _).setCell HG.out.1 _).setCell HG.out.1 _)⟩
  ·replace HS:=Kh (HS.out.trans (if_neg (by decide)));clear h6 h7;by_cases hx0:a=0
   ·have HX:Hid (R=none):=HS.out.trans (if_pos hx0);have h8:((a:Int)==0)=true:=by rw[hx0];rfl
    clear HS;have hm:=hf.lt;have Ha:=hg.lt;have e1:¬ g2=g6:=HG.out.2.2;have e2:¬ g6=g2:=fun e=>e1 e.symm
    obtain⟨hQ,hS,hT,hU,hV,hW,hX,hY⟩:=hf.x4;obtain⟨Ht,Hu,Hv,Hw,Hx,Hy,Hz,HA⟩:=hg.x4;go_wp2;(try rw[Exit.noGoto_ret])
    refine bodyPost_ret (v:=.tuple #[.agg #[.string ⟨#[]⟩,.string ⟨#[]⟩,.string ⟨#[]⟩,.string ⟨#[]⟩],.int .i64 0]) ?_ rfl ?_
    ·simp[results,Tryz.results50,go_sem,hQ,hT,hV,hX,hS,hU,hW,hY,hm]
    ·rw[HX.out];exact⟨rfl,((((hh.setCell HG.out.1 _).setCell HG.out.1 _).setCell HG.out.1 _).setCell HG.out.1 _)⟩
   ·have HX:Hid (R=fourF n (a-1)):=HS.out.trans (if_neg hx0);have h8:((a:Int)==0)=false:=by rw[beq_eq_false_iff_ne];omega
    have c5:=C5.out hx0;clear HS;go_wp2;go_roundw
    case rel=>exact⟨a-1,rfl,by omega,He,HX,hk⟩
    case measure=>simp[intOf];omega
end Go.Proofs.YtdgddpnjkinciaaGreatDoor
end

section
/- ref25.Four. -/
set_option linter.all false
set_option maxRecDepth 100000
namespace Go.Proofs.YtdgddpnjkinciaaGreatDoor
open Go.RowKit Go.Shelf

end Go.Proofs.YtdgddpnjkinciaaGreatDoor
end

section
/- The two Four at a number from 2^32 on. -/
set_option linter.all false
set_option maxRecDepth 100000
namespace Go.Proofs.YtdgddpnjkinciaaGreatDoor
open Go.RowKit Go.Shelf

set_option maxHeartbeats 1600000 in
theorem four_long (n:Nat) (w:World) (hn:4294967296≤n) (h:n<256^128) :
  Calls Tryz.prog 50 #[.string (E n)] w fun e w'=>e=.returned (.tuple #[.agg #[.string ⟨#[]⟩,.string ⟨#[]⟩,.string ⟨#[]⟩,.string ⟨#[]⟩],.int .i64 5])∧Bw w w':=by
 have hj:Hid (∀w,Calls Tryz.prog 94 #[.string (E n)] w fun e w'=>e=.returned (.tuple #[.int .u64 0,.int .i64 5])∧w=w'):=fun w=>by
  have h:=fsmall_c n w h;rwa [if_neg (by omega),if_neg (by omega)]at h
 obtain⟨hA,hk⟩:=blk1 w #[.string ⟨#[]⟩,.string ⟨#[]⟩,.string ⟨#[]⟩,.string ⟨#[]⟩] 117;have hl:=hA.lt;clear h hn;obtain⟨hb,hc,hd,he,hf,hg,hh,hi⟩:=hA.x4;go_enter Tryz.func50,Tryz.ntmps50
 go_upto_region 1 with fail
 go_step3
 go_wp2_with fail
 refine (hj.out _).mono ?_;rintro e w' ⟨rfl,rfl⟩;go_wp2;(try rw[Exit.noGoto_ret])
 refine bodyPost_ret (v:=.tuple #[.agg #[.string ⟨#[]⟩,.string ⟨#[]⟩,.string ⟨#[]⟩,.string ⟨#[]⟩],.int .i64 5]) ?_ rfl ?_
 ·simp[results,Tryz.results50,go_sem,hb,hd,hf,hh,hc,he,hg,hi,hl]
 ·exact⟨rfl,hk⟩

end Go.Proofs.YtdgddpnjkinciaaGreatDoor
end

section
/- Lagrange's theorem: each number is a sum of four squares. Plain Lean. -/
set_option linter.all false
namespace Go.Proofs.YtdgddpnjkinciaaGreatDoor.Lag
end Go.Proofs.YtdgddpnjkinciaaGreatDoor.Lag
end

section
set_option linter.all false
namespace Go.Proofs.YtdgddpnjkinciaaGreatDoor
open Go.RowKit Go.Shelf

theorem twoF_sound {n a b:Nat}:∀{x:Nat},x*x≤n→twoF n x=some (a,b)→n=a*a+b*b
 | 0,_,h=>by
  rw[twoF]at h;split at h
  ·cases h
  ·cases h;omega
 | x+1,hx,h=>by
  rw[twoF]at h;split at h
  ·cases h
  ·split at h
   ·rename_i h2;cases h
    have h3:=h2.1;omega
   ·exact twoF_sound (Nat.le_trans (Nat.mul_le_mul (by omega) (by omega)) hx) h
theorem min_sq (d x:Nat):min (rt d) x*min (rt d) x≤d:=Nat.le_trans (Nat.mul_le_mul (by omega) (by omega)) (rt_spec d).1
theorem threeF_sound {n a b c:Nat}:∀{x:Nat},x*x≤n→threeF n x=some (a,b,c)→n=a*a+b*b+c*c
 | 0,_,h=>by
  rw[threeF]at h;split at h
  ·cases h
  ·cases h;omega
 | x+1,hx,h=>by
  rw[threeF]at h;split at h
  ·cases h
  ·split at h
   ·rename_i y z h2;cases h
    have h3:=twoF_sound (min_sq _ _) h2;omega
   ·exact threeF_sound (Nat.le_trans (Nat.mul_le_mul (by omega) (by omega)) hx) h
theorem fourF_sound {n a b c d:Nat}:∀{x:Nat},x*x≤n→fourF n x=some (a,b,c,d)→n=a*a+b*b+c*c+d*d
 | 0,_,h=>by
  rw[fourF]at h;split at h
  ·split at h
   ·rename_i y z t h2;cases h
    have h3:=threeF_sound (x:=0) (by omega) h2;omega
   ·cases h
  ·cases h
 | x+1,hx,h=>by
  rw[fourF]at h;have hb:x*x≤n:=Nat.le_trans (Nat.mul_le_mul (by omega) (by omega)) hx;split at h
  ·split at h
   ·rename_i y z t h2;cases h
    have h3:=threeF_sound (min_sq _ _) h2;omega
   ·exact fourF_sound hb h
  ·exact fourF_sound hb h
end Go.Proofs.YtdgddpnjkinciaaGreatDoor
end
