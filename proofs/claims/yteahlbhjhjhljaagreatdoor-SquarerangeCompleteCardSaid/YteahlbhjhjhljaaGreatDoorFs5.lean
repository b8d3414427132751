/- The two Four at a number from 2^32 on. -/
import Derived.Test.YteahlbhjhjhljaaGreatDoorFs4
import Derived.Test.YteahlbhjhjhljaaGreatDoorRef6
import Derived.Test.YteahlbhjhjhljaaGreatDoorHv1
set_option linter.unusedVariables false
set_option linter.unusedSimpArgs false
set_option maxRecDepth 100000
set_option maxHeartbeats 16000000
namespace Go.Proofs.YteahlbhjhjhljaaGreatDoor
section
/- one step of Knuth's division with two digits,in natural numbers -/
section
variable {B Y Y1 Y0 U D q r:Nat}
theorem kn_lt (hY:Y=Y1*B+Y0) (hU:U<Y) (hD:D<B):(U*B+D) / Y<B:=by
 rw [Nat.div_lt_iff_lt_mul (by omega)];have:(U+1)*B≤Y*B:=Nat.mul_le_mul_right B hU;have h2:(U+1)*B=U*B+B:=by rw [Nat.add_mul,Nat.one_mul]
 have h3:B*Y=Y*B:=Nat.mul_comm _ _;omega
theorem kn_le (hY:Y=Y1*B+Y0) (hY1:0<Y) (hq:q*Y1+r=U) (h:q*Y0≤B*r+D):q≤(U*B+D) / Y:=by
 rw [Nat.le_div_iff_mul_le hY1,hY,Nat.mul_add,←Nat.mul_assoc,←hq,Nat.add_mul,Nat.mul_comm r B];omega
theorem kn_gt (hY:Y=Y1*B+Y0) (hY1:0<Y) (hq:q*Y1+r=U) (h:B*r+D<q*Y0):(U*B+D) / Y<q:=by
 rw [Nat.div_lt_iff_lt_mul hY1,hY,Nat.mul_add,←Nat.mul_assoc,←hq,Nat.add_mul,Nat.mul_comm r B];omega
theorem kn_start (hY:Y=Y1*B+Y0) (h1:0<Y1) (h0:Y0<B):(U*B+D) / Y≤(U*B+D) / (Y1*B):=
 Nat.div_le_div_left (by omega) (Nat.mul_pos h1 (by omega))
theorem kn_first (hY:Y=Y1*B+Y0) (h1:0<Y1) (h0:Y0<B) (hD:D<B):(U*B+D) / Y≤U / Y1:=by
 refine Nat.le_trans (kn_start hY h1 h0) ?_;rw [Nat.mul_comm Y1 B,←Nat.div_div_eq_div_mul,Nat.mul_comm U B,Nat.mul_add_div (by omega),Nat.div_eq_of_lt hD,Nat.add_zero];exact Nat.le_refl _
theorem kn_break (hY:Y=Y1*B+Y0) (h0:Y0<B) (hU:U<Y) (hq:q*Y1+r=U) (hr:B≤r):q*Y0≤B*r+D:=by
 have h1:q*Y1<B*Y1:=by rw [Nat.mul_comm B Y1];omega
 have h2:q<B:=Nat.lt_of_mul_lt_mul_right h1;have h3:q*Y0≤B*Y0:=Nat.mul_le_mul_right _ (by omega);have h4:B*Y0≤B*r:=Nat.mul_le_mul_left _ (by omega);omega
theorem kn_down (hq:q*Y1+r=U) (h:0<q):(q-1)*Y1+(r+Y1)=U:=by
 have:q=q-1+1:=by omega
 rw [this,Nat.add_mul,Nat.one_mul] at hq;omega
end
theorem kn_two (n0 n1 n2 Y B:Nat) (hY:0<Y) :
  ((n0*B+n1)*B+n2) / Y=(n0*B+n1) / Y*B+((n0*B+n1)%Y*B+n2) / Y:=by
 have h:=Nat.div_add_mod (n0*B+n1) Y
 have:(n0*B+n1)*B+n2=Y*((n0*B+n1) / Y*B)+((n0*B+n1)%Y*B+n2):=by
  conv=>lhs;rw [←h]
  rw [Nat.add_mul,Nat.mul_assoc,Nat.add_assoc]
 rw [this,Nat.mul_add_div hY]
theorem kn_two_mod (n0 n1 n2 Y B:Nat) (hY:0<Y) :
  ((n0*B+n1)*B+n2)%Y=((n0*B+n1)%Y*B+n2)%Y:=by
 have h:=Nat.div_add_mod (n0*B+n1) Y
 have:(n0*B+n1)*B+n2=Y*((n0*B+n1) / Y*B)+((n0*B+n1)%Y*B+n2):=by
  conv=>lhs;rw [←h]
  rw [Nat.add_mul,Nat.mul_assoc,Nat.add_assoc]
 rw [this,Nat.mul_add_mod]
theorem kn_scale (N y t:Nat) (ht:0<t):(N*t) / (y*t)=N / y∧(N*t)%(y*t) / t=N%y:=by
 refine ⟨Nat.mul_div_mul_right _ _ ht,?_⟩;rw [Nat.mul_mod_mul_right,Nat.mul_div_cancel _ ht]
end
section
/- ref25: the searches of the reference,as the same plain functions. -/
open Go.RowKit Go.Shelf
theorem wi64 {x:Int} (h1:-9223372036854775808≤x) (h2:x≤9223372036854775807):IntKind.i64.wrap x=x:=by
 simp [IntKind.wrap,IntKind.signed,IntKind.bits];omega
end
section
open Go.RowKit Go.Shelf
def kL:List Int:=[1116352408,1899447441,3049323471,3921009573,961987163,1508970993,2453635748,2870763221,3624381080,310598401,607225278,1426881987,1925078388,2162078206,2614888103,3248222580,3835390401,4022224774,264347078,604807628,770255983,1249150122,1555081692,1996064986,2554220882,2821834349,2952996808,3210313671,3336571891,3584528711,113926993,338241895,666307205,773529912,1294757372,1396182291,1695183700,1986661051,2177026350,2456956037,2730485921,2820302411,3259730800,3345764771,3516065817,3600352804,4094571909,275423344,430227734,506948616,659060556,883997877,958139571,1322822218,1537002063,1747873779,1955562222,2024104815,2227730452,2361852424,2428436474,2756734187,3204031479,3329325298]
def kC (j:Nat):Int:=kL.getD j 0
def iL:List Int:=[1779033703,3144134277,1013904242,2773480762,1359893119,2600822924,528734635,1541459225]
def iC (j:Nat):Int:=iL.getD j 0
def ch3 (e f g:Int):Int:=bits .xor .u32 (bits .and .u32 e f) (bits .and .u32 (bits .xor .u32 4294967295 e) g)
def mj3 (a b c:Int):Int:=bits .xor .u32 (bits .xor .u32 (bits .and .u32 a b) (bits .and .u32 a c)) (bits .and .u32 b c)
def bS1 (e:Int):Int:=bits .xor .u32 (bits .xor .u32 (rr e 6) (rr e 11)) (rr e 25)
def bS0 (a:Int):Int:=bits .xor .u32 (bits .xor .u32 (rr a 2) (rr a 13)) (rr a 22)
def tT (e f g h kk ww:Int):Int:=(h+bS1 e+ch3 e f g+kk+ww)%4294967296
def tU (a b c:Int):Int:=(bS0 a+mj3 a b c)%4294967296
def rT (v:Nat→Int) (kk ww:Int):Int:=tT (v 4) (v 5) (v 6) (v 7) kk ww
def rnd (v:Nat→Int) (kk ww:Int) (j:Nat):Int:=
 if j=0 then (rT v kk ww+tU (v 0) (v 1) (v 2))%4294967296 else if j=4 then (v 3+rT v kk ww)%4294967296 else v (j-1)
def vv (s:ByteArray) (S:Nat→Int):Nat→Nat→Int
 | 0=>S
 | k+1=>rnd (vv s S k) (kC k) (sW s k)
def cmp (S:Nat→Int) (s:ByteArray) (j:Nat):Int:=(vv s S 64 j+S j)%4294967296
def fP (s:ByteArray) (S:Nat→Int) (k j:Nat):Int:=if j<k then cmp S s j else vv s S 64 j
theorem fP_zero (s:ByteArray) (S:Nat→Int):u32f (fP s S 0) 8=u32f (vv s S 64) 8:=u32f_congr fun j _=>by rw [fP,if_neg (by omega)]
theorem fP_set (s:ByteArray) (S:Nat→Int) (k:Nat):(u32f (fP s S k) 8).set k (.int .u32 (cmp S s k))=u32f (fP s S (k+1)) 8:=by
 rw [u32f_set];refine u32f_congr fun j _=>?_
 unfold fP;by_cases h2:j=k
 ·subst h2;rw [if_pos rfl,if_pos (by omega)]
 ·rw [if_neg h2];by_cases h1:j<k
  ·rw [if_pos h1,if_pos (by omega)]
  ·rw [if_neg h1,if_neg (by omega)]
theorem fP_at {w:World} {g:Nat} {T:TypeId} {s:ByteArray} {S:Nat→Int} {k:Nat} (h:Blk w g T (u32f (fP s S k) 8)) (hk:k<8):w.cell? ⟨g,k,none⟩=some (.int .u32 (vv s S 64 k)):=by
 rw [h.cell,u32f_get _ hk,fP,if_neg (by omega)]
def WdA (w:World) (g n:Nat) (F:Nat→Int):Prop:=g<w.heap.size∧∀j,j<n→w.cell? ⟨g,j,none⟩=some (.int .u32 (F j))
theorem WdA.after {w w':World} {g n:Nat} {F:Nat→Int} (h:WdA w g n F) (hb:Below w.heap.size w w'):WdA w' g n F:=
 ⟨Nat.lt_of_lt_of_le h.1 hb.size,fun j hj=>(hb.cell (p:=⟨g,j,none⟩) h.1).trans (h.2 j hj)⟩
theorem WdA.drew {w:World} {g n:Nat} {F:Nat→Int} (h:WdA w g n F):WdA w.drew g n F:=h
theorem WdA.of {w:World} {g n:Nat} {F:Nat→Int} (h:Blk w g 300 (u32f F n)):WdA w g n F:=⟨h.lt,fun j hj=>by rw [h.cell,u32f_get F hj]⟩
theorem WdA.congr {w:World} {g n:Nat} {F G:Nat→Int} (h:WdA w g n F) (e:∀j,j<n→F j=G j):WdA w g n G:=⟨h.1,fun j hj=>by rw [←e j hj];exact h.2 j hj⟩
theorem Blk.as {w:World} {g:Nat} {T:TypeId} {cs cs':List Value} (h:Blk w g T cs) (e:cs=cs'):Blk w g T cs':=e ▸ h
end
section
open Go.RowKit Go.Shelf
theorem bits_or_comm (k:IntKind) (x y:Int):bits .or k x y=bits .or k y x:=by
 unfold bits;simp only [BitVec.or_comm]
theorem rot_and:∀n:Fin 32,0<n.val→bits .and .u64 (IntKind.u64.wrap (-(n.val:Int))) 31=32-(n.val:Int):=by decide +kernel
theorem rotl_c (x:Int) (n:Nat) (w:World) (hn:0<n) (hn2:n<32) :
  Calls Tryz.prog 308 #[.int .u32 x,.int .i64 (-(n:Int))] w fun e w'=>e=.returned (.int .u32 (rr x n))∧Below w.heap.size w w':=by
 obtain ⟨r,hr⟩:∃r,r=32-n:=⟨_,rfl⟩;have HE:Hid (bits .or .u32 (x*2^r%4294967296) (x / 2^n)=rr x n):=by rw [Hid,bits_or_comm,rr,hr]
 have h1:=rot_and ⟨n,hn2⟩ hn;simp only at h1;obtain ⟨q,hq⟩:∃q,q=IntKind.u64.wrap (-(n:Int)):=⟨_,rfl⟩;have e0:=hq.symm;rw [e0] at h1;have e1:bits .and .u64 q 31=(r:Int):=by rw [h1];omega
 have e2:IntKind.u64.wrap (32-(r:Int))=(n:Int):=by rw [IntKind.wrap_u64];omega
 have r0:(0:Int)≤(r:Int):=by omega
 have r1:(r:Int)≤32:=by omega
 have n0:(0:Int)≤(n:Int):=by omega
 have n1:(n:Int)≤32:=by omega
 clear h1 hq hr;go_enter Tryz.func308,Tryz.ntmps308
 go_wp2;go_ret
 refine ⟨?_,Below.refl _ _⟩;rw [←HE.out];rfl
theorem turn_c (x z:Int) (n:Nat) (w:World) (hz:z=(n:Int)) (hn:0<n) (hn2:n<32) :
  Calls Tryz.prog 300 #[.int .u32 x,.int .i64 z] w fun e w'=>e=.returned (.int .u32 (rr x n))∧Below w.heap.size w w':=by
 subst hz;have HR:=Lib.hid (fun w=>rotl_c x n w hn hn2);have e0:IntKind.i64.wrap (-(n:Int))=-(n:Int):=IntWalk.i64_in _ (by omega);have e1:IntKind.i64.wrap (0-(n:Int))=-(n:Int):=by rw [IntWalk.i64_in _ (by omega)];omega
 go_enter Tryz.func300,Tryz.ntmps300
 go_wp2_with fail
 refine (HR.out _).mono ?_;rintro e w2 ⟨rfl,hb2⟩;go_wp2;go_ret
 exact ⟨rfl,hb2⟩
end
section
/- ref25.Four. -/
open Go.RowKit Go.Shelf
end
section
open Go.RowKit Go.Shelf
theorem four_long (n:Nat) (w:World) (hn:4294967296≤n) (h:n<256^128) :
  Calls Tryz.prog 107 #[.string (E n)] w fun e w'=>e=.returned (.tuple #[.agg #[.string ⟨#[]⟩,.string ⟨#[]⟩,.string ⟨#[]⟩,.string ⟨#[]⟩],.int .i64 5])∧Below w.heap.size w w':=by
 have HSM:Hid (∀w,Calls Tryz.prog 170 #[.string (E n)] w fun e w'=>e=.returned (.tuple #[.int .u64 0,.int .i64 5])∧w=w'):=fun w=>by
  have h:=fsmall_c n w h;rwa [if_neg (by omega),if_neg (by omega)] at h
 have hA:=Blk.new w #[.string ⟨#[]⟩,.string ⟨#[]⟩,.string ⟨#[]⟩,.string ⟨#[]⟩] 171;have hBW:=b1 w (.cells #[.string ⟨#[]⟩,.string ⟨#[]⟩,.string ⟨#[]⟩,.string ⟨#[]⟩] 171);have hAl:=hA.lt;clear h hn;obtain ⟨hAc0,hAf0,hAc1,hAf1,hAc2,hAf2,hAc3,hAf3⟩:=hA.x4;go_enter Tryz.func107,Tryz.ntmps107
 go_upto_region 1 with fail
 go_step3
 go_wp2_with fail
 refine (HSM.out _).mono ?_;rintro e w' ⟨rfl,rfl⟩;go_wp2;(try rw [Exit.noGoto_ret])
 refine bodyPost_ret (v:=.tuple #[.agg #[.string ⟨#[]⟩,.string ⟨#[]⟩,.string ⟨#[]⟩,.string ⟨#[]⟩],.int .i64 5]) ?_ rfl ?_
 ·simp [results,Tryz.results107,go_sem,hAc0,hAc1,hAc2,hAc3,hAf0,hAf1,hAf2,hAf3,hAl]
 ·exact ⟨rfl,hBW⟩
end
end Go.Proofs.YteahlbhjhjhljaaGreatDoor
