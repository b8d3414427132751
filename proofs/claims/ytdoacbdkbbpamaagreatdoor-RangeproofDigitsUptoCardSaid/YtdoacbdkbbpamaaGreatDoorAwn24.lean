/- law 24's examples in numbers. -/
import Derived.Test.YtdoacbdkbbpamaaGreatDoorAtp
import Derived.Test.YtdoacbdkbbpamaaGreatDoorCo4
import Derived.Test.YtdoacbdkbbpamaaGreatDoorHol
import Derived.Test.YtdoacbdkbbpamaaGreatDoorPpU24K
import Derived.Lib.LaidTab
import Derived.Test.YtdoacbdkbbpamaaGreatDoorRc1
import Derived.Test.YtdoacbdkbbpamaaGreatDoorSmT
import Derived.Test.YtdoacbdkbbpamaaGreatDoorTp24
import Derived.Test.YtdoacbdkbbpamaaGreatDoorRf24
set_option linter.unusedVariables false
set_option linter.unusedSimpArgs false
set_option maxRecDepth 100000
set_option maxHeartbeats 16000000
namespace Go.Proofs.YtdoacbdkbbpamaaGreatDoor
section
/- The attempts of the program: a function;the table that the row lists. -/
open Go.RowKit Go.Shelf
theorem laid_tail {P:Program} {x:String × DataW Unit} {r:List (String × DataW Unit)} {w:World} (h:laidMet P (x :: r) w):laidMet P r w:=by
 obtain ⟨ps,hv,hnd,hrows⟩:=h;obtain ⟨n,d⟩:=x;obtain ⟨g,t,cs,fuel,p,q,_,_,_,_,hq,rfl⟩:=hv;exact ⟨q,hq,List.Nodup.sublist (List.sublist_append_right _ _) hnd,fun b off hm=>hrows b off (List.mem_append_right _ hm)⟩
theorem tab_of_laid {W:World} (h:laidMetH Tryz.prog laid3 W):TabW W:=by
 rw [MakeChecks.laidMetH_plain _ _ _ (by kernel_rfl)] at h;have h2:laidMet Tryz.prog [("internal/strconv.uint64pow10",Lib.tabData .u64 Lib.pow10Tab)] W:=laid_tail (laid_tail h);have hs:(Tryz.prog.globalNamed "internal/strconv.uint64pow10").isSome=true:=by kernel_rfl
 have ht:((Tryz.prog.globalNamed "internal/strconv.uint64pow10").bind fun g=>(Tryz.prog.globals[g]?).map (·.type))=some 226:=by kernel_rfl
 obtain ⟨g,hg⟩:=Option.isSome_iff_exists.1 hs;rw [hg,Option.bind_some] at ht;exact Lib.tabIs_of_head (e:=70) (n:=20) hg ht Tryz.underlying226 Tryz.underlying70 (by kernel_rfl) (by kernel_rfl) h2
theorem canon_fact:∀(k:Nat) (s:ByteArray),s.size=k→s.size≤128→vldB (canonV s)=true∧(canonV s).size≤s.size
 | 0,s,h,_=>by
  obtain rfl:s=ByteArray.empty:=by apply ByteArray.ext;apply Array.eq_empty_of_size_eq_zero;exact h
  exact ⟨vldB_empty,Nat.le_refl _⟩
 | k+1,s,h,h2=>by
  have hp:0<s.size:=by omega
  by_cases h0:s[0].toNat=0
  ·rw [canon_zero s hp h0];have hs:(s.extract 1 s.size).size=k:=by rw [ByteArray.size_extract];omega
   obtain ⟨a,b⟩:=canon_fact k (s.extract 1 s.size) hs (by omega);exact ⟨a,by omega⟩
  ·rw [canon_stop s hp h0];refine ⟨?_,Nat.le_refl _⟩;rw [vldB_pos hp h2,bne_iff_ne];omega
def attN:Att:=fun sd p a k=>numb (attT sd p a k)
theorem att_num (sd:ByteArray) (p a n:Nat) (h2:n≤512):attT sd p a n=E (attN sd p a n)∧attN sd p a n<256^64:=by
 obtain ⟨v,hv⟩:∃v,v=((⟨#[UInt8.ofNat (byt (blV sd p a (((n+7) / 8+31) / 32)) 0%2^(8-(8*((n+7) / 8)-n)))]⟩:ByteArray)++(blV sd p a (((n+7) / 8+31) / 32)).extract 1 ((n+7) / 8)):=⟨_,rfl⟩;have hT:attT sd p a n=canonV v:=by rw [hv];rfl
 have hs:v.size≤64:=by
  rw [hv,ByteArray.size_append,ByteArray.size_extract];show 1+_≤64;omega
 obtain ⟨c1,c2⟩:=canon_fact v.size v rfl (by omega);rw [←hT] at c1 c2;obtain ⟨x,hx,e⟩:=numk (k:=64) (by omega) c1
 have he:attN sd p a n=x:=by
  show numb (attT sd p a n)=x;rw [e,numb_E]
 rw [he];exact ⟨e,hx⟩
theorem hatt (sd:ByteArray) (w:World) (hs:sd.size≤1000) (ht:TabW w):HAtt attN sd w:=fun _ p a k h1 h2 h3 h4=>⟨(att_num sd p a k h4).2,fun ao m c W hW=>by
 rw [←(att_num sd p a k h4).1];exact attempt_v sd p a k ao m c W hs h1 h2 h3 h4 (ht.after hW)⟩
end
section
/- The attempts of the reference: the same function. -/
open Go.RowKit Go.Shelf
theorem ratt (sd:ByteArray) (hs:sd.size≤1000):RAtt attN sd:=fun _ p a k h1 h2 h3 h4=>⟨(att_num sd p a k h4).2,fun W=>by
 rw [←(att_num sd p a k h4).1];exact rattempt_v sd p a k W hs h1 h2 h3 h4⟩
end
section
/- SHA-256 and its code in numbers that the kernel computes. -/
open Go.RowKit Go.Shelf
theorem wrap_u32 (n:Nat) (h:n<4294967296):IntKind.wrap .u32 (n:Int)=(n:Int):=by
 unfold IntKind.wrap;simp [IntKind.bits,IntKind.signed];omega
theorem bit_x (x y:Nat) (hx:x<4294967296) (hy:y<4294967296):bits .xor .u32 (x:Int) (y:Int)=((x ^^^ y:Nat):Int)∧x ^^^ y<4294967296:=by
 have h:x ^^^ y<4294967296:=Nat.xor_lt_two_pow (n:=32) hx hy;refine ⟨?_,h⟩;unfold bits;rw [show (BitVec.ofInt (IntKind.bits .u32) (x:Int))=BitVec.ofNat 32 x from BitVec.ofInt_natCast 32 x,show (BitVec.ofInt (IntKind.bits .u32) (y:Int))=BitVec.ofNat 32 y from BitVec.ofInt_natCast 32 y];show IntKind.wrap .u32 (((BitVec.ofNat 32 x) ^^^ (BitVec.ofNat 32 y)).toNat:Int)=_;rw [BitVec.toNat_xor,BitVec.toNat_ofNat,BitVec.toNat_ofNat,Nat.mod_eq_of_lt hx,Nat.mod_eq_of_lt hy,wrap_u32 _ h]
theorem bit_a (x y:Nat) (hx:x<4294967296) (hy:y<4294967296):bits .and .u32 (x:Int) (y:Int)=((x &&& y:Nat):Int)∧x &&& y<4294967296:=by
 have h:x &&& y<4294967296:=Nat.and_lt_two_pow (n:=32) x hy;refine ⟨?_,h⟩;unfold bits;rw [show (BitVec.ofInt (IntKind.bits .u32) (x:Int))=BitVec.ofNat 32 x from BitVec.ofInt_natCast 32 x,show (BitVec.ofInt (IntKind.bits .u32) (y:Int))=BitVec.ofNat 32 y from BitVec.ofInt_natCast 32 y];show IntKind.wrap .u32 (((BitVec.ofNat 32 x) &&& (BitVec.ofNat 32 y)).toNat:Int)=_;rw [BitVec.toNat_and,BitVec.toNat_ofNat,BitVec.toNat_ofNat,Nat.mod_eq_of_lt hx,Nat.mod_eq_of_lt hy,wrap_u32 _ h]
theorem bit_o (x y:Nat) (hx:x<4294967296) (hy:y<4294967296):bits .or .u32 (x:Int) (y:Int)=((x ||| y:Nat):Int)∧x ||| y<4294967296:=by
 have h:x ||| y<4294967296:=Nat.or_lt_two_pow (n:=32) hx hy;refine ⟨?_,h⟩;unfold bits;rw [show (BitVec.ofInt (IntKind.bits .u32) (x:Int))=BitVec.ofNat 32 x from BitVec.ofInt_natCast 32 x,show (BitVec.ofInt (IntKind.bits .u32) (y:Int))=BitVec.ofNat 32 y from BitVec.ofInt_natCast 32 y];show IntKind.wrap .u32 (((BitVec.ofNat 32 x) ||| (BitVec.ofNat 32 y)).toNat:Int)=_;rw [BitVec.toNat_or,BitVec.toNat_ofNat,BitVec.toNat_ofNat,Nat.mod_eq_of_lt hx,Nat.mod_eq_of_lt hy,wrap_u32 _ h]
def force {α:Type} (x:Nat) (f:Nat→α):α:=match x with | 0=>f 0 | n+1=>f (n+1)
theorem force_eq {α:Type} (x:Nat) (f:Nat→α):force x f=f x:=by cases x <;> rfl
def rrN (x n m:Nat):Nat:=(x / 2^n) ||| (x*2^m%4294967296)
def s0N (x:Nat):Nat:=rrN x 7 25 ^^^ rrN x 18 14 ^^^ (x / 8)
def s1N (x:Nat):Nat:=rrN x 17 15 ^^^ rrN x 19 13 ^^^ (x / 1024)
def b1N (e:Nat):Nat:=rrN e 6 26 ^^^ rrN e 11 21 ^^^ rrN e 25 7
def b0N (a:Nat):Nat:=rrN a 2 30 ^^^ rrN a 13 19 ^^^ rrN a 22 10
def chN (e f g:Nat):Nat:=(e &&& f) ^^^ ((4294967295 ^^^ e) &&& g)
def mjN (a b c:Nat):Nat:=(a &&& b) ^^^ (a &&& c) ^^^ (b &&& c)
theorem rr_n {x n m:Nat} (hx:x<4294967296) (hm:32-n=m):rr (x:Int) n=((rrN x n m:Nat):Int)∧rrN x n m<4294967296:=by
 have h1:x / 2^n<4294967296:=Nat.lt_of_le_of_lt (Nat.div_le_self _ _) hx;have h2:x*2^m%4294967296<4294967296:=Nat.mod_lt _ (by decide);have h:=bit_o _ _ h1 h2;unfold rr rrN;rw [hm];refine ⟨?_,h.2⟩;rw [←h.1];congr 1
theorem s0_n {x:Nat} (hx:x<4294967296):sg0 (x:Int)=((s0N x:Nat):Int)∧s0N x<4294967296:=by
 have h1:=rr_n (n:=7) (m:=25) hx rfl;have h2:=rr_n (n:=18) (m:=14) hx rfl;have h3:x / 8<4294967296:=Nat.lt_of_le_of_lt (Nat.div_le_self _ _) hx;have h4:=bit_x _ _ h1.2 h2.2;have h5:=bit_x _ _ h4.2 h3;unfold sg0 s0N;rw [h1.1,h2.1,h4.1,show ((x:Int) / 8)=((x / 8:Nat):Int) from rfl,h5.1];exact ⟨rfl,h5.2⟩
theorem s1_n {x:Nat} (hx:x<4294967296):sg1 (x:Int)=((s1N x:Nat):Int)∧s1N x<4294967296:=by
 have h1:=rr_n (n:=17) (m:=15) hx rfl;have h2:=rr_n (n:=19) (m:=13) hx rfl;have h3:x / 1024<4294967296:=Nat.lt_of_le_of_lt (Nat.div_le_self _ _) hx;have h4:=bit_x _ _ h1.2 h2.2;have h5:=bit_x _ _ h4.2 h3;unfold sg1 s1N;rw [h1.1,h2.1,h4.1,show ((x:Int) / 1024)=((x / 1024:Nat):Int) from rfl,h5.1];exact ⟨rfl,h5.2⟩
theorem b1_n {x:Nat} (hx:x<4294967296):bS1 (x:Int)=((b1N x:Nat):Int):=by
 have h1:=rr_n (n:=6) (m:=26) hx rfl;have h2:=rr_n (n:=11) (m:=21) hx rfl;have h3:=rr_n (n:=25) (m:=7) hx rfl;have h4:=bit_x _ _ h1.2 h2.2;have h5:=bit_x _ _ h4.2 h3.2;unfold bS1 b1N;rw [h1.1,h2.1,h3.1,h4.1,h5.1]
theorem b0_n {x:Nat} (hx:x<4294967296):bS0 (x:Int)=((b0N x:Nat):Int):=by
 have h1:=rr_n (n:=2) (m:=30) hx rfl;have h2:=rr_n (n:=13) (m:=19) hx rfl;have h3:=rr_n (n:=22) (m:=10) hx rfl;have h4:=bit_x _ _ h1.2 h2.2;have h5:=bit_x _ _ h4.2 h3.2;unfold bS0 b0N;rw [h1.1,h2.1,h3.1,h4.1,h5.1]
theorem ch_n {e f g:Nat} (he:e<4294967296) (hf:f<4294967296) (hg:g<4294967296):ch3 (e:Int) f g=((chN e f g:Nat):Int):=by
 have h1:=bit_a _ _ he hf;have h2:=bit_x 4294967295 e (by decide) he;have h3:=bit_a _ _ h2.2 hg;have h4:=bit_x _ _ h1.2 h3.2;unfold ch3 chN;rw [h1.1,show (4294967295:Int)=((4294967295:Nat):Int) from rfl,h2.1,h3.1,h4.1]
theorem mj_n {a b c:Nat} (ha:a<4294967296) (hb:b<4294967296) (hc:c<4294967296):mj3 (a:Int) b c=((mjN a b c:Nat):Int):=by
 have h1:=bit_a _ _ ha hb;have h2:=bit_a _ _ ha hc;have h3:=bit_a _ _ hb hc;have h4:=bit_x _ _ h1.2 h2.2;have h5:=bit_x _ _ h4.2 h3.2;unfold mj3 mjN;rw [h1.1,h2.1,h3.1,h4.1,h5.1]
def goN {α:Type} (K:Nat→Nat→Nat→Nat→Nat→Nat→Nat→Nat→α):List Nat→(a b c d e f g h w0 w1 w2 w3 w4 w5 w6 w7 w8 w9 wa wb wc wd we wf:Nat)→α
 | [],a,b,c,d,e,f,g,h,_,_,_,_,_,_,_,_,_,_,_,_,_,_,_,_=>K a b c d e f g h
 | k :: l,a,b,c,d,e,f,g,h,w0,w1,w2,w3,w4,w5,w6,w7,w8,w9,wa,wb,wc,wd,we,wf =>
  force ((h+b1N e+chN e f g+k+w0)%4294967296) fun t =>
  force ((t+(b0N a+mjN a b c)%4294967296)%4294967296) fun a' =>
  force ((d+t)%4294967296) fun e' =>
  force ((w0+s0N w1+w9+s1N we)%4294967296) fun w' =>
  goN K l a' a b c e' e f g w1 w2 w3 w4 w5 w6 w7 w8 w9 wa wb wc wd we wf w'
def kN:List Nat:=kL.map Int.toNat
theorem kN_at (k:Nat) (h:k<64):kN.drop k=(kC k).toNat :: kN.drop (k+1)∧0≤kC k:=by
 have hl:kL.length=64:=by decide
 have hk:k<kN.length:=by unfold kN;rw [List.length_map];omega
 have e:kC k=kL[k]'(by omega):=by unfold kC;rw [List.getD_eq_getElem?_getD,List.getElem?_eq_getElem (by omega),Option.getD_some]
 refine ⟨?_,?_⟩
 ·rw [List.drop_eq_getElem_cons hk,e];have:kN[k]=(kL[k]'(by omega)).toNat:=List.getElem_map ..;rw [this]
 ·have:∀x∈kL,0≤x:=by decide
  rw [e];exact this _ (List.getElem_mem _)
theorem goN_eq {α:Type} (K:Nat→Nat→Nat→Nat→Nat→Nat→Nat→Nat→α) (s:ByteArray) (S:Nat→Int):∀(n k:Nat),n+k=64→∀(a b c d e f g h w0 w1 w2 w3 w4 w5 w6 w7 w8 w9 wa wb wc wd we wf:Nat),
  (a:Int)=vv s S k 0→(b:Int)=vv s S k 1→(c:Int)=vv s S k 2→(d:Int)=vv s S k 3→(e:Int)=vv s S k 4→(f:Int)=vv s S k 5→(g:Int)=vv s S k 6→(h:Int)=vv s S k 7 →
  a<4294967296→b<4294967296→c<4294967296→d<4294967296→e<4294967296→f<4294967296→g<4294967296→h<4294967296 →
  (w0:Int)=sW s k→(w1:Int)=sW s (k+1)→(w2:Int)=sW s (k+2)→(w3:Int)=sW s (k+3)→(w4:Int)=sW s (k+4)→(w5:Int)=sW s (k+5)→(w6:Int)=sW s (k+6)→(w7:Int)=sW s (k+7)→(w8:Int)=sW s (k+8)→(w9:Int)=sW s (k+9)→(wa:Int)=sW s (k+10)→(wb:Int)=sW s (k+11)→(wc:Int)=sW s (k+12)→(wd:Int)=sW s (k+13)→(we:Int)=sW s (k+14)→(wf:Int)=sW s (k+15) →
  goN K (kN.drop k) a b c d e f g h w0 w1 w2 w3 w4 w5 w6 w7 w8 w9 wa wb wc wd we wf=K (vv s S 64 0).toNat (vv s S 64 1).toNat (vv s S 64 2).toNat (vv s S 64 3).toNat (vv s S 64 4).toNat (vv s S 64 5).toNat (vv s S 64 6).toNat (vv s S 64 7).toNat
 | 0,k,hk,a,b,c,d,e,f,g,h,w0,w1,w2,w3,w4,w5,w6,w7,w8,w9,wa,wb,wc,wd,we,wf,h0,h1,h2,h3,h4,h5,h6,h7,_,_,_,_,_,_,_,_,_,_,_,_,_,_,_,_,_,_,_,_,_,_,_,_=>by
  obtain rfl:k=64:=by omega
  rw [←h0,←h1,←h2,←h3,←h4,←h5,←h6,←h7];rfl
 | n+1,k,hk,a,b,c,d,e,f,g,h,w0,w1,w2,w3,w4,w5,w6,w7,w8,w9,wa,wb,wc,wd,we,wf,h0,h1,h2,h3,h4,h5,h6,h7,b0,b1,b2,b3,b4,b5,b6,b7,q0,q1,q2,q3,q4,q5,q6,q7,q8,q9,qa,qb,qc,qd,qe,qf=>by
  obtain ⟨hd,hkc⟩:=kN_at k (by omega);have u1:w1<4294967296:=by have:=sW_u s (k+1);omega
  have ue:we<4294967296:=by have:=sW_u s (k+14);omega
  rw [hd,goN,force_eq,force_eq,force_eq,force_eq]
  have ht:(((h+b1N e+chN e f g+(kC k).toNat+w0)%4294967296:Nat):Int)=rT (vv s S k) (kC k) (sW s k):=by
   unfold rT tT;rw [←h4,←h5,←h6,←h7,←q0,b1_n b4,ch_n b4 b5 b6];generalize chN e f g=x;generalize b1N e=y;generalize kC k=z at hkc;omega
  generalize (h+b1N e+chN e f g+(kC k).toNat+w0)%4294967296=t at ht;refine goN_eq K s S n (k+1) (by omega) _ _ _ _ _ _ _ _ _ _ _ _ _ _ _ _ _ _ _ _ _ _ _ _ ?_ (h0.trans rfl) (h1.trans rfl) (h2.trans rfl) ?_ (h4.trans rfl) (h5.trans rfl) (h6.trans rfl) (Nat.mod_lt _ (by decide)) b0 b1 b2 (Nat.mod_lt _ (by decide)) b4 b5 b6 q1 q2 q3 q4 q5 q6 q7 q8 q9 qa qb qc qd qe qf ?_
  ·show _=(rT (vv s S k) (kC k) (sW s k)+tU (vv s S k 0) (vv s S k 1) (vv s S k 2))%4294967296;rw [←ht,←h0,←h1,←h2];unfold tU;rw [b0_n b0,mj_n b0 b1 b2];generalize b0N a=x;generalize mjN a b c=y;omega
  ·show _=(vv s S k 3+rT (vv s S k) (kC k) (sW s k))%4294967296;rw [←ht,←h3];omega
  ·rw [sW_hi s (k+1+15) (by omega),show k+1+15-16=k by omega,show k+1+15-15=k+1 by omega,show k+1+15-7=k+9 by omega,show k+1+15-2=k+14 by omega,←q0,←q1,←q9,←qe,(s0_n u1).1,(s1_n ue).1];generalize s0N w1=x;generalize s1N we=y;omega
def blkL:List Nat→(Nat→Nat)→List Nat
 | [a,b,c,d,e,f,g,h],w =>
  force (w 0) fun w0=>force (w 1) fun w1=>force (w 2) fun w2=>force (w 3) fun w3=>force (w 4) fun w4=>force (w 5) fun w5=>force (w 6) fun w6=>force (w 7) fun w7=>force (w 8) fun w8=>force (w 9) fun w9=>force (w 10) fun wa=>force (w 11) fun wb=>force (w 12) fun wc=>force (w 13) fun wd=>force (w 14) fun we=>force (w 15) fun wf =>
  goN (fun a' b' c' d' e' f' g' h'=>force ((a'+a)%4294967296) fun a1=>force ((b'+b)%4294967296) fun b1=>force ((c'+c)%4294967296) fun c1=>force ((d'+d)%4294967296) fun d1=>force ((e'+e)%4294967296) fun e1=>force ((f'+f)%4294967296) fun f1=>force ((g'+g)%4294967296) fun g1=>force ((h'+h)%4294967296) fun h1=>[a1,b1,c1,d1,e1,f1,g1,h1]) kN a b c d e f g h w0 w1 w2 w3 w4 w5 w6 w7 w8 w9 wa wb wc wd we wf
 | _,_=>[]
theorem vv_u (s:ByteArray) (S:Nat→Int) (hS:∀j,j<8→0≤S j∧S j<4294967296):∀k j,j<8→0≤vv s S k j∧vv s S k j<4294967296
 | 0,j,h=>hS j h
 | k+1,j,h=>by
  show 0≤rnd (vv s S k) (kC k) (sW s k) j∧rnd (vv s S k) (kC k) (sW s k) j<4294967296;unfold rnd;split
  ·omega
  split
  ·omega
  ·exact vv_u s S hS k (j-1) (by omega)
theorem blkL_eq (s:ByteArray) (S:Nat→Int) (hS:∀j,j<8→0≤S j∧S j<4294967296) :
  blkL [(S 0).toNat,(S 1).toNat,(S 2).toNat,(S 3).toNat,(S 4).toNat,(S 5).toNat,(S 6).toNat,(S 7).toNat] (fun i=>bigN s (4*i) 4)=[(cmp S s 0).toNat,(cmp S s 1).toNat,(cmp S s 2).toNat,(cmp S s 3).toNat,(cmp S s 4).toNat,(cmp S s 5).toNat,(cmp S s 6).toNat,(cmp S s 7).toNat]:=by
 have e:∀j,j<8→(((S j).toNat:Nat):Int)=S j:=fun j h=>by have:=hS j h;omega
 have l:∀j,j<8→(S j).toNat<4294967296:=fun j h=>by have:=hS j h;omega
 have c:∀j,j<8→((vv s S 64 j).toNat+(S j).toNat)%4294967296=(cmp S s j).toNat:=fun j h=>by
  have h1:=vv_u s S hS 64 j h;have h2:=hS j h;unfold cmp;generalize vv s S 64 j=x at h1;generalize S j=y at h2;omega
 unfold blkL;simp only [force_eq];rw [show kN=kN.drop 0 from rfl,goN_eq _ s S 64 0 rfl _ _ _ _ _ _ _ _ _ _ _ _ _ _ _ _ _ _ _ _ _ _ _ _ (e 0 (by decide)) (e 1 (by decide)) (e 2 (by decide)) (e 3 (by decide)) (e 4 (by decide)) (e 5 (by decide)) (e 6 (by decide)) (e 7 (by decide)) (l 0 (by decide)) (l 1 (by decide)) (l 2 (by decide)) (l 3 (by decide)) (l 4 (by decide)) (l 5 (by decide)) (l 6 (by decide)) (l 7 (by decide)) (sW_lo s 0 (by decide)).symm (sW_lo s 1 (by decide)).symm (sW_lo s 2 (by decide)).symm (sW_lo s 3 (by decide)).symm (sW_lo s 4 (by decide)).symm (sW_lo s 5 (by decide)).symm (sW_lo s 6 (by decide)).symm (sW_lo s 7 (by decide)).symm (sW_lo s 8 (by decide)).symm (sW_lo s 9 (by decide)).symm (sW_lo s 10 (by decide)).symm (sW_lo s 11 (by decide)).symm (sW_lo s 12 (by decide)).symm (sW_lo s 13 (by decide)).symm (sW_lo s 14 (by decide)).symm (sW_lo s 15 (by decide)).symm];rw [c 0 (by decide),c 1 (by decide),c 2 (by decide),c 3 (by decide),c 4 (by decide),c 5 (by decide),c 6 (by decide),c 7 (by decide)]
def iN:List Nat:=[1779033703,3144134277,1013904242,2773480762,1359893119,2600822924,528734635,1541459225]
def stL (m:ByteArray):Nat→List Nat
 | 0=>iN
 | k+1=>blkL (stL m k) (fun i=>bigN (m.extract (64*k) (64*k+64)) (4*i) 4)
theorem stN_u (m:ByteArray):∀k j,j<8→0≤stHN m k j∧stHN m k j<4294967296
 | 0,j,h=>by
  have:∀j,j<8→0≤iC j∧iC j<4294967296:=by decide
  exact this j h
 | k+1,j,h=>by
  show 0≤cmp (stHN m k) _ j∧cmp (stHN m k) _ j<4294967296;unfold cmp;omega
theorem stL_eq (m:ByteArray):∀k,stL m k=[(stHN m k 0).toNat,(stHN m k 1).toNat,(stHN m k 2).toNat,(stHN m k 3).toNat,(stHN m k 4).toNat,(stHN m k 5).toNat,(stHN m k 6).toNat,(stHN m k 7).toNat]
 | 0=>by rfl
 | k+1=>by
  show blkL (stL m k) _=_;rw [stL_eq m k,blkL_eq _ _ (stN_u m k)];rfl
def b4N (x:Nat):List Nat:=[x / 16777216%256,x / 65536%256,x / 256%256,x%256]
theorem u8_n (n:Nat):(UInt8.ofNat (n%256)).toNat=n%256:=by
 rw [UInt8.toNat_ofNat'];omega
theorem b4_eq (x:Int) (h:0≤x):b4N x.toNat=(w4 x).map UInt8.toNat:=by
 unfold b4N w4;rw [show x.toNat / 16777216%256=(x / 16777216%256).toNat by omega,show x.toNat / 65536%256=(x / 65536%256).toNat by omega,show x.toNat / 256%256=(x / 256%256).toNat by omega,show x.toNat%256=(x%256).toNat by omega]
 have e:∀z:Int,(UInt8.ofNat (z%256).toNat).toNat=(z%256).toNat:=fun z=>by
  have h:=u8_n (z%256).toNat;rwa [Nat.mod_eq_of_lt (by omega)] at h
 simp only [List.map_cons,List.map_nil,e]
def forceL {α:Type} (f:List Nat→α):List Nat→α
 | []=>f []
 | x :: t=>force x fun n=>forceL (fun r=>f (n :: r)) t
theorem forceL_eq {α:Type}:∀(l:List Nat) (f:List Nat→α),forceL f l=f l
 | [],f=>rfl
 | x :: t,f=>by rw [forceL,force_eq,forceL_eq t]
def nbs (s:ByteArray):List Nat:=s.data.toList.map UInt8.toNat
def bigL (l:List Nat) (o:Nat):Nat:=((l.getD o 0*256+l.getD (o+1) 0)*256+l.getD (o+2) 0)*256+l.getD (o+3) 0
def stF (l:List Nat):Nat→List Nat
 | 0=>iN
 | k+1=>blkL (stF l k) (fun i=>bigL l (64*k+4*i))
theorem byt_list (m:ByteArray) (j:Nat):byt m j=(nbs m).getD j 0:=by
 unfold byt nbs;rw [Array.getD_eq_getD_getElem?,List.getD_eq_getElem?_getD,List.getElem?_map,Array.getElem?_toList];cases m.data[j]? <;> rfl
theorem byt_ext (m:ByteArray) (a b j:Nat) (h:a+j<b):byt (m.extract a b) j=byt m (a+j):=by
 unfold byt;rw [ByteArray.data_extract,Array.getD_eq_getD_getElem?,Array.getD_eq_getD_getElem?,Array.getElem?_extract];split
 ·rfl
 ·rename_i h1;rw [Array.getElem?_eq_none (by omega)]
theorem bigN_list (m:ByteArray) (k i:Nat) (h:i<16):bigN (m.extract (64*k) (64*k+64)) (4*i) 4=bigL (nbs m) (64*k+4*i):=by
 unfold bigL;rw [←byt_list,←byt_list,←byt_list,←byt_list];simp only [bigN];rw [byt_ext _ _ _ _ (by omega),byt_ext _ _ _ _ (by omega),byt_ext _ _ _ _ (by omega),byt_ext _ _ _ _ (by omega)];simp only [Nat.zero_mul,Nat.zero_add,Nat.add_assoc,Nat.add_zero]
theorem blkL_congr {a b c d e f' g' h':Nat} (f g:Nat→Nat) (h:∀i,i<16→f i=g i):blkL [a,b,c,d,e,f',g',h'] f=blkL [a,b,c,d,e,f',g',h'] g:=by
 simp only [blkL];rw [h 0 (by decide),h 1 (by decide),h 2 (by decide),h 3 (by decide),h 4 (by decide),h 5 (by decide),h 6 (by decide),h 7 (by decide),h 8 (by decide),h 9 (by decide),h 10 (by decide),h 11 (by decide),h 12 (by decide),h 13 (by decide),h 14 (by decide),h 15 (by decide)]
theorem stF_eq (m:ByteArray):∀k,stF (nbs m) k=stL m k
 | 0=>rfl
 | k+1=>by
  show blkL (stF _ k) _=blkL (stL m k) _;rw [stF_eq m k,stL_eq m k];exact blkL_congr _ _ fun i hi=>(bigN_list m k i hi).symm
def padN (l:List Nat):List Nat:=force l.length fun n=>l++128 :: (List.replicate (zc n) 0++(List.range 8).map fun j=>n*8 / 256^(7-j)%256)
theorem padN_eq (s:ByteArray):nbs (padV s)=padN (nbs s):=by
 unfold padN padV nbs;rw [force_eq];have e:(s.data.toList.map UInt8.toNat).length=s.size:=by rw [List.length_map,Array.length_toList];rfl
 rw [e];simp only [ByteArray.data_append,Array.toList_append,List.map_append,zb,be8L,List.append_assoc,List.map_replicate,List.map_map];congr 1
 show _=[128]++_;congr 1
 congr 1
 refine List.map_congr_left fun j _=>?_
 exact u8_n _
def sumN (l:List Nat):List Nat:=forceL (fun p=>(stF p (p.length / 64)).flatMap b4N) (padN l)
theorem sumN_eq (s:ByteArray):nbs (sumV s)=sumN (nbs s):=by
 unfold sumN;rw [forceL_eq,←padN_eq,stF_eq,show (nbs (padV s)).length=(padV s).size by unfold nbs;rw [List.length_map,Array.length_toList];rfl,stL_eq];have h:=fun j hj=>(stN_u (padV s) ((padV s).size / 64) j hj).1
 simp only [List.flatMap_cons,List.flatMap_nil,List.append_nil];rw [b4_eq _ (h 0 (by decide)),b4_eq _ (h 1 (by decide)),b4_eq _ (h 2 (by decide)),b4_eq _ (h 3 (by decide)),b4_eq _ (h 4 (by decide)),b4_eq _ (h 5 (by decide)),b4_eq _ (h 6 (by decide)),b4_eq _ (h 7 (by decide))];unfold nbs sumV;simp only [wL,List.nil_append,List.append_assoc,List.map_append]
theorem nbs_app (a b:ByteArray):nbs (a++b)=nbs a++nbs b:=by
 unfold nbs;rw [ByteArray.data_append,Array.toList_append,List.map_append]
def macN (l m s:List Nat):List Nat:=forceL (fun d=>sumN (m++d)) (sumN (l++s))
theorem macN_eq (key s:ByteArray) (h:key.size≤64):nbs (macV key s)=macN (nbs (xorV key 54)) (nbs (xorV key 92)) (nbs s):=by
 unfold macN macV mac1;rw [if_neg (by omega),forceL_eq,sumN_eq,nbs_app,sumN_eq,nbs_app]
end
section
/- The coins of the seed 'x' below 23,at the places 0 to 5. -/
open Go.RowKit Go.Shelf
def sdX:ByteArray:=⟨#[120]⟩
def inX:List Nat:=78 :: List.replicate 63 54
def outX:List Nat:=36 :: List.replicate 63 92
theorem inX_eq:nbs (xorV sdX 54)=inX:=by kernel_rfl
theorem outX_eq:nbs (xorV sdX 92)=outX:=by kernel_rfl
theorem u8_small (n:Nat) (h:n<256):(UInt8.ofNat n).toNat=n:=by
 have e:=u8_n n;rw [Nat.mod_eq_of_lt h] at e;exact e
theorem nm_X (p a:Nat) (hp:p<10) (ha:a<10):nbs (nmV p a 0)=[48+p,46,48+a,46,48]:=by
 have hd:∀n,n<10→nbs (decV n)=[48+n]:=fun n h=>by
  unfold decV nbs;rw [Lib.decDigits,dif_pos h];show [(UInt8.ofNat (48+n)).toNat]=[48+n];rw [u8_small _ (by omega)]
 unfold nmV;rw [nbs_app,nbs_app,nbs_app,nbs_app,hd p hp,hd a ha,hd 0 (by decide)];rfl
theorem attX (p a v:Nat) (hp:p<10) (ha:a<10) (hv:(macN inX outX [48+p,46,48+a,46,48]).getD 0 0%32=v) (h0:v≠0):attN sdX p a 5=v:=by
 have hb:byt (blV sdX p a 1) 0%2^5=v:=by
  have e:blV sdX p a 1=(⟨#[]⟩:ByteArray)++macV sdX (nmV p a 0):=rfl;rw [e,byt_list,nbs_app,macN_eq _ _ (by decide),nm_X p a hp ha,inX_eq,outX_eq,show nbs (⟨#[]⟩:ByteArray)=[] from rfl,List.nil_append];exact hv
 have hvl:v<256:=by
  have:=Nat.mod_lt (byt (blV sdX p a 1) 0) (show 0<2^5 by decide);rw [hb] at this;omega
 show numb (canonV ((⟨#[UInt8.ofNat (byt (blV sdX p a 1) 0%2^5)]⟩:ByteArray)++(blV sdX p a 1).extract 1 1))=v;rw [hb];generalize blV sdX p a 1=z;obtain ⟨s,hs⟩:∃s:ByteArray,s=(⟨#[UInt8.ofNat v]⟩:ByteArray)++z.extract 1 1:=⟨_,rfl⟩
 have hd:s.data.toList=[UInt8.ofNat v]:=by
  rw [hs,ByteArray.data_append,Array.toList_append,ByteArray.data_extract,Array.toList_extract,List.extract_eq_take_drop];simp
 rw [←hs];unfold canonV
 rw [hd,List.dropWhile_cons,if_neg (by
  intro e;have e2:=eq_of_beq e;have e3:=u8_small v hvl;rw [e2] at e3;exact h0 e3.symm)]
 show 0*256+(UInt8.ofNat v).toNat=v;rw [u8_small v hvl];omega
def tpX:Tp:=⟨[],sdX,0⟩
theorem coin_ok (att:Att) (T:Tp) (n a:Nat) (hg:T.good=true) (hn:n≠0) (hv:¬ T.pos.toNat<T.vals.length) (hs:¬ (T.seed.size=0∨T.pos=2147483647)) (ha:a<256) (h:att T.seed T.pos.toNat a (nb n)<n):(coin att T n).1=0:=by
 unfold coin;rw [hg,if_neg (by decide),if_neg hn];unfold coinD;rw [if_neg hv,if_neg hs];unfold coinS;split
 ·rfl
 ·rename_i hx;exact absurd (decide_eq_true h) (List.find?_eq_none.1 hx a (List.mem_range.2 ha))
theorem nb23:nb 23=5:=by kernel_rfl
theorem prX (j a v:Nat) (hj:j<10) (ha:a<10) (hv:attN sdX j a 5=v) (h:v<23):(prC attN 23 tpX j).1=0:=by
 have hg:(tpX.on j).good=true:=by
  show (true&&(decide (0≤(0:Int)+(j:Int))&&decide ((0:Int)+(j:Int)≤2147483647)))=true;rw [decide_eq_true (by omega),decide_eq_true (by omega)];rfl
 have e:(tpX.on j).pos.toNat=j:=by show ((0:Int)+(j:Int)).toNat=j;omega
 have e2:(tpX.on j).seed=sdX:=rfl;have e3:(tpX.on j).vals=[]:=rfl;have e4:sdX.size=1:=rfl;have e5:(tpX.on j).pos=(0:Int)+(j:Int):=rfl;refine coin_ok attN (tpX.on j) 23 a hg (by decide) ?_ ?_ (by omega) ?_
 ·rw [e3];exact Nat.not_lt_zero _
 ·rw [e2,e4,e5];omega
 ·rw [e,e2,nb23,hv];exact h
theorem attX0:attN sdX 0 0 5=12:=attX 0 0 12 (by decide) (by decide) (by kernel_rfl) (by decide)
theorem attX1:attN sdX 1 2 5=18:=attX 1 2 18 (by decide) (by decide) (by kernel_rfl) (by decide)
theorem attX2:attN sdX 2 0 5=9:=attX 2 0 9 (by decide) (by decide) (by kernel_rfl) (by decide)
theorem attX3:attN sdX 3 1 5=16:=attX 3 1 16 (by decide) (by decide) (by kernel_rfl) (by decide)
theorem attX4:attN sdX 4 0 5=18:=attX 4 0 18 (by decide) (by decide) (by kernel_rfl) (by decide)
theorem attX5:attN sdX 5 0 5=10:=attX 5 0 10 (by decide) (by decide) (by kernel_rfl) (by decide)
theorem prX_all (j:Nat) (h:j<6):(prC attN 23 tpX j).1=0:=by
 rcases (by omega:j=0∨j=1∨j=2∨j=3∨j=4∨j=5) with rfl | rfl | rfl | rfl | rfl | rfl
 ·exact prX 0 0 12 (by decide) (by decide) attX0 (by decide)
 ·exact prX 1 2 18 (by decide) (by decide) attX1 (by decide)
 ·exact prX 2 0 9 (by decide) (by decide) attX2 (by decide)
 ·exact prX 3 1 16 (by decide) (by decide) attX3 (by decide)
 ·exact prX 4 0 18 (by decide) (by decide) attX4 (by decide)
 ·exact prX 5 0 10 (by decide) (by decide) attX5 (by decide)
end
section
open Go.RowKit Go.Shelf
theorem tpX_good:tpX.good=true:=by
 show (true&&(decide (0≤(0:Int))&&decide ((0:Int)≤2147483647)))=true;decide
theorem tpX_ok:tpX.Ok:=⟨by show (0:Nat)≤100;omega,fun x hx=>(by cases hx),by show (1:Nat)≤100;omega⟩
theorem rgX (lo hi:Int) (x d o n:Nat) (hx:x<23) (hr:rdyE (E 47) (E 23) (E 4) (E 9) lo hi=(n,0)) (hn0:n≠0) (hd:dstE 23 lo hi x=(d,true)) (ho:(hi-lo).toNat-d=o) (hn:n+n≤6) :
  rgR attN (E 47) (E 23) (E 4) (E 9) lo hi false (E x) false (E 0) tpX=⟨0,prP attN 47 4 9 23 (dgs d n) tpX n++prP attN 47 4 9 23 (dgs o n) (tpX.on n) n,prO attN 23 (dgs d n) tpX n++prO attN 23 (dgs o n) (tpX.on n) n,tpX.on (n+n)⟩:=by
 have h128:(23:Nat)<256^128:=Nat.lt_of_lt_of_le (show 23<256^1 by decide) (Nat.pow_le_pow_right (by decide) (by decide))
 have hv:vlO ⟨false,E x,false,E 0⟩=true:=by
  show (ivB false (E x)&&ivB false (E 0))=true;rw [ivB_E x (by omega),ivB_E 0 (by omega)];rfl
 rw [rgR_E (by rw [hv,vl4_E (by decide) (by decide) (by decide) (by decide)];rfl) tpX_good (by rw [hr]),hr,hd,if_neg (by rw [decide_eq_false (show ¬ 23≤x by omega)];decide),if_neg hn0];have e:othE lo hi (d,true)=o:=by unfold othE;rw [if_pos rfl];exact ho
 rw [e]
 exact rgS_good (fun j hj=>prX_all j (by omega)) (fun j hj=>by
  have:=prX_all (n+j) (by omega);unfold prC at this ⊢;rwa [Tp.on_on])
theorem rdyX (lo hi:Int) (n:Nat) (h:widE lo hi=(n,0)):rdyE (E 47) (E 23) (E 4) (E 9) lo hi=(n,0):=by
 unfold rdyE;rw [pedV_E (by decide) (by decide) (by decide) (by decide),show pedE 47 23 4 9=0 by kernel_rfl,if_neg (by decide),if_neg (by rw [empty_E];decide),h]
def exP1:PrR:=rgR attN (E 47) (E 23) (E 4) (E 9) 3 8 false (E 5) false (E 0) tpX
def exP2:PrR:=rgR attN (E 47) (E 23) (E 4) (E 9) (-2) 1 false (E 22) false (E 0) tpX
theorem exP_val {T:Tp} {d o n:Nat} (M:List (Nat × Nat)) (hM:M=prO attN 23 (dgs d n) tpX n++prO attN 23 (dgs o n) (tpX.on n) n) (hn:n+n≤6) (hd:d<2^n) (ho:o<2^n):M.length=n+n∧valE ((M.take n).map nop)=(d,0)∧valE ((M.drop n).map nop)=(o,0):=by
 have h1:(prO attN 23 (dgs d n) tpX n).length=n:=prO_len2 _ _ _ _ _;have h2:(prO attN 23 (dgs o n) (tpX.on n) n).length=n:=prO_len2 _ _ _ _ _;rw [hM];refine ⟨by rw [List.length_append,h1,h2],?_,?_⟩
 ·rw [List.take_left' h1];exact valE_prO attN 23 d n tpX (by decide) (by omega) hd (fun j hj=>prX_all j (by omega))
 ·rw [List.drop_left' h1]
  exact valE_prO attN 23 o n (tpX.on n) (by decide) (by omega) ho (fun j hj=>by
   have:=prX_all (n+j) (by omega);unfold prC at this ⊢;rwa [Tp.on_on])
theorem exP1_ok:exP1.err=0∧exP1.ops.length=6∧valE ((exP1.ops.take 3).map nop)=(2,0)∧valE ((exP1.ops.drop 3).map nop)=(3,0):=by
 have h:=rgX 3 8 5 2 3 3 (by decide) (rdyX 3 8 3 (by kernel_rfl)) (by decide) (by kernel_rfl) (by kernel_rfl) (by decide);have h2:=exP_val (T:=tpX) (d:=2) (o:=3) (n:=3) _ rfl (by decide) (by decide) (by decide);unfold exP1;rw [h];exact ⟨rfl,h2⟩
theorem exP2_ok:exP2.err=0∧exP2.ops.length=4∧valE ((exP2.ops.take 2).map nop)=(1,0):=by
 have h:=rgX (-2) 1 22 1 2 2 (by decide) (rdyX (-2) 1 2 (by kernel_rfl)) (by decide) (by kernel_rfl) (by kernel_rfl) (by decide);have h2:=exP_val (T:=tpX) (d:=1) (o:=2) (n:=2) _ rfl (by decide) (by decide) (by decide);unfold exP2;rw [h];exact ⟨rfl,h2.1,h2.2.1⟩
theorem prO_size (att:Att) (q v n:Nat) (T:Tp) (hq:q<256^8) (hC:∀j,j<n→(prC att q T j).1=0):∀y∈(prO att q (dgs v n) T n).map nop,y.va.size≤100∧y.ra.size≤100:=by
 intro x hx;obtain ⟨y,hy,rfl⟩:=List.mem_map.1 hx;unfold prO at hy;obtain ⟨j,hj,rfl⟩:=List.mem_map.1 hy;have h1:=dgs_lt v n j;have h2:(prC att q T j).2<q:=coin_ltq (hC j (List.mem_range.1 hj));constructor
 ·exact Nat.le_trans ((E_size_le _ 1).2 (Nat.lt_of_lt_of_le h1 (by decide))) (by decide)
 ·exact Nat.le_trans ((E_size_le _ 8).2 (Nat.lt_trans h2 hq)) (by decide)
theorem exP_size (M:List (Nat × Nat)) (h:M=exP1.ops∨M=exP2.ops):∀y∈M.map nop,y.va.size≤100∧y.ra.size≤100:=by
 have hs:∀d o n,n+n≤6→∀y∈(prO attN 23 (dgs d n) tpX n++prO attN 23 (dgs o n) (tpX.on n) n).map nop,y.va.size≤100∧y.ra.size≤100:=by
  intro d o n hn y hy;rw [List.map_append,List.mem_append] at hy;rcases hy with hy | hy
  ·exact prO_size attN 23 d n tpX (by decide) (fun j hj=>prX_all j (by omega)) y hy
  ·exact prO_size attN 23 o n (tpX.on n) (by decide) (fun j hj=>by
    have:=prX_all (n+j) (by omega);unfold prC at this ⊢;rwa [Tp.on_on]) y hy
 rcases h with rfl | rfl
 ·have h:=rgX 3 8 5 2 3 3 (by decide) (rdyX 3 8 3 (by kernel_rfl)) (by decide) (by kernel_rfl) (by kernel_rfl) (by decide);unfold exP1;rw [h];exact hs 2 3 3 (by decide)
 ·have h:=rgX (-2) 1 22 1 2 2 (by decide) (rdyX (-2) 1 2 (by kernel_rfl)) (by decide) (by kernel_rfl) (by kernel_rfl) (by decide);unfold exP2;rw [h];exact hs 1 2 2 (by decide)
end
end Go.Proofs.YtdoacbdkbbpamaaGreatDoor
