/- dominoref14.Reduce,dominoref14.Random. -/
import Derived.Test.YtdoacbdkbbpamaaGreatDoorTp24
import Derived.Test.YtdoacbdkbbpamaaGreatDoorDivN
import Derived.Test.YtdoacbdkbbpamaaGreatDoorShelf
import Derived.Test.YtdoacbdkbbpamaaGreatDoorFs24
import Derived.Test.YtdoacbdkbbpamaaGreatDoorRc1
import Derived.Test.YtdoacbdkbbpamaaGreatDoorCmt2
set_option linter.unusedVariables false
set_option linter.unusedSimpArgs false
set_option maxRecDepth 100000
set_option maxHeartbeats 16000000
namespace Go.Proofs.YtdoacbdkbbpamaaGreatDoor
section
/- rangeproof.Width,ref24.Width: the number of binary digits of a range's length. -/
open Go.RowKit Go.Shelf
def widE (lo hi:Int):Nat × Nat:=if hi<lo then (0,2) else if 32<nb (hi-lo).toNat then (0,2) else (nb (hi-lo).toNat,0)
theorem bitLen_nb:∀(f x:Nat),x<2^f→x<2^64→Lib.bitLen x=nb x
 | 0,x,h,h2=>by
  obtain rfl:x=0:=by simpa using h
  rfl
 | f+1,x,h,h2=>by
  by_cases h0:x=0
  ·subst h0;rfl
  ·rw [Lib.bitLen_half x h0 h2,nb_half x (by omega),bitLen_nb f (x / 2) (by rw [Nat.pow_succ] at h;omega) (by omega)]
theorem nb_le64 (x:Nat) (h:x<2^64):nb x≤64:=by
 by_cases h0:x=0
 ·subst h0;decide
 ·by_cases h1:nb x≤64
  ·exact h1
  ·have h2:=nb_low x h0;have h3:2^64≤2^(nb x-1):=Nat.pow_le_pow_right (by decide) (by omega);omega
theorem wrapU_sub {lo hi:Int} {d:Nat} (hd:(d:Int)=hi-lo) (h:d<2^64):IntKind.wrap .u64 (IntKind.wrap .u64 hi-IntKind.wrap .u64 lo)=(d:Int):=by
 unfold IntKind.wrap;simp [IntKind.bits,IntKind.signed];omega
theorem width_c (lo hi:Int) (w:World) (h1:-9223372036854775808≤lo) (h2:lo≤9223372036854775807) (h3:-9223372036854775808≤hi) (h4:hi≤9223372036854775807) :
  Calls Tryz.prog 7 #[.int .i64 lo,.int .i64 hi] w fun e w'=>e=.returned (.tuple #[.int .i64 ((widE lo hi).1:Int),.int .i64 ((widE lo hi).2:Int)])∧Below w.heap.size w w':=by
 obtain ⟨t1,ht1⟩:∃t:Bool,t=decide (hi<lo):=⟨_,rfl⟩;have HT1:=Lib.hid ht1;have ht1':=ht1.symm;clear ht1;go_enter Tryz.func7,Tryz.ntmps7
 cases t1
 case true =>
  go_wp2;refine bodyPost_ret (v:=.tuple #[.int .i64 0,.int .i64 2]) ?_ rfl ?_
  ·simp [results,Tryz.results7,go_sem]
  ·rw [widE,if_pos (of_decide_eq_true HT1.out.symm)];exact ⟨rfl,Below.refl _ _⟩
 case false =>
  have hle:lo≤hi:=by have:=of_decide_eq_false HT1.out.symm;omega
  obtain ⟨d,hd⟩:∃d:Nat,(d:Int)=hi-lo:=⟨(hi-lo).toNat,by omega⟩;have hd64:d<2^64:=by omega
  have HL:Hid (∀w:World,Calls Tryz.prog 26 #[.int .u64 (IntKind.wrap .u64 (IntKind.wrap .u64 hi-IntKind.wrap .u64 lo))] w fun e w'=>e=.returned (.int .i64 (nb d:Int))∧w'=w):=fun w=>by
   have h:=Tryz.bits_Len64 (d:Int) w (by omega) (by omega);rw [Int.toNat_natCast,bitLen_nb 64 d hd64 hd64] at h;rw [wrapU_sub hd hd64];exact h
  have hw:widE lo hi=if 32<nb d then (0,2) else (nb d,0):=by rw [widE,if_neg (by omega),show (hi-lo).toNat=d by omega]
  have HW:=Lib.hid hw;clear hw hd hd64;obtain ⟨n,hn⟩:∃n,n=nb d:=⟨_,rfl⟩;rw [←hn] at HL HW;clear hn;go_wp2_with fail
  refine (HL.out _).mono ?_;rintro e w2 ⟨rfl,rfl⟩;obtain ⟨t2,ht2⟩:∃t:Bool,t=decide ((32:Int)<(n:Int)):=⟨_,rfl⟩;have HT2:=Lib.hid ht2;have ht2':=ht2.symm;clear ht2;cases t2
  case true =>
   go_wp2;refine bodyPost_ret (v:=.tuple #[.int .i64 0,.int .i64 2]) ?_ rfl ?_
   ·simp [results,Tryz.results7,go_sem]
   ·rw [HW.out,if_pos (by have:=of_decide_eq_true HT2.out.symm;omega)];exact ⟨rfl,Below.refl _ _⟩
  case false =>
   go_wp2;refine bodyPost_ret (v:=.tuple #[.int .i64 (n:Int),.int .i64 0]) ?_ rfl ?_
   ·simp [results,Tryz.results7,go_sem]
   ·rw [HW.out,if_neg (by have:=of_decide_eq_false HT2.out.symm;omega)];exact ⟨rfl,Below.refl _ _⟩
theorem rwidth_c (lo hi:Int) (w:World) (h1:-9223372036854775808≤lo) (h2:lo≤9223372036854775807) (h3:-9223372036854775808≤hi) (h4:hi≤9223372036854775807) :
  Calls Tryz.prog 8 #[.int .i64 lo,.int .i64 hi] w fun e w'=>e=.returned (.tuple #[.int .i64 ((widE lo hi).1:Int),.int .i64 ((widE lo hi).2:Int)])∧Below w.heap.size w w':=by
 obtain ⟨t1,ht1⟩:∃t:Bool,t=decide (hi<lo):=⟨_,rfl⟩;have HT1:=Lib.hid ht1;have ht1':=ht1.symm;clear ht1;go_enter Tryz.func8,Tryz.ntmps8
 cases t1
 case true =>
  go_wp2;refine bodyPost_ret (v:=.tuple #[.int .i64 0,.int .i64 2]) ?_ rfl ?_
  ·simp [results,Tryz.results8,go_sem]
  ·rw [widE,if_pos (of_decide_eq_true HT1.out.symm)];exact ⟨rfl,Below.refl _ _⟩
 case false =>
  have hle:lo≤hi:=by have:=of_decide_eq_false HT1.out.symm;omega
  obtain ⟨d,hd⟩:∃d:Nat,(d:Int)=hi-lo:=⟨(hi-lo).toNat,by omega⟩;have hd64:d<2^64:=by omega
  have hw:widE lo hi=if 32<nb d then (0,2) else (nb d,0):=by rw [widE,if_neg (by omega),show (hi-lo).toNat=d by omega]
  have HW:=Lib.hid hw;have HWR:=Lib.hid (wrapU_sub hd hd64);have HD:Hid (d<2^64):=hd64;have HN:Hid (nb d≤64):=nb_le64 d hd64;clear hw hd hd64 h1 h2 h3 h4;go_upto_region 5 with fail
  rw [HWR.out];clear HWR;go_loopw [6,7] (fun u v wr=>∃x k:Nat,u=.int .u64 (x:Int)∧v=.int .i64 (k:Int)∧x<2^64∧k+nb x=nb d∧wr=w) (fun u _ _=>(intOf u).toNat)
  case atStart=>exact ⟨d,0,rfl,rfl,HD.out,by omega,rfl⟩
  case round =>
   obtain ⟨x,k,rfl,rfl,hx,hk,rfl⟩:=hrel;have hn:=HN.out;by_cases h0:x=0
   ·subst h0;have hkd:k=nb d:=by rw [←hk,nb_zero];rfl
    obtain ⟨t2,ht2⟩:∃t:Bool,t=decide ((32:Int)<(k:Int)):=⟨_,rfl⟩;have HT2:=Lib.hid ht2;have HK:=Lib.hid hkd;have ht2':=ht2.symm;clear ht2 hkd hk hx hn;cases t2
    case true =>
     go_wp2;refine bodyPost_ret (v:=.tuple #[.int .i64 0,.int .i64 2]) ?_ rfl ?_
     ·simp [results,Tryz.results8,go_sem]
     ·rw [HW.out,if_pos (by have:=of_decide_eq_true HT2.out.symm;have:=HK.out;omega)];exact ⟨rfl,Below.refl _ _⟩
    case false =>
     go_wp2;refine bodyPost_ret (v:=.tuple #[.int .i64 (k:Int),.int .i64 0]) ?_ rfl ?_
     ·simp [results,Tryz.results8,go_sem]
     ·rw [HW.out,if_neg (by have:=of_decide_eq_false HT2.out.symm;have:=HK.out;omega),←HK.out];exact ⟨rfl,Below.refl _ _⟩
   ·have hx1:(0:Int)<(x:Int):=by omega
    have HH:Hid (nb x=1+nb (x / 2)):=nb_half x (by omega);go_wp2;go_roundw
    case rel =>
     have:=HH.out;exact ⟨x / 2,k+1,by go_num,by go_num,by omega,by omega,by trivial⟩
    case measure=>simp [intOf];omega
end
section
/- What holds in the region of dominoref23.Split that calls Random: two boxes and a tape. -/
open Go.RowKit Go.Shelf
def fS2r (B:Nat) (cs s1 s2 sd:ByteArray) (pos:Int) (ke tm:Nat) (vals:List ByteArray) (d7 d8 d11 d13 d14 d16 d17:Bool) (t:Array Value) (w:World):Prop:=
 (d13=true→∃g,t[17]?=some (.pointer (some ⟨g,0,none⟩))∧B≤g∧Blk w g 39 (if d16=true then [.bool false,.string s1,.bool false,.string s2] else [.bool false,.string ⟨#[]⟩,.bool false,.string ⟨#[]⟩])) ∧
 (d14=true→∃g,t[18]?=some (.pointer (some ⟨g,0,none⟩))∧B≤g∧(d17=false→Blk w g 42 [.slice none 0 0,.string ⟨#[]⟩,.int .i64 0])) ∧
 (d7=true→∃ta tc,t[62]?=some (.tuple #[.string cs,.agg #[.bool false,.string s1,.bool false,.string s2],.agg #[.slice ta tm tc,.string sd,.int .i64 pos],.int .i64 (ke:Int)])∧(d8=true→t[56]?=some (.tuple #[.string cs,.agg #[.bool false,.string s1,.bool false,.string s2],.agg #[.slice ta tm tc,.string sd,.int .i64 pos],.int .i64 (ke:Int)]))∧(d11=true→t[65]?=some (.agg #[.slice ta tm tc,.string sd,.int .i64 pos]))∧SsAt w (.slice ta tm tc) vals∧(∀b,b<B→FarS (.slice ta tm tc) b) ∧
  (d13=true→∀g,t[17]?=some (.pointer (some ⟨g,0,none⟩))→FarS (.slice ta tm tc) g)∧(d14=true→∀g,t[18]?=some (.pointer (some ⟨g,0,none⟩))→FarS (.slice ta tm tc) g)∧(d17=true→∀g,t[18]?=some (.pointer (some ⟨g,0,none⟩))→Blk w g 42 [.slice ta tm tc,.string sd,.int .i64 pos]))
theorem fS2r_st {B:Nat} {cs s1 s2 sd:ByteArray} {pos:Int} {ke tm:Nat} {vals:List ByteArray} {d7 d8 d11 d13 d14 d16 d17:Bool} {t:Array Value} {w w':World} (hb:Below w.heap.size w w') (h:fS2r B cs s1 s2 sd pos ke tm vals d7 d8 d11 d13 d14 d16 d17 t w):fS2r B cs s1 s2 sd pos ke tm vals d7 d8 d11 d13 d14 d16 d17 t w':=by
 obtain ⟨h1,h2,h3⟩:=h;refine ⟨fun k=>?_,fun k=>?_,fun k=>?_⟩
 ·obtain ⟨g,a,b,c⟩:=h1 k;exact ⟨g,a,b,c.after hb⟩
 ·obtain ⟨g,a,b,c⟩:=h2 k;exact ⟨g,a,b,fun e=>(c e).after hb⟩
 ·obtain ⟨ta,tc,a,b,c,d,e,f,g,i⟩:=h3 k;exact ⟨ta,tc,a,b,c,SsAt.after d hb,e,f,g,fun k g hg=>(i k g hg).after hb⟩
theorem fS2r_put {B:Nat} {cs s1 s2 sd:ByteArray} {pos:Int} {ke tm:Nat} {vals:List ByteArray} {d7 d8 d11 d13 d14 d16 d17:Bool} {t:Array Value} {w:World} {d:Nat} {v:Value} (hd:d ∉ [17,18,56,62,65]) (h:fS2r B cs s1 s2 sd pos ke tm vals d7 d8 d11 d13 d14 d16 d17 t w):fS2r B cs s1 s2 sd pos ke tm vals d7 d8 d11 d13 d14 d16 d17 (t.setIfInBounds d v) w:=by
 simp only [List.mem_cons,List.not_mem_nil,or_false,not_or] at hd;unfold fS2r at h ⊢;rw [Array.getElem?_setIfInBounds_ne hd.1,Array.getElem?_setIfInBounds_ne hd.2.1,Array.getElem?_setIfInBounds_ne hd.2.2.1,Array.getElem?_setIfInBounds_ne hd.2.2.2.1,Array.getElem?_setIfInBounds_ne hd.2.2.2.2];exact h
theorem fS2r_call {B:Nat} {cs s1 s2 sd:ByteArray} {pos:Int} {ke tm:Nat} {vals:List ByteArray} {d13 d14 d16:Bool} {t:Array Value} {w w':World} {ta:Option Addr} {tc:Nat} (hs:62<t.size) (hB:B≤w.heap.size) (hb:Below w.heap.size w w') (hU:SsAt w' (.slice ta tm tc) vals) (hf:∀b,b<w.heap.size→FarS (.slice ta tm tc) b)
  (h:fS2r B cs s1 s2 sd pos ke tm vals false false false d13 d14 d16 false t w):fS2r B cs s1 s2 sd pos ke tm vals true false false d13 d14 d16 false (t.setIfInBounds 62 (.tuple #[.string cs,.agg #[.bool false,.string s1,.bool false,.string s2],.agg #[.slice ta tm tc,.string sd,.int .i64 pos],.int .i64 (ke:Int)])) w':=by
 have h':=fS2r_st hb h;obtain ⟨k1,k2,_⟩:=h;obtain ⟨h1,h2,_⟩:=h';unfold fS2r;rw [Array.getElem?_setIfInBounds_ne (show 62≠17 by decide),Array.getElem?_setIfInBounds_ne (show 62≠18 by decide),Array.getElem?_setIfInBounds_self_of_lt hs];refine ⟨h1,h2,fun _=>⟨ta,tc,rfl,fun k=>(by cases k),fun k=>(by cases k),hU,fun b hb'=>hf b (by omega),fun k g hg=>?_,fun k g hg=>?_,fun k=>(by cases k)⟩⟩
 ·obtain ⟨g',a,_,c⟩:=k1 k;have e:=ptr_inj (hg.symm.trans a);subst e;exact hf _ c.lt
 ·obtain ⟨g',a,_,c⟩:=k2 k;have e:=ptr_inj (hg.symm.trans a);subst e;exact hf _ (c rfl).lt
theorem fS2r_mv {B:Nat} {cs s1 s2 sd:ByteArray} {pos:Int} {ke tm:Nat} {vals:List ByteArray} {d13 d14 d16:Bool} {t:Array Value} {w:World} {v:Value} (hs:56<t.size) (hv:t[62]?=some v) (h:fS2r B cs s1 s2 sd pos ke tm vals true false false d13 d14 d16 false t w):fS2r B cs s1 s2 sd pos ke tm vals true true false d13 d14 d16 false (t.setIfInBounds 56 v) w:=by
 obtain ⟨h1,h2,h3⟩:=h;unfold fS2r;rw [Array.getElem?_setIfInBounds_ne (show 56≠17 by decide),Array.getElem?_setIfInBounds_ne (show 56≠18 by decide),Array.getElem?_setIfInBounds_ne (show 56≠62 by decide),Array.getElem?_setIfInBounds_self_of_lt hs];refine ⟨h1,h2,fun k=>?_⟩;obtain ⟨ta,tc,a,b,c,d,e,f,g,i⟩:=h3 k;exact ⟨ta,tc,a,fun _=>hv.symm.trans a,fun k=>(by cases k),d,e,f,g,i⟩
theorem fS2r_ex {B:Nat} {cs s1 s2 sd:ByteArray} {pos:Int} {ke tm:Nat} {vals:List ByteArray} {d13 d14 d16:Bool} {t:Array Value} {w:World} {x y z u:Value} (hs:65<t.size) (hv:t[56]?=some (.tuple #[x,y,z,u])) (h:fS2r B cs s1 s2 sd pos ke tm vals true true false d13 d14 d16 false t w):fS2r B cs s1 s2 sd pos ke tm vals true true true d13 d14 d16 false (t.setIfInBounds 65 z) w:=by
 obtain ⟨h1,h2,h3⟩:=h;unfold fS2r;rw [Array.getElem?_setIfInBounds_ne (show 65≠17 by decide),Array.getElem?_setIfInBounds_ne (show 65≠18 by decide),Array.getElem?_setIfInBounds_ne (show 65≠62 by decide),Array.getElem?_setIfInBounds_ne (show 65≠56 by decide),Array.getElem?_setIfInBounds_self_of_lt hs];refine ⟨h1,h2,fun k=>?_⟩;obtain ⟨ta,tc,a,b,c,d,e,f,g,i⟩:=h3 k;refine ⟨ta,tc,a,b,fun _=>?_,d,e,f,g,i⟩;have e1:=hv.symm.trans (b rfl);injection e1 with e1
 injection e1 with e1
 have e2:=congrArg (fun (a:Array Value)=>a[2]?) e1;simpa using e2
theorem fS2r_new1 {B:Nat} {cs s1 s2 sd:ByteArray} {pos:Int} {ke tm:Nat} {vals:List ByteArray} {d7 d8 d11 d14 d17:Bool} {t:Array Value} {w:World} (hs:17<t.size) (hB:B≤w.heap.size) (h:fS2r B cs s1 s2 sd pos ke tm vals d7 d8 d11 false d14 false d17 t w) :
  fS2r B cs s1 s2 sd pos ke tm vals d7 d8 d11 true d14 false d17 (t.setIfInBounds 17 (.pointer (some ⟨w.heap.size,0,none⟩))) (w.alloc (.cells #[.bool false,.string ⟨#[]⟩,.bool false,.string ⟨#[]⟩] 39)):=by
 have h':=fS2r_st (b1 w (.cells #[.bool false,.string ⟨#[]⟩,.bool false,.string ⟨#[]⟩] 39)) h;obtain ⟨_,_,k3⟩:=h;obtain ⟨_,h2,h3⟩:=h';unfold fS2r;rw [Array.getElem?_setIfInBounds_self_of_lt hs,Array.getElem?_setIfInBounds_ne (show 17≠18 by decide),Array.getElem?_setIfInBounds_ne (show 17≠62 by decide),Array.getElem?_setIfInBounds_ne (show 17≠56 by decide),Array.getElem?_setIfInBounds_ne (show 17≠65 by decide)];refine ⟨fun _=>⟨w.heap.size,rfl,hB,Blk.new _ _ _⟩,h2,fun k=>?_⟩;obtain ⟨ta,tc,a,b,c,d,e,f,g,i⟩:=h3 k;obtain ⟨ta',tc',a',_,_,d',_⟩:=k3 k;have e9:=a.symm.trans a';refine ⟨ta,tc,a,b,c,d,e,fun _ g9 hg=>?_,g,i⟩;have e1:=ptr_inj hg;subst e1;simp only [Option.some.injEq,Value.tuple.injEq,Array.mk.injEq,List.cons.injEq,and_true,true_and,Value.agg.injEq,Value.slice.injEq] at e9;obtain ⟨rfl,rfl⟩:=e9;exact ss_far d' (Nat.le_refl _)
theorem fS2r_new2 {B:Nat} {cs s1 s2 sd:ByteArray} {pos:Int} {ke tm:Nat} {vals:List ByteArray} {d7 d8 d11 d13 d16:Bool} {t:Array Value} {w:World} (hs:18<t.size) (hB:B≤w.heap.size) (h:fS2r B cs s1 s2 sd pos ke tm vals d7 d8 d11 d13 false d16 false t w) :
  fS2r B cs s1 s2 sd pos ke tm vals d7 d8 d11 d13 true d16 false (t.setIfInBounds 18 (.pointer (some ⟨w.heap.size,0,none⟩))) (w.alloc (.cells #[.slice none 0 0,.string ⟨#[]⟩,.int .i64 0] 42)):=by
 have h':=fS2r_st (b1 w (.cells #[.slice none 0 0,.string ⟨#[]⟩,.int .i64 0] 42)) h;obtain ⟨_,_,k3⟩:=h;obtain ⟨h1,_,h3⟩:=h';unfold fS2r;rw [Array.getElem?_setIfInBounds_self_of_lt hs,Array.getElem?_setIfInBounds_ne (show 18≠17 by decide),Array.getElem?_setIfInBounds_ne (show 18≠62 by decide),Array.getElem?_setIfInBounds_ne (show 18≠56 by decide),Array.getElem?_setIfInBounds_ne (show 18≠65 by decide)];refine ⟨h1,fun _=>⟨w.heap.size,rfl,hB,fun _=>Blk.new _ _ _⟩,fun k=>?_⟩;obtain ⟨ta,tc,a,b,c,d,e,f,g,i⟩:=h3 k;obtain ⟨ta',tc',a',_,_,d',_⟩:=k3 k;have e9:=a.symm.trans a';refine ⟨ta,tc,a,b,c,d,e,f,fun _ g9 hg=>?_,fun k=>(by cases k)⟩;have e1:=ptr_inj hg;subst e1;simp only [Option.some.injEq,Value.tuple.injEq,Array.mk.injEq,List.cons.injEq,and_true,true_and,Value.agg.injEq,Value.slice.injEq] at e9;obtain ⟨rfl,rfl⟩:=e9;exact ss_far d' (Nat.le_refl _)
theorem fS2r_set1 {B:Nat} {cs s1 s2 sd:ByteArray} {pos:Int} {ke tm:Nat} {vals:List ByteArray} {d7 d8 d11 d14 d17:Bool} {t:Array Value} {w:World} {g:Nat} (hg:t[17]?=some (.pointer (some ⟨g,0,none⟩))) (h:fS2r B cs s1 s2 sd pos ke tm vals d7 d8 d11 true d14 false d17 t w) :
  fS2r B cs s1 s2 sd pos ke tm vals d7 d8 d11 true d14 true d17 t ((((w.setCell ⟨g,0,none⟩ (.bool false)).setCell ⟨g,1,none⟩ (.string s1)).setCell ⟨g,2,none⟩ (.bool false)).setCell ⟨g,3,none⟩ (.string s2)):=by
 obtain ⟨h1,h2,h3⟩:=h;obtain ⟨g0,a0,b0,c0⟩:=h1 rfl;have e0:=ptr_inj (hg.symm.trans a0);subst e0;have c0:Blk w g 39 [.bool false,.string ⟨#[]⟩,.bool false,.string ⟨#[]⟩]:=c0;refine ⟨fun _=>⟨g,hg,b0,(((c0.set 0 _).set 1 _).set 2 _).set 3 _⟩,fun k=>?_,fun k=>?_⟩
 ·obtain ⟨g',a,b,c⟩:=h2 k;exact ⟨g',a,b,fun e=>blk_o4 (c e) (blk_neT' (c e) c0 (by decide)) _ _ _ _⟩
 ·obtain ⟨ta,tc,a,b,c,d,e,f,g',i⟩:=h3 k;have hf:=f rfl g hg;refine ⟨ta,tc,a,b,c,(((d.set_far hf).set_far hf).set_far hf).set_far hf,e,f,g',fun k x hx=>blk_o4 (i k x hx) (blk_neT' (i k x hx) c0 (by decide)) _ _ _ _⟩
theorem fS2r_set2 {B:Nat} {cs s1 s2 sd:ByteArray} {pos:Int} {ke tm:Nat} {vals:List ByteArray} {d13 d16:Bool} {t:Array Value} {w:World} {g n c0:Nat} {a0:Option Addr} {x0:ByteArray} {z0:Int} (hg:t[18]?=some (.pointer (some ⟨g,0,none⟩))) (hv:t[65]?=some (.agg #[.slice a0 n c0,.string x0,.int .i64 z0])) (h:fS2r B cs s1 s2 sd pos ke tm vals true true true d13 true d16 false t w) :
  fS2r B cs s1 s2 sd pos ke tm vals true true true d13 true d16 true t (((w.setCell ⟨g,0,none⟩ (.slice a0 n c0)).setCell ⟨g,1,none⟩ (.string x0)).setCell ⟨g,2,none⟩ (.int .i64 z0)):=by
 obtain ⟨h1,h2,h3⟩:=h;obtain ⟨g0,a1,b1',c1⟩:=h2 rfl;have e0:=ptr_inj (hg.symm.trans a1);subst e0;have hT:=c1 rfl;obtain ⟨ta,tc,a,b,c,d,e,f,g',i⟩:=h3 rfl;have e9:=hv.symm.trans (c rfl);simp only [Option.some.injEq,Value.agg.injEq,Array.mk.injEq,List.cons.injEq,and_true,true_and,Value.slice.injEq,Value.string.injEq,Value.int.injEq] at e9;obtain ⟨⟨rfl,rfl,rfl⟩,rfl,rfl⟩:=e9;have hf:=g' rfl g hg;refine ⟨fun k=>?_,fun _=>⟨g,hg,b1',fun k=>(by cases k)⟩,fun _=>⟨_,_,a,b,c,((d.set_far hf).set_far hf).set_far hf,e,f,g',fun _ x hx=>?_⟩⟩
 ·obtain ⟨y,ay,bY,cy⟩:=h1 k;exact ⟨y,ay,bY,blk_o3 cy (blk_neT' cy hT (by decide)) _ _ _⟩
 ·have ex:=ptr_inj (hx.symm.trans hg);subst ex;exact ((hT.set 0 _).set 1 _).set 2 _
end
section
open Go.RowKit Go.Shelf
theorem rbelow_v (att:Att) (T:Tp) (v:Value) (n:Nat) (w:World) (hat:RAtt att T.seed) (hok:T.Ok) (h2:n<256^64) (hV:SsAt w v T.vals) :
  Calls Tryz.prog 120 #[.agg #[v,.string T.seed,.int .i64 T.pos],.string (E n)] w (CPost w T (coin att T n)):=by
 have HVL:Hid (∀w,Calls Tryz.prog 42 #[.string (E n)] w fun e w'=>e=.returned (.bool true)∧w=w'):=fun w=>rvalidE_c n w (lt64 h2)
 have HGD:Hid (∀w',Below w.heap.size w w'→Calls Tryz.prog 48 #[.agg #[v,.string T.seed,.int .i64 T.pos]] w' fun e w''=>e=.returned (.bool T.good)∧Below w'.heap.size w' w''):=fun w' hb=>rgood_v T v w' hok (SsAt.after hV hb)
 have HDR:Hid (T.good=true→n≠0→∀w',Below w.heap.size w w'→Calls Tryz.prog 142 #[.agg #[v,.string T.seed,.int .i64 T.pos],.string (E n)] w' (CPost w' T (coinD att T n))):=fun h h1 w' hb=>rdraw_v att T v n w' hat hok h (by omega) h2 (SsAt.after hV hb)
 have HC1:Hid (T.good=false→coin att T n=(3,0)):=fun h=>by unfold coin;rw [if_pos h]
 have HC2:Hid (T.good=true→n=0→coin att T n=(11,0)):=fun h h0=>by unfold coin;rw [if_neg (by rw [h];decide),if_pos h0]
 have HC3:Hid (T.good=true→n≠0→coin att T n=coinD att T n):=fun h h0=>by unfold coin;rw [if_neg (by rw [h];decide),if_neg h0]
 obtain ⟨ao,c,rfl⟩:=RAt.form hV;generalize coin att T n=rr at HC1 HC2 HC3 ⊢;generalize coinD att T n=rd at HDR HC3;generalize T.good=tg at HGD HDR HC1 HC2 HC3;generalize T.vals.length=m at HGD HDR ⊢;have hP:=blk2a w #[.slice ao m c,.string T.seed,.int .i64 T.pos] #[.slice none 0 0,.string ⟨#[]⟩,.int .i64 0] 42 42;have hR:=blk2b w #[.slice ao m c,.string T.seed,.int .i64 T.pos] #[.slice none 0 0,.string ⟨#[]⟩,.int .i64 0] 42 42;have hBW:=b2 w (.cells #[.slice ao m c,.string T.seed,.int .i64 T.pos] 42) (.cells #[.slice none 0 0,.string ⟨#[]⟩,.int .i64 0] 42);obtain ⟨gR,hgR⟩:∃g,w.heap.size+1=g:=⟨_,rfl⟩;have HGR:Hid (w.heap.size≤gR):=by rw [Hid];omega
 have HGE:=Lib.hid hgR;clear hat hok h2 hV hgR;obtain ⟨hPc0,hPf0,hPc1,hPf1,hPc2,hPf2⟩:=hP.x3;go_enter Tryz.func120,Tryz.ntmps120
 go_wp2_with fail
 refine (HGD.out _ hBW).mono ?_;rintro e w2 ⟨rfl,hb2⟩;clear hPc0 hPf0 hPc1 hPf1 hPc2 hPf2;replace hP:=hP.after hb2;replace hR:=hR.after hb2;replace hBW:=bt hBW hb2;clear hb2 HGD;rw [HGE.out] at hR ⊢;clear HGE;replace hP:Blk w2 w.heap.size 42 [.slice ao m c,.string T.seed,.int .i64 T.pos]:=hP;replace hR:Blk w2 gR 42 [.slice none 0 0,.string ⟨#[]⟩,.int .i64 0]:=hR;have HRW:=Lib.hid hR.lt;have hRl:=hR.lt;cases tg
 ·have HRR:=Lib.hid (HC1.out rfl);clear HC2 HC3 HDR hP;clear HC1;obtain ⟨hRc0,hRf0,hRc1,hRf1,hRc2,hRf2⟩:=hR.x3;go_wp2;refine bodyPost_ret (v:=.tuple #[.string ⟨#[]⟩,.agg #[.slice none 0 0,.string ⟨#[]⟩,.int .i64 0],.int .i64 3]) ?_ rfl ?_
  ·simp [results,Tryz.results120,go_sem,hRc0,hRc1,hRc2,hRl]
  ·rw [HRR.out];exact ⟨_,rfl,⟨_,rfl,ss_nil _⟩,TFar.zero _ _ _,((hBW.setCell HGR.out _).setCell HGR.out _).setCell HGR.out _⟩
 ·clear HC1;have HD2:=Lib.hid (HC2.out rfl);have HD3:=Lib.hid (HC3.out rfl);have HD4:=Lib.hid (HDR.out rfl);clear HC2 HC3 HDR;go_wp2_with fail
  refine (HVL.out _).mono ?_;rintro e w' ⟨rfl,rfl⟩;by_cases h0:n=0
  ·have HRR:=Lib.hid (HD2.out h0);have HC1:=HRR;clear HD2 HD3 HD4 hP;subst h0;have hz:=zE (n:=0) rfl;clear HC1;obtain ⟨hRc0,hRf0,hRc1,hRf1,hRc2,hRf2⟩:=hR.x3;go_wp2;refine bodyPost_ret (v:=.tuple #[.string ⟨#[]⟩,.agg #[.slice none 0 0,.string ⟨#[]⟩,.int .i64 0],.int .i64 11]) ?_ rfl ?_
   ·simp [results,Tryz.results120,go_sem,hRc0,hRc1,hRc2,hRl]
   ·rw [HRR.out];exact ⟨_,rfl,⟨_,rfl,ss_nil _⟩,TFar.zero _ _ _,((hBW.setCell HGR.out _).setCell HGR.out _).setCell HGR.out _⟩
  ·have HRR:=Lib.hid (HD3.out h0);have HD:=Lib.hid (HD4.out h0);have hz:=nzE (n:=n) (by omega);obtain rfl:rr=rd:=HRR.out;clear HD2 HD3 HD4 hRl h0;obtain ⟨hPc0,hPf0,hPc1,hPf1,hPc2,hPf2⟩:=hP.x3;go_wp2_with fail
   refine (HD.out _ hBW).mono ?_;rintro e w3 ⟨t,rfl,⟨u,rfl,hU⟩,hF,hb3⟩;clear hPc0 hPf0 hPc1 hPf1 hPc2 hPf2;have HF2:=Lib.hid (hF.far HRW.out);replace hF:=hF.mono hBW.size;replace hR:=hR.after hb3;replace hBW:=bt hBW hb3;clear hb3 hP HD HRR;generalize hT':T.after rr.1=T' at hU hF ⊢;obtain ⟨uo,uc,rfl⟩:=RAt.form hU;obtain ⟨ul,hul⟩:∃l,l=T'.vals.length:=⟨_,rfl⟩;have HUL:=Lib.hid hul;have HTT:=Lib.hid hT';rw [←hul] at hU hF HF2 ⊢;clear hul hT';obtain ⟨us,hus⟩:∃s,s=T'.seed:=⟨_,rfl⟩;obtain ⟨ut,hut⟩:∃s,s=T'.pos:=⟨_,rfl⟩;rw [←hus,←hut] at hF ⊢;have HE:=Lib.hid (And.intro hus hut);clear hus hut;have hRl:=hR.lt;obtain ⟨hRc0,hRf0,hRc1,hRf1,hRc2,hRf2⟩:=hR.x3;go_wp2;refine bodyPost_ret (v:=.tuple #[.string (E rr.2),.agg #[.slice uo ul uc,.string us,.int .i64 ut],.int .i64 (rr.1:Int)]) ?_ rfl ⟨_,rfl,?_,hF,((hBW.setCell HGR.out _).setCell HGR.out _).setCell HGR.out _⟩
   ·simp [results,Tryz.results120,go_sem,hRc0,hRc1,hRc2,hRl]
   ·rw [HTT.out,HE.out.1,HE.out.2];exact ⟨_,rfl,((hU.set_far HF2.out).set_far HF2.out).set_far HF2.out⟩
end
section
open Go.RowKit Go.Shelf
theorem rreduce_c (z:Int) (p q g h:Nat) (w:World) (hz:z.natAbs<256^128) (hq:q<256^8) (h0:0<q) :
  Calls Tryz.prog 91 #[.agg #[.string (E p),.string (E q),.string (E g),.string (E h)],.agg #[.bool (sg (z)),.string (E (z).natAbs)]] w fun e w'=>e=.returned (.agg #[.bool false,.string (E (z%(q:Int)).toNat)])∧Below w.heap.size w w':=by
 obtain ⟨r,hr⟩:∃r,r=(z%(q:Int)).toNat:=⟨_,rfl⟩;rw [←hr];have h8:(256:Nat)^8≤256^128:=Nat.pow_le_pow_right (by decide) (by decide);have hrq:r<q:=by rw [hr];have:=Int.emod_lt_of_pos z (show (0:Int)<q by omega);omega
 have HM:Hid (∀w:World,Calls Tryz.prog 17 #[.agg #[.bool (sg (z)),.string (E (z).natAbs)],.string (E q)] w fun e w'=>e=.returned (.tuple #[.string (E r),.int .i64 0])∧Below w.heap.size w w'):=fun w=>by
  rw [hr];exact rimod_c z q w hz (Nat.lt_of_lt_of_le hq h8) h0
 have HF:Hid (∀w:World,Calls Tryz.prog 44 #[.string (E r)] w fun e w'=>e=.returned (.agg #[.bool false,.string (E r)])∧Below w.heap.size w w'):=fun w=>by
  have h1:=rifrom_c r w (Nat.lt_trans hrq (Nat.lt_of_lt_of_le hq h8));rwa [Int.natAbs_natCast,sg_nat] at h1
 have hz:=nzE h0;have hz2:=nzE2 h0;clear hr hrq h0 h8;generalize sg z=b at HM ⊢;generalize E z.natAbs=s at HM ⊢;have hK:=blk3a w #[.string (E p),.string (E q),.string (E g),.string (E h)] #[.bool b,.string s] #[.bool false,.string ⟨#[]⟩] 35 37 37;have hA:=blk3b w #[.string (E p),.string (E q),.string (E g),.string (E h)] #[.bool b,.string s] #[.bool false,.string ⟨#[]⟩] 35 37 37;have hR:=blk3c w #[.string (E p),.string (E q),.string (E g),.string (E h)] #[.bool b,.string s] #[.bool false,.string ⟨#[]⟩] 35 37 37;have hBW:=b3 w (.cells #[.string (E p),.string (E q),.string (E g),.string (E h)] 35) (.cells #[.bool b,.string s] 37) (.cells #[.bool false,.string ⟨#[]⟩] 37);obtain ⟨gA,hgA⟩:∃g,w.heap.size+1=g:=⟨_,rfl⟩;obtain ⟨gR,hgR⟩:∃g,w.heap.size+2=g:=⟨_,rfl⟩;obtain ⟨gR2,hgR2⟩:∃g,w.heap.size+1+1=g:=⟨_,rfl⟩;have HG1:=Lib.hid hgA;have HG2:=Lib.hid hgR;have HGL:Hid (w.heap.size≤gR):=by rw [Hid];omega
 obtain rfl:gR2=gR:=by omega
 have HG3:=Lib.hid hgR2;clear hgA hgR hgR2;go_enter Tryz.func91,Tryz.ntmps91
 go_upto_region 1 with fail
 first | rw [HG3.out,HG1.out] | rw [HG2.out,HG1.out]
 replace hA:Blk _ gA 37 [.bool b,.string s]:=HG1.out ▸ hA;replace hR:Blk _ gR2 37 [.bool false,.string ⟨#[]⟩]:=HG2.out ▸ hR;generalize ((w.alloc (.cells #[.string (E p),.string (E q),.string (E g),.string (E h)] 35)).alloc (.cells #[.bool b,.string s] 37)).alloc (.cells #[.bool false,.string ⟨#[]⟩] 37)=w1 at hK hA hR hBW ⊢;replace hK:Blk w1 w.heap.size 35 [.string (E p),.string (E q),.string (E g),.string (E h)]:=hK;clear HG1 HG2 HG3;have hKl:=hK.lt;have hAl:=hA.lt;obtain ⟨hKc0,hKf0,hKc1,hKf1,hKc2,hKf2,hKc3,hKf3⟩:=hK.x4;obtain ⟨hAc0,hAf0,hAc1,hAf1⟩:=hA.x2;go_wp2_with fail
 refine (HM.out _).mono ?_;rintro e w2 ⟨rfl,hb2⟩;clear hKc0 hKf0 hKc1 hKf1 hKc2 hKf2 hKc3 hKf3;clear hAc0 hAf0 hAc1 hAf1;replace hR:=hR.after hb2;replace hBW:=bt hBW hb2;clear hb2 hA hK hKl hAl;go_wp2_with fail
 refine (HF.out _).mono ?_;rintro e w3 ⟨rfl,hb3⟩;replace hR:=hR.after hb3;replace hBW:=bt hBW hb3;clear hb3;have hRl:=hR.lt;obtain ⟨hRc0,hRf0,hRc1,hRf1⟩:=hR.x2;go_wp2;refine bodyPost_ret (v:=.agg #[.bool false,.string (E r)]) ?_ rfl ?_
 ·simp [results,Tryz.results91,go_sem,hRc0,hRc1,hRl]
 ·exact ⟨rfl,((hBW.setCell (p:=⟨gR2,0,none⟩) HGL.out _).setCell (p:=⟨gR2,1,none⟩) HGL.out _)⟩
theorem rrand_c (att:Att) (p q g h d:Nat) (T:Tp) (v:Value) (w:World) (hat:RAtt att T.seed) (hok:T.Ok) (hgd:T.good=true) (hp:p<256^8) (hq:q<256^8) (h0:0<q) (hgb:g<256^100) (hhb:h<256^100) (hd:d<q) (he:pedE p q g h=0) (hV:SsAt w v T.vals) :
  Calls Tryz.prog 84 #[.agg #[.string (E p),.string (E q),.string (E g),.string (E h)],.agg #[.bool false,.string (E d)],.agg #[v,.string T.seed,.int .i64 T.pos]] w (RnPost w p g h d T (coin att T q)):=by
 have u128:∀{n:Nat},n<256^100→n<256^128:=fun h=>Nat.lt_of_lt_of_le h (Nat.pow_le_pow_right (by decide) (by decide))
 have u8:∀{n:Nat},n<256^8→n<256^128:=fun h=>Nat.lt_of_lt_of_le h (Nat.pow_le_pow_right (by decide) (by decide))
 have hgr:=pedE_grp he
 have hgh:hasB p q g=true∧hasB p q h=true:=by
  unfold pedE at he;rw [if_pos hgr] at he;split at he
  ·rename_i hh;exact ⟨hh.1,hh.2.1⟩
  ·omega
 have HF:Hid (∀w:World,Calls Tryz.prog 117 #[.agg #[.string (E p),.string (E q),.string (E g),.string (E h)]] w fun e w'=>e=.returned (.bool true)∧Below w.heap.size w w'):=fun w=>rpformV_c (E p) (E q) (E g) (E h) true w (sz1000 (u8 hp)) (sz1000 (u8 hq)) (sz1000 (u128 hgb)) (sz1000 (u128 hhb)) (vl4_E (u8 hp) (u8 hq) (u128 hgb) (u128 hhb))
 have HI:Hid (∀w:World,Calls Tryz.prog 41 #[.agg #[.bool false,.string (E d)]] w fun e w'=>e=.returned (.bool true)∧Below w.heap.size w w'):=fun w=>by
  have h1:=rivalidI_c (d:Int) w (by rw [Int.natAbs_natCast];exact u8 (Nat.lt_trans hd hq));rwa [Int.natAbs_natCast,sg_nat] at h1
 have HT:Hid (∀(u:Value) (w':World),SsAt w' u T.vals→Calls Tryz.prog 48 #[.agg #[u,.string T.seed,.int .i64 T.pos]] w' fun e w''=>e=.returned (.bool true)∧Below w'.heap.size w' w''):=fun u w' hu=>by
  have:=rgood_v T u w' hok hu;rwa [hgd] at this
 have HC:Hid (∀w:World,Calls Tryz.prog 80 #[.agg #[.string (E p),.string (E q),.string (E g),.string (E h)]] w fun e w'=>e=.returned (.int .i64 0)∧Below w.heap.size w w'):=fun w=>rpedcheckV_c p q g h 0 w hp (u8 hq) (u128 hgb) (u128 hhb) he
 have HB:Hid (∀(u:Value) (w':World),SsAt w' u T.vals→Calls Tryz.prog 120 #[.agg #[u,.string T.seed,.int .i64 T.pos],.string (E q)] w' (CPost w' T (coin att T q))):=fun u w' hu=>rbelow_v att T u q w' hat hok (Nat.lt_of_lt_of_le hq (Nat.pow_le_pow_right (by decide) (by decide))) hu
 have HCL:Hid ((coin att T q).1=0→(coin att T q).2<q):=fun hh=>coin_ltq hh
 obtain ⟨cn,hcn⟩:∃c,c=coin att T q:=⟨_,rfl⟩;rw [←hcn] at HB HCL ⊢;clear hcn;obtain ⟨ce,cv⟩:=cn
 have HRD:Hid (ce=0→(∀w:World,Calls Tryz.prog 44 #[.string (E cv)] w fun e w'=>e=.returned (.agg #[.bool false,.string (E cv)])∧Below w.heap.size w w') ∧
   (∀w:World,Calls Tryz.prog 91 #[.agg #[.string (E p),.string (E q),.string (E g),.string (E h)],.agg #[.bool false,.string (E d)]] w fun e w'=>e=.returned (.agg #[.bool false,.string (E d)])∧Below w.heap.size w w') ∧
   (∀w:World,Calls Tryz.prog 121 #[.agg #[.string (E p),.string (E q),.string (E g),.string (E h)],.agg #[.bool false,.string (E d),.bool false,.string (E cv)]] w fun e w'=>e=.returned (.tuple #[.string (E (cmtN p g h (d:Int) (cv:Int))),.int .i64 0])∧Below w.heap.size w w')):=fun hh=>by
  have hcv:cv<q:=HCL.out hh;refine ⟨fun w=>?_,fun w=>?_,fun w=>?_⟩
  ·have h1:=rifrom_c cv w (u8 (Nat.lt_trans hcv hq));rwa [Int.natAbs_natCast,sg_nat] at h1
  ·have h1:=rreduce_c (d:Int) p q g h w (by rw [Int.natAbs_natCast];exact u8 (Nat.lt_trans hd hq)) hq h0;rw [show ((d:Int)%(q:Int)).toNat=d by rw [Int.emod_eq_of_lt (by omega) (by omega)];rfl,Int.natAbs_natCast,sg_nat] at h1;exact h1
  ·have h1:=r14commit_c p q g h (d:Int) (cv:Int) w hp (u8 hq) (u128 hgb) (u128 hhb) (by rw [Int.natAbs_natCast];exact u8 (Nat.lt_trans hd hq)) (by rw [Int.natAbs_natCast];exact u8 (Nat.lt_trans hcv hq)) he hgh.1 hgh.2;unfold opn at h1;rwa [Int.natAbs_natCast,Int.natAbs_natCast,sg_nat,sg_nat] at h1
 have hz:=nzE h0;have hz2:=nzE2 h0;clear hat hok hgd hp hq hgb hhb hd he hgr hgh u8 u128 h0 HCL;obtain ⟨at_,ct,rfl⟩:=RAt.form hV;obtain ⟨nt,hnt⟩:∃n,n=T.vals.length:=⟨_,rfl⟩;rw [←hnt] at hV ⊢;clear hnt;obtain ⟨hK,hM,hT,hO,hBW⟩:=blk4 w #[.string (E p),.string (E q),.string (E g),.string (E h)] #[.bool false,.string (E d)] #[.slice at_ nt ct,.string T.seed,.int .i64 T.pos] #[.bool false,.string ⟨#[]⟩,.bool false,.string ⟨#[]⟩] 35 37 42 39;have hQ:=Blk.new ((((w.alloc (.cells #[.string (E p),.string (E q),.string (E g),.string (E h)] 35)).alloc (.cells #[.bool false,.string (E d)] 37)).alloc (.cells #[.slice at_ nt ct,.string T.seed,.int .i64 T.pos] 42)).alloc (.cells #[.bool false,.string ⟨#[]⟩,.bool false,.string ⟨#[]⟩] 39)) #[.slice none 0 0,.string ⟨#[]⟩,.int .i64 0] 42;simp only [World.size_alloc] at hQ;replace hK:=hK.alloc (.cells #[.slice none 0 0,.string ⟨#[]⟩,.int .i64 0] 42);replace hM:=hM.alloc (.cells #[.slice none 0 0,.string ⟨#[]⟩,.int .i64 0] 42);replace hT:=hT.alloc (.cells #[.slice none 0 0,.string ⟨#[]⟩,.int .i64 0] 42);replace hO:=hO.alloc (.cells #[.slice none 0 0,.string ⟨#[]⟩,.int .i64 0] 42);replace hBW:=ba hBW (.cells #[.slice none 0 0,.string ⟨#[]⟩,.int .i64 0] 42);have hV1:=SsAt.after hV hBW;obtain ⟨gM,hgM⟩:∃g,w.heap.size+1=g:=⟨_,rfl⟩;obtain ⟨gT,hgT⟩:∃g,w.heap.size+1+1=g:=⟨_,rfl⟩;obtain ⟨gO,hgO⟩:∃g,w.heap.size+1+1+1=g:=⟨_,rfl⟩;obtain ⟨gQ,hgQ⟩:∃g,w.heap.size+1+1+1+1=g:=⟨_,rfl⟩;have HGW:Hid (w.heap.size<gM∧gM<gT∧gT<gO∧gO<gQ):=by rw [Hid];omega
 have HG1:=Lib.hid hgM;have HG2:=Lib.hid hgT;have HG3:=Lib.hid hgO;have HG4:=Lib.hid hgQ;clear hgM hgT hgO hgQ hV;go_enter Tryz.func84,Tryz.ntmps84
 go_upto_region 1 with fail
 rw [HG4.out,HG3.out,HG2.out,HG1.out];replace hM:Blk _ gM 37 [.bool false,.string (E d)]:=HG1.out ▸ hM;replace hT:Blk _ gT 42 [.slice at_ nt ct,.string T.seed,.int .i64 T.pos]:=HG2.out ▸ hT;replace hO:Blk _ gO 39 [.bool false,.string ⟨#[]⟩,.bool false,.string ⟨#[]⟩]:=HG3.out ▸ hO;replace hQ:Blk _ gQ 42 [.slice none 0 0,.string ⟨#[]⟩,.int .i64 0]:=HG4.out ▸ hQ;generalize ((((w.alloc (.cells #[.string (E p),.string (E q),.string (E g),.string (E h)] 35)).alloc (.cells #[.bool false,.string (E d)] 37)).alloc (.cells #[.slice at_ nt ct,.string T.seed,.int .i64 T.pos] 42)).alloc (.cells #[.bool false,.string ⟨#[]⟩,.bool false,.string ⟨#[]⟩] 39)).alloc (.cells #[.slice none 0 0,.string ⟨#[]⟩,.int .i64 0] 42)=w1 at hK hM hT hO hQ hBW hV1 ⊢;replace hK:Blk w1 w.heap.size 35 [.string (E p),.string (E q),.string (E g),.string (E h)]:=hK;clear HG1 HG2 HG3 HG4;obtain ⟨hKc0,hKf0,hKc1,hKf1,hKc2,hKf2,hKc3,hKf3⟩:=hK.x4;obtain ⟨hMc0,hMf0,hMc1,hMf1⟩:=hM.x2;obtain ⟨hTc0,hTf0,hTc1,hTf1,hTc2,hTf2⟩:=hT.x3;go_wp2_with fail
 refine (HF.out _).mono ?_;rintro e w2 ⟨rfl,hb⟩;clear hKc0 hKf0 hKc1 hKf1 hKc2 hKf2 hKc3 hKf3;clear hMc0 hMf0 hMc1 hMf1;clear hTc0 hTf0 hTc1 hTf1 hTc2 hTf2;replace hK:=hK.after hb;replace hM:=hM.after hb;replace hT:=hT.after hb;replace hO:=hO.after hb;replace hQ:=hQ.after hb;replace hV1:=SsAt.after hV1 hb;replace hBW:=bt hBW hb;clear hb;obtain ⟨hKc0,hKf0,hKc1,hKf1,hKc2,hKf2,hKc3,hKf3⟩:=hK.x4;obtain ⟨hMc0,hMf0,hMc1,hMf1⟩:=hM.x2;obtain ⟨hTc0,hTf0,hTc1,hTf1,hTc2,hTf2⟩:=hT.x3;go_wp2_with fail
 refine (HI.out _).mono ?_;rintro e w3 ⟨rfl,hb⟩;clear hKc0 hKf0 hKc1 hKf1 hKc2 hKf2 hKc3 hKf3;clear hMc0 hMf0 hMc1 hMf1;clear hTc0 hTf0 hTc1 hTf1 hTc2 hTf2;replace hK:=hK.after hb;replace hM:=hM.after hb;replace hT:=hT.after hb;replace hO:=hO.after hb;replace hQ:=hQ.after hb;replace hV1:=SsAt.after hV1 hb;replace hBW:=bt hBW hb;clear hb;obtain ⟨hKc0,hKf0,hKc1,hKf1,hKc2,hKf2,hKc3,hKf3⟩:=hK.x4;obtain ⟨hMc0,hMf0,hMc1,hMf1⟩:=hM.x2;obtain ⟨hTc0,hTf0,hTc1,hTf1,hTc2,hTf2⟩:=hT.x3;go_wp2_with fail
 refine (HT.out _ _ hV1).mono ?_;rintro e w4 ⟨rfl,hb⟩;clear hKc0 hKf0 hKc1 hKf1 hKc2 hKf2 hKc3 hKf3;clear hMc0 hMf0 hMc1 hMf1;clear hTc0 hTf0 hTc1 hTf1 hTc2 hTf2;replace hK:=hK.after hb;replace hM:=hM.after hb;replace hT:=hT.after hb;replace hO:=hO.after hb;replace hQ:=hQ.after hb;replace hV1:=SsAt.after hV1 hb;replace hBW:=bt hBW hb;clear hb HF HI HT;obtain ⟨hKc0,hKf0,hKc1,hKf1,hKc2,hKf2,hKc3,hKf3⟩:=hK.x4;obtain ⟨hMc0,hMf0,hMc1,hMf1⟩:=hM.x2;obtain ⟨hTc0,hTf0,hTc1,hTf1,hTc2,hTf2⟩:=hT.x3;go_wp2_with fail
 refine (HC.out _).mono ?_;rintro e w5 ⟨rfl,hb⟩;clear hKc0 hKf0 hKc1 hKf1 hKc2 hKf2 hKc3 hKf3;clear hMc0 hMf0 hMc1 hMf1;clear hTc0 hTf0 hTc1 hTf1 hTc2 hTf2;replace hK:=hK.after hb;replace hM:=hM.after hb;replace hT:=hT.after hb;replace hO:=hO.after hb;replace hQ:=hQ.after hb;replace hV1:=SsAt.after hV1 hb;replace hBW:=bt hBW hb;clear hb HC;obtain ⟨hKc0,hKf0,hKc1,hKf1,hKc2,hKf2,hKc3,hKf3⟩:=hK.x4;obtain ⟨hMc0,hMf0,hMc1,hMf1⟩:=hM.x2;obtain ⟨hTc0,hTf0,hTc1,hTf1,hTc2,hTf2⟩:=hT.x3;go_wp2_with fail
 refine (HB.out _ _ hV1).mono ?_;rintro e w6 ⟨t,rfl,⟨u,rfl,hU⟩,hFd,hb⟩;clear hKc0 hKf0 hKc1 hKf1 hKc2 hKf2 hKc3 hKf3;clear hMc0 hMf0 hMc1 hMf1;clear hTc0 hTf0 hTc1 hTf1 hTc2 hTf2;simp only [] at hU hFd ⊢;obtain ⟨T1,hT1⟩:∃t,t=T.after ce:=⟨_,rfl⟩;rw [←hT1] at hU hFd ⊢;have HT1:=Lib.hid hT1;clear hT1;obtain ⟨uo,uc,rfl⟩:=RAt.form hU;obtain ⟨um,hum⟩:∃n,n=T1.vals.length:=⟨_,rfl⟩;have HUM:=Lib.hid hum;rw [←hum] at hU hFd ⊢;clear hum;have hFQ:=hFd.far hQ.lt;have hFO:=hFd.far hO.lt;have HFW:Hid (∀b,b<w.heap.size→FarS (.slice uo um uc) b):=fun b hb'=>hFd.far (Nat.lt_of_lt_of_le hb' hBW.size)
 replace hK:=hK.after hb;replace hM:=hM.after hb;replace hO:=hO.after hb;replace hQ:=hQ.after hb;replace hBW:=bt hBW hb;clear hb HB hV1 hFd hT;have hR:=Blk.new w6 #[.slice uo um uc,.string T1.seed,.int .i64 T1.pos] 42;have hbR:=b1 w6 (.cells #[.slice uo um uc,.string T1.seed,.int .i64 T1.pos] 42);have HGR:Hid (gQ<w6.heap.size):=hQ.lt;go_upto_region 10 with fail
 replace hU:=SsAt.after hU hbR;replace hK:=hK.after hbR;replace hM:=hM.after hbR;replace hO:=hO.after hbR;replace hQ:=hQ.after hbR;replace hBW:=bt hBW hbR;generalize w6.alloc (.cells #[.slice uo um uc,.string T1.seed,.int .i64 T1.pos] 42)=w7 at hU hK hM hO hQ hR hBW ⊢;obtain ⟨gR,hgR⟩:∃g,g=w6.heap.size:=⟨_,rfl⟩;rw [←hgR] at hR HGR ⊢;replace hR:Blk w7 gR 42 [.slice uo um uc,.string T1.seed,.int .i64 T1.pos]:=hR;clear hgR hbR;have lO:w.heap.size≤gO:=by have:=HGW.out;omega
 have lQ:w.heap.size≤gQ:=by have:=HGW.out;omega
 have nOQ:¬ gO=gQ:=by have:=HGW.out;omega
 by_cases hce:ce=0
 case neg =>
  have hceb:((ce:Int) != 0)=true:=by rw [bne_iff_ne];omega
  have HCE:=Lib.hid hce;have hOl:=hO.lt;have hQl:=hQ.lt;clear hce hK hM hR hU hFQ hFO HRD;obtain ⟨hOc0,hOf0,hOc1,hOf1,hOc2,hOf2,hOc3,hOf3⟩:=hO.x4;obtain ⟨hQc0,hQf0,hQc1,hQf1,hQc2,hQf2⟩:=hQ.x3;go_wp2;refine bodyPost_ret (v:=.tuple #[.string ⟨#[]⟩,.agg #[.bool false,.string ⟨#[]⟩,.bool false,.string ⟨#[]⟩],.agg #[.slice none 0 0,.string ⟨#[]⟩,.int .i64 0],.int .i64 (ce:Int)]) ?_ rfl ?_
  ·simp [results,Tryz.results84,go_sem,hOc0,hOc1,hOc2,hOc3,hQc0,hQc1,hQc2,hOl,hQl,nOQ]
  ·refine ⟨.agg #[.slice none 0 0,.string ⟨#[]⟩,.int .i64 0],?_,?_,TFar.zero _ _ _,?_⟩
   ·simp only [];rw [if_neg HCE.out,if_neg HCE.out]
   ·simp only [];rw [Tp.after,if_neg HCE.out];exact ⟨_,rfl,ss_nil _⟩
   ·exact ((((((hBW.setCell lO _).setCell lO _).setCell lO _).setCell lO _).setCell lQ _).setCell lQ _).setCell lQ _
 case pos =>
  subst hce;obtain ⟨hr1,hr2,hr3⟩:=HRD.out rfl;have HR1:=Lib.hid hr1;have HR2:=Lib.hid hr2;have HR3:=Lib.hid hr3;clear hr1 hr2 hr3 HRD;obtain ⟨hKc0,hKf0,hKc1,hKf1,hKc2,hKf2,hKc3,hKf3⟩:=hK.x4;obtain ⟨hMc0,hMf0,hMc1,hMf1⟩:=hM.x2;go_wp2_with fail
  refine (HR2.out _).mono ?_;rintro e w8 ⟨rfl,hb⟩;clear hKc0 hKf0 hKc1 hKf1 hKc2 hKf2 hKc3 hKf3;clear hMc0 hMf0 hMc1 hMf1;replace hK:=hK.after hb;replace hR:=hR.after hb;replace hO:=hO.after hb;replace hQ:=hQ.after hb;replace hU:=SsAt.after hU hb;replace hBW:=bt hBW hb;clear hb HR2 hM;go_wp2_with fail
  refine (HR1.out _).mono ?_;rintro e w9 ⟨rfl,hb⟩;replace hK:=hK.after hb;replace hR:=hR.after hb;replace hO:=hO.after hb;replace hQ:=hQ.after hb;replace hU:=SsAt.after hU hb;replace hBW:=bt hBW hb;clear hb HR1;have hP:=Blk.new w9 #[.bool false,.string (E d),.bool false,.string (E cv)] 39;have hbP:=b1 w9 (.cells #[.bool false,.string (E d),.bool false,.string (E cv)] 39);go_upto_region 13 with fail
  replace hU:=SsAt.after hU hbP;have nOP:gO≠w9.heap.size:=Nat.ne_of_lt hO.lt;have nQP:gQ≠w9.heap.size:=Nat.ne_of_lt hQ.lt;replace hK:=hK.after hbP;replace hR:=hR.after hbP;replace hO:=hO.after hbP;replace hQ:=hQ.after hbP;replace hBW:=bt hBW hbP;generalize w9.alloc (.cells #[.bool false,.string (E d),.bool false,.string (E cv)] 39)=wx at hU hK hR hO hQ hP hBW ⊢;obtain ⟨x,hx⟩:∃g,g=w9.heap.size:=⟨_,rfl⟩;rw [←hx] at hP nOP nQP ⊢;replace hP:Blk wx x 39 [.bool false,.string (E d),.bool false,.string (E cv)]:=hP;clear hx hbP;have hPl:=hP.lt;obtain ⟨hKc0,hKf0,hKc1,hKf1,hKc2,hKf2,hKc3,hKf3⟩:=hK.x4;obtain ⟨hPc0,hPf0,hPc1,hPf1,hPc2,hPf2,hPc3,hPf3⟩:=hP.x4;go_wp2_with fail
  refine (HR3.out _).mono ?_;rintro e wy ⟨rfl,hb⟩;clear hKc0 hKf0 hKc1 hKf1 hKc2 hKf2 hKc3 hKf3;clear hPc0 hPf0 hPc1 hPf1 hPc2 hPf2 hPc3 hPf3;replace hP:=hP.after hb;replace hR:=hR.after hb;replace hO:=hO.after hb;replace hQ:=hQ.after hb;replace hU:=SsAt.after hU hb;replace hBW:=bt hBW hb;clear hb HR3 hK hPl;have hPl:=hP.lt;have hRl:=hR.lt;have hOl:=hO.lt;have hQl:=hQ.lt;have n1:gO≠gR:=by have:=HGW.out;have:=HGR.out;omega
  have n2:gQ≠gR:=by have:=HGR.out;omega
  have n3:gO≠x:=nOP;have n4:gQ≠x:=nQP;have n5:gO≠gQ:=nOQ;have hUE:=hU;go_upto_region 14 with fail
  obtain ⟨hPc0,hPf0,hPc1,hPf1,hPc2,hPf2,hPc3,hPf3⟩:=hP.x4;obtain ⟨hRc0,hRf0,hRc1,hRf1,hRc2,hRf2⟩:=hR.x3;obtain ⟨hOc0,hOf0,hOc1,hOf1,hOc2,hOf2,hOc3,hOf3⟩:=hO.x4;obtain ⟨hQc0,hQf0,hQc1,hQf1,hQc2,hQf2⟩:=hQ.x3;go_region
  all_goals
   go_wp2;refine bodyPost_ret (v:=.tuple #[.string (E (cmtN p g h (d:Int) (cv:Int))),.agg #[.bool false,.string (E d),.bool false,.string (E cv)],.agg #[.slice uo um uc,.string T1.seed,.int .i64 T1.pos],.int .i64 0]) ?_ rfl ?_
   ·simp [results,Tryz.results84,go_sem,hOc0,hOc1,hOc2,hOc3,hQc0,hQc1,hQc2,hOl,hQl,n5,n5.symm]
   ·refine ⟨_,rfl,?_,TFar.of (fun b hb=>HFW.out b hb),?_⟩
    ·rw [←HT1.out];exact ⟨_,rfl,SsAt.after (((((((hU.set_far hFO).set_far hFO).set_far hFO).set_far hFO).set_far hFQ).set_far hFQ).set_far hFQ) (Below.drew (Below.refl _ _))⟩
    ·exact (((((((hBW.setCell lO _).setCell lO _).setCell lO _).setCell lO _).setCell lQ _).setCell lQ _).setCell lQ _).drew
end
end Go.Proofs.YtdoacbdkbbpamaaGreatDoor
