/- The two Four at a number from 2^32 on. -/
import Derived.Test.YtfgandecbkbleaaGreatDoorRfs
import Derived.Test.YtfgandecbkbleaaGreatDoorLdv1
import Derived.WalkMore
import Derived.Deep.CutRange
set_option linter.unusedVariables false
set_option linter.unusedSimpArgs false
set_option maxRecDepth 100000
set_option maxHeartbeats 16000000
namespace Go.Proofs.YtfgandecbkbleaaGreatDoor
section
/- foursquares.Four. -/
open Go.RowKit Go.Shelf
theorem small_long (n:Nat) (w:World) (h:256^8≤n) (h2:n<256^128) :
  Calls Tryz.prog 128 #[.string (E n)] w fun e w'=>e=.returned (.tuple #[.int .u64 0,.bool false])∧w=w':=by
 have h1:8<(E n).size:=by
  apply Classical.byContradiction
  intro hn;have:=(E_size_le n 8).1 (by omega);omega
 have HV:Hid (∀w,Calls Tryz.prog 88 #[.string (E n)] w fun e w'=>e=.returned (.bool true)∧w=w'):=fun w=>validE_c n w h2
 have h3:(8:Int)<((E n).size:Int):=by omega
 clear h h2;go_enter Tryz.func128,Tryz.ntmps128
 go_wp2_with fail
 refine (HV.out _).mono ?_;rintro e w' ⟨rfl,rfl⟩;go_wp2;go_ret2
 exact ⟨rfl,rfl⟩
theorem fsmall_c (n:Nat) (w:World) (h:n<256^128) :
  Calls Tryz.prog 95 #[.string (E n)] w fun e w'=>e=.returned (.tuple #[.int .u64 (if n<4294967296 then n else 0:Nat),.int .i64 (if n<4294967296 then 0 else 5)])∧w=w':=by
 have HV:Hid (∀w,Calls Tryz.prog 88 #[.string (E n)] w fun e w'=>e=.returned (.bool true)∧w=w'):=fun w=>validE_c n w h
 by_cases h8:n<256^8
 ·have HS:Hid (∀w,Calls Tryz.prog 128 #[.string (E n)] w fun e w'=>e=.returned (.tuple #[.int .u64 n,.bool true])∧w=w'):=fun w=>small_c n w h8
  clear h8 h;by_cases h1:n<4294967296
  ·rw [if_pos h1,if_pos h1];obtain ⟨kb,hkb⟩:∃k:Int,k=4294967296:=⟨_,rfl⟩;have h2:¬ kb≤(n:Int):=by omega
   clear h1;go_enter Tryz.func95,Tryz.ntmps95
   go_wp2_with fail
   refine (HV.out _).mono ?_;rintro e w' ⟨rfl,rfl⟩;go_wp2_with fail
   refine (HS.out _).mono ?_;rintro e w' ⟨rfl,rfl⟩;go_upto_region 4 with fail
   rw [←hkb];clear hkb;go_wp2;go_ret2
   exact ⟨rfl,rfl⟩
  ·rw [if_neg h1,if_neg h1];obtain ⟨kb,hkb⟩:∃k:Int,k=4294967296:=⟨_,rfl⟩;have h2:kb≤(n:Int):=by omega
   clear h1;go_enter Tryz.func95,Tryz.ntmps95
   go_wp2_with fail
   refine (HV.out _).mono ?_;rintro e w' ⟨rfl,rfl⟩;go_wp2_with fail
   refine (HS.out _).mono ?_;rintro e w' ⟨rfl,rfl⟩;go_upto_region 4 with fail
   rw [←hkb];clear hkb;go_wp2;go_ret2
   exact ⟨rfl,rfl⟩
 ·have hbig:¬ n<4294967296:=fun h9=>h8 (Nat.lt_of_lt_of_le h9 (by decide))
  rw [if_neg hbig,if_neg hbig];have HS:Hid (∀w,Calls Tryz.prog 128 #[.string (E n)] w fun e w'=>e=.returned (.tuple #[.int .u64 0,.bool false])∧w=w'):=fun w=>small_long n w (by omega) h
  clear h8 h hbig;go_enter Tryz.func95,Tryz.ntmps95
  go_wp2_with fail
  refine (HV.out _).mono ?_;rintro e w' ⟨rfl,rfl⟩;go_wp2_with fail
  refine (HS.out _).mono ?_;rintro e w' ⟨rfl,rfl⟩;go_wp2;go_ret2
  exact ⟨rfl,rfl⟩
def fourF (n:Nat):Nat→Option (Nat × Nat × Nat × Nat)
 | 0=>if sevF 16 n=false then (match threeF n 0 with | some (x,y,z)=>some (0,x,y,z) | none=>none) else none
 | a+1=>if sevF 16 (n-(a+1)*(a+1))=false then (match threeF (n-(a+1)*(a+1)) (min (rt (n-(a+1)*(a+1))) (a+1)) with | some (x,y,z)=>some (a+1,x,y,z) | none=>fourF n a) else fourF n a
def foM (a:Nat) (r:Option (Nat × Nat × Nat × Nat)):Option (Nat × Nat × Nat)→Option (Nat × Nat × Nat × Nat) | some (x,y,z)=>some (a,x,y,z) | none=>r
theorem four_step (n a:Nat):fourF n a=if sevF 16 (n-a*a)=false then foM a (if a=0 then none else fourF n (a-1)) (threeF (n-a*a) (min (rt (n-a*a)) a)) else if a=0 then none else fourF n (a-1):=by
 cases a with
 | zero =>
  rw [fourF];simp only [Nat.mul_zero,Nat.sub_zero,Nat.min_zero,if_true];split
  ·cases threeF n 0 <;> rfl
  ·rfl
 | succ a =>
  rw [fourF];simp only [Nat.add_sub_cancel,Nat.succ_ne_zero,if_false,Nat.add_eq_zero_iff,Nat.one_ne_zero,and_false];split
  ·cases threeF (n-(a+1)*(a+1)) (min (rt (n-(a+1)*(a+1))) (a+1)) <;> rfl
  ·rfl
theorem twoF_le {n a b:Nat}:∀{x:Nat},twoF n x=some (a,b)→a≤x∧b≤x
 | 0,h=>by
  rw [twoF] at h;split at h
  ·cases h
  ·cases h;exact ⟨Nat.le_refl _,Nat.le_refl _⟩
 | x+1,h=>by
  rw [twoF] at h;split at h
  ·cases h
  ·split at h
   ·rename_i h2;cases h
    exact ⟨Nat.le_refl _,h2.2⟩
   ·have:=twoF_le h;omega
theorem threeF_le {n a b c:Nat}:∀{x:Nat},threeF n x=some (a,b,c)→a≤x∧b≤x∧c≤x
 | 0,h=>by
  rw [threeF] at h;split at h
  ·cases h
  ·cases h;exact ⟨Nat.le_refl _,Nat.le_refl _,Nat.le_refl _⟩
 | x+1,h=>by
  rw [threeF] at h;split at h
  ·cases h
  ·split at h
   ·rename_i y z h2;have h3:=twoF_le h2;cases h
    omega
   ·have:=threeF_le h;omega
def foV:Option (Nat × Nat × Nat × Nat)→List Value | some (a,x,y,z)=>[.string (E a),.string (E x),.string (E y),.string (E z)] | none=>[.string ⟨#[]⟩,.string ⟨#[]⟩,.string ⟨#[]⟩,.string ⟨#[]⟩]
theorem fsfour_c (n:Nat) (w:World) (hn:n<4294967296) :
  Calls Tryz.prog 47 #[.string (E n)] w fun e w'=>e=.returned (.tuple #[.agg (foV (fourF n (rt n))).toArray,.int .i64 0])∧Below w.heap.size w w':=by
 have HSM:Hid (∀w,Calls Tryz.prog 95 #[.string (E n)] w fun e w'=>e=.returned (.tuple #[.int .u64 (n:Nat),.int .i64 0])∧w=w'):=fun w=>by
  have h:=fsmall_c n w (Nat.lt_of_lt_of_le hn (by decide));rwa [if_pos hn,if_pos hn] at h
 have h2:=rt_lt (k:=65536) (show n<65536*65536 by omega);have h3:=(rt_spec n).1;obtain ⟨R,hR⟩:∃R,R=fourF n (rt n):=⟨_,rfl⟩;rw [←hR];have HR:=Lib.hid hR;have HRT:Hid (∀w,Calls Tryz.prog 96 #[.int .u64 (n:Int)] w fun e w'=>e=.returned (.int .u64 (rt n:Nat))∧w=w'):=fun w=>fsroot_c n w hn
 have HXX:=Lib.hid h3;generalize rt n=r at h2 HR HRT HXX;have hA:=blk2a w #[.string ⟨#[]⟩,.string ⟨#[]⟩,.string ⟨#[]⟩,.string ⟨#[]⟩] #[.string ⟨#[]⟩,.string ⟨#[]⟩,.string ⟨#[]⟩,.string ⟨#[]⟩] 96 96;have hC:=blk2b w #[.string ⟨#[]⟩,.string ⟨#[]⟩,.string ⟨#[]⟩,.string ⟨#[]⟩] #[.string ⟨#[]⟩,.string ⟨#[]⟩,.string ⟨#[]⟩,.string ⟨#[]⟩] 96 96;have hBW:=b2 w (.cells #[.string ⟨#[]⟩,.string ⟨#[]⟩,.string ⟨#[]⟩,.string ⟨#[]⟩] 96) (.cells #[.string ⟨#[]⟩,.string ⟨#[]⟩,.string ⟨#[]⟩,.string ⟨#[]⟩] 96);clear h3 hR;go_enter Tryz.func47,Tryz.ntmps47
 go_upto_region 1 with fail
 go_step3
 go_wp2_with fail
 refine (HSM.out _).mono ?_;rintro e w' ⟨rfl,rfl⟩;go_wp2;go_step3
 go_wp2_with fail
 refine (HRT.out _).mono ?_;rintro e w' ⟨rfl,rfl⟩;go_wp2;generalize (w.alloc (.cells #[.string ⟨#[]⟩,.string ⟨#[]⟩,.string ⟨#[]⟩,.string ⟨#[]⟩] 96)).alloc (.cells #[.string ⟨#[]⟩,.string ⟨#[]⟩,.string ⟨#[]⟩,.string ⟨#[]⟩] 96)=w1 at hA hC hBW ⊢;obtain ⟨g2,hg2⟩:∃g,w.heap.size=g:=⟨_,rfl⟩;obtain ⟨g6,hg6⟩:∃g,w.heap.size+1=g:=⟨_,rfl⟩;rw [hg6] at hC ⊢;rw [hg2] at hA ⊢;have HG:Hid (w.heap.size≤g2∧w.heap.size≤g6∧g2≠g6):=by rw [Hid];omega
 clear hg2 hg6;replace hA:Blk w1 g2 96 [.string ⟨#[]⟩,.string ⟨#[]⟩,.string ⟨#[]⟩,.string ⟨#[]⟩]:=hA;replace hC:Blk w1 g6 96 [.string ⟨#[]⟩,.string ⟨#[]⟩,.string ⟨#[]⟩,.string ⟨#[]⟩]:=hC;go_loopw [7] (fun v wr=>∃a:Nat,v=.int .u64 a∧a<65536∧Hid (a*a≤n)∧Hid (R=fourF n a)∧Below w1.heap.size w1 wr) (fun v _=>(intOf v).toNat)
 case atStart=>exact ⟨r,rfl,h2,HXX,HR,Below.refl _ _⟩
 case round =>
  clear HR HXX h2 HRT;obtain ⟨a,rfl,ha,HXX,HR,hbr⟩:=hrel;obtain ⟨wp,hwp⟩:∃wp,wp=wr:=⟨_,rfl⟩;subst hwp;have hAp:=hA.after hbr;have hCp:=hC.after hbr;have hbp:=bt hBW hbr;obtain ⟨q,hq⟩:∃q,q=a*a:=⟨_,rfl⟩;have hq2:q≤65536*65536:=by rw [hq];exact Nat.mul_le_mul (by omega) (by omega)
  have hqn:q≤n:=by rw [hq];exact HXX.out
  obtain ⟨d,hd⟩:∃d,d=n-q:=⟨_,rfl⟩;have hd2:d<4294967296:=by omega
  obtain ⟨T3,hT3⟩:∃t,t=threeF d (min (rt d) a):=⟨_,rfl⟩;obtain ⟨sv,hsv⟩:∃b,b=sevF 16 d:=⟨_,rfl⟩
  have HS:Hid (R=if sv=false then foM a (if a=0 then none else fourF n (a-1)) T3 else if a=0 then none else fourF n (a-1)):=by
   rw [Hid,HR.out,four_step n a,←hq,←hd,←hT3,←hsv]
  have HSV:Hid (∀w,Calls Tryz.prog 97 #[.int .u64 (d:Int)] w fun e w'=>e=.returned (.bool sv)∧w=w'):=fun w=>by rw [hsv];exact fsseven_c d w hd2
  have HTT:Hid (∀w,Calls Tryz.prog 98 #[.int .u64 (d:Int),.int .u64 (a:Int)] w fun e w'=>e=.returned (.tuple #[.agg #[.int .u64 (th1 T3:Nat),.int .u64 (th2 T3:Nat),.int .u64 (th3 T3:Nat)],.bool T3.isSome])∧Below w.heap.size w w'):=fun w=>by rw [hT3];exact fsthree_c d a w hd2 (by omega)
  have HLE:Hid (∀x y z,T3=some (x,y,z)→x≤a∧y≤a∧z≤a):=fun x y z h=>by
   have h9:=threeF_le (hT3.symm.trans h);omega
  have c3:IntKind.u64.wrap ((a:Int)*(a:Int))=(q:Int):=by rw [show (a:Int)*(a:Int)=(q:Int) by rw [hq];exact (Int.natCast_mul a a).symm,IntKind.wrap_u64];omega
  have c4:IntKind.u64.wrap ((n:Int)-(q:Int))=(d:Int):=by rw [IntKind.wrap_u64];omega
  have c5:a≠0→IntKind.u64.wrap ((a:Int)-1)=((a-1:Nat):Int):=fun h=>by rw [IntKind.wrap_u64];omega
  have HQ2:Hid ((a-1)*(a-1)≤n):=Nat.le_trans (Nat.mul_le_mul (show a-1≤a by omega) (show a-1≤a by omega)) HXX.out;have C5:=Lib.hid c5;clear hq hT3 hsv HR hd hd2 hq2 hqn HXX c5;go_wp2_with fail
  refine (HSV.out _).mono ?_;rintro e w' ⟨rfl,rfl⟩;cases sv
  ·replace HS:=Lib.hid (HS.out.trans (if_pos rfl));go_wp2_with fail
   refine (HTT.out _).mono ?_;rintro e w2 ⟨rfl,hb2⟩;clear HTT;cases T3 with
   | none =>
    replace HS:Hid (R=if a=0 then none else fourF n (a-1)):=HS;simp only [th1,th2,th3,Option.isSome_none];have hbn:=ba (bt hbr hb2) (.cells #[.int .u64 0,.int .u64 0,.int .u64 0] 144);by_cases hx0:a=0
    ·have HX:Hid (R=none):=HS.out.trans (if_pos hx0);have hxe:((a:Int)==0)=true:=by rw [hx0];rfl
     have hA3:=(hAp.after hb2).alloc (.cells #[.int .u64 0,.int .u64 0,.int .u64 0] 144);have hC3:=(hCp.after hb2).alloc (.cells #[.int .u64 0,.int .u64 0,.int .u64 0] 144);have hb3:=ba (bt hbp hb2) (.cells #[.int .u64 0,.int .u64 0,.int .u64 0] 144);have hAl:=hA3.lt;have hCl:=hC3.lt;have e1:¬ g2=g6:=HG.out.2.2;have e2:¬ g6=g2:=fun e=>e1 e.symm
     clear HS hAp hCp hbp hb2 hbn;obtain ⟨hA3c0,hA3f0,hA3c1,hA3f1,hA3c2,hA3f2,hA3c3,hA3f3⟩:=hA3.x4;obtain ⟨hC3c0,hC3f0,hC3c1,hC3f1,hC3c2,hC3f2,hC3c3,hC3f3⟩:=hC3.x4;go_wp2;(try rw [Exit.noGoto_ret])
     refine bodyPost_ret (v:=.tuple #[.agg #[.string ⟨#[]⟩,.string ⟨#[]⟩,.string ⟨#[]⟩,.string ⟨#[]⟩],.int .i64 0]) ?_ rfl ?_
     ·simp [results,Tryz.results47,go_sem,hA3c0,hA3c1,hA3c2,hA3c3,hA3f0,hA3f1,hA3f2,hA3f3,hAl]
     ·rw [HX.out];exact ⟨rfl,((((hb3.setCell HG.out.1 _).setCell HG.out.1 _).setCell HG.out.1 _).setCell HG.out.1 _)⟩
    ·have HX:Hid (R=fourF n (a-1)):=HS.out.trans (if_neg hx0);have hxe:((a:Int)==0)=false:=by rw [beq_eq_false_iff_ne];omega
     have c5:=C5.out hx0;clear HS hAp hCp hbp hb2;go_wp2;go_roundw
     case rel=>exact ⟨a-1,rfl,by omega,HQ2,HX,hbn⟩
     case measure=>simp [intOf];omega
   | some xyz =>
    obtain ⟨x,y,z⟩:=xyz;have HX:Hid (R=some (a,x,y,z)):=HS;clear HS;simp only [th1,th2,th3,Option.isSome_some];obtain ⟨hx9,hy9,hz9⟩:=HLE.out x y z rfl;have hp8:(65536:Nat)≤256^8:=by decide
    have HO1:Hid (∀w,Calls Tryz.prog 94 #[.int .u64 (a:Int)] w fun e w'=>e=.returned (.string (E a))∧Below w.heap.size w w'):=fun w=>of_c a w (by omega)
    have HO2:Hid (∀w,Calls Tryz.prog 94 #[.int .u64 (x:Int)] w fun e w'=>e=.returned (.string (E x))∧Below w.heap.size w w'):=fun w=>of_c x w (by omega)
    have HO3:Hid (∀w,Calls Tryz.prog 94 #[.int .u64 (y:Int)] w fun e w'=>e=.returned (.string (E y))∧Below w.heap.size w w'):=fun w=>of_c y w (by omega)
    have HO4:Hid (∀w,Calls Tryz.prog 94 #[.int .u64 (z:Int)] w fun e w'=>e=.returned (.string (E z))∧Below w.heap.size w w'):=fun w=>of_c z w (by omega)
    have hA3:=(hAp.after hb2).alloc (.cells #[.int .u64 (x:Int),.int .u64 (y:Int),.int .u64 (z:Int)] 144);have hC3:=(hCp.after hb2).alloc (.cells #[.int .u64 (x:Int),.int .u64 (y:Int),.int .u64 (z:Int)] 144);have hD3:=Blk.new w2 #[.int .u64 (x:Int),.int .u64 (y:Int),.int .u64 (z:Int)] 144;have hb3:=ba (bt hbp hb2) (.cells #[.int .u64 (x:Int),.int .u64 (y:Int),.int .u64 (z:Int)] 144);have e1:¬ g2=g6:=HG.out.2.2;have e2:¬ g6=g2:=fun e=>e1 e.symm
    clear hx9 hy9 hz9 hp8 hAp hCp hbp hb2 HLE;go_upto_region 11 with fail
    generalize w2.alloc (.cells #[.int .u64 (x:Int),.int .u64 (y:Int),.int .u64 (z:Int)] 144)=w3 at hA3 hC3 hD3 hb3 ⊢;generalize w2.heap.size=gD at hD3 ⊢;replace hD3:Blk w3 gD 144 [.int .u64 (x:Int),.int .u64 (y:Int),.int .u64 (z:Int)]:=hD3;have hD3g0:=hD3.gcell 0;have hD3g1:=hD3.gcell 1;have hD3g2:=hD3.gcell 2;go_wp2_with fail
    refine wp_region_gw_tail 12 (by kernel_rfl) (by kernel_rfl) ?_;simp only [List.take_succ_cons,List.take_zero,List.drop_succ_cons,List.drop_zero];repeat (go_big_quiet_step (first | (go_at_call 94;with_reducible exact gw_of (HO1.out _)) | (go_at_call 94;with_reducible exact gw_of (HO2.out _)) | (go_at_call 94;with_reducible exact gw_of (HO3.out _)) | (go_at_call 94;with_reducible exact gw_of (HO4.out _))))
    refine wpQuiet_nil ?_;rintro w4 ⟨xw4,rfl⟩;have hb4:=gw_below xw4;generalize gw xw4=w4 at hb4;have hA4:=hA3.after hb4;have hC4:=hC3.after hb4;have hb5:=bt hb3 hb4;have hCl:=hC4.lt;have hAl:=hA4.lt;clear hA3 hC3 hb3 hb4 hD3;obtain ⟨hC4c0,hC4f0,hC4c1,hC4f1,hC4c2,hC4f2,hC4c3,hC4f3⟩:=hC4.x4;obtain ⟨hA4c0,hA4f0,hA4c1,hA4f1,hA4c2,hA4f2,hA4c3,hA4f3⟩:=hA4.x4;go_wp2;(try rw [Exit.noGoto_ret])
    refine bodyPost_ret (v:=.tuple #[.agg #[.string (E a),.string (E x),.string (E y),.string (E z)],.int .i64 0]) ?_ rfl ?_
    ·simp [results,Tryz.results47,go_sem,hA4c0,hA4c1,hA4c2,hA4c3,hA4f0,hA4f1,hA4f2,hA4f3,hC4c0,hC4c1,hC4c2,hC4c3,hC4f0,hC4f1,hC4f2,hC4f3,hAl,hCl,e1,e2]
    ·rw [HX.out];exact ⟨rfl,((((((((hb5.setCell HG.out.2.1 _).setCell HG.out.2.1 _).setCell HG.out.2.1 _).setCell HG.out.2.1 _).setCell HG.out.1 _).setCell HG.out.1 _).setCell HG.out.1 _).setCell HG.out.1 _)⟩
  ·replace HS:=Lib.hid (HS.out.trans (if_neg (by decide)));clear HTT HLE;by_cases hx0:a=0
   ·have HX:Hid (R=none):=HS.out.trans (if_pos hx0);have hxe:((a:Int)==0)=true:=by rw [hx0];rfl
    clear HS;have hAl:=hAp.lt;have hCl:=hCp.lt;have e1:¬ g2=g6:=HG.out.2.2;have e2:¬ g6=g2:=fun e=>e1 e.symm
    obtain ⟨hApc0,hApf0,hApc1,hApf1,hApc2,hApf2,hApc3,hApf3⟩:=hAp.x4;obtain ⟨hCpc0,hCpf0,hCpc1,hCpf1,hCpc2,hCpf2,hCpc3,hCpf3⟩:=hCp.x4;go_wp2;(try rw [Exit.noGoto_ret])
    refine bodyPost_ret (v:=.tuple #[.agg #[.string ⟨#[]⟩,.string ⟨#[]⟩,.string ⟨#[]⟩,.string ⟨#[]⟩],.int .i64 0]) ?_ rfl ?_
    ·simp [results,Tryz.results47,go_sem,hApc0,hApc1,hApc2,hApc3,hApf0,hApf1,hApf2,hApf3,hAl]
    ·rw [HX.out];exact ⟨rfl,((((hbp.setCell HG.out.1 _).setCell HG.out.1 _).setCell HG.out.1 _).setCell HG.out.1 _)⟩
   ·have HX:Hid (R=fourF n (a-1)):=HS.out.trans (if_neg hx0);have hxe:((a:Int)==0)=false:=by rw [beq_eq_false_iff_ne];omega
    have c5:=C5.out hx0;clear HS;go_wp2;go_roundw
    case rel=>exact ⟨a-1,rfl,by omega,HQ2,HX,hbr⟩
    case measure=>simp [intOf];omega
end
section
/- ref25.Four. -/
open Go.RowKit Go.Shelf
def fourZ (n:Nat) (x:Int):Option (Nat × Nat × Nat × Nat):=if x<0 then none else fourF n x.toNat
theorem fourZ_nat (n x:Nat):fourZ n (x:Int)=fourF n x:=by rw [fourZ,if_neg (by omega)];rfl
theorem fourZ_pred (n x:Nat):fourZ n ((x:Int)-1)=if x=0 then none else fourF n (x-1):=by
 rw [fourZ];by_cases h:x=0
 ·rw [if_pos h,if_pos (by omega)]
 ·rw [if_neg h,if_neg (by omega)];congr 1;omega
theorem r25four_c (n:Nat) (w:World) (hn:n<4294967296) :
  Calls Tryz.prog 53 #[.string (E n)] w fun e w'=>e=.returned (.tuple #[.agg (foV (fourF n (rt n))).toArray,.int .i64 0])∧Below w.heap.size w w':=by
 have HNM:Hid (∀w,Calls Tryz.prog 104 #[.string (E n)] w fun e w'=>e=.returned (.tuple #[.int .i64 (n:Nat),.int .i64 0])∧w=w'):=fun w=>by
  have h:=r25number_c n w (Nat.lt_of_lt_of_le hn (by decide));rwa [if_pos hn,if_pos hn] at h
 have h2:=rt_lt (k:=65536) (show n<65536*65536 by omega);have h3:=(rt_spec n).1;obtain ⟨R,hR⟩:∃R,R=fourF n (rt n):=⟨_,rfl⟩;rw [←hR];have HR:Hid (R=fourZ n (rt n:Nat)):=hR.trans (fourZ_nat n _).symm;have HRT:Hid (∀w,Calls Tryz.prog 105 #[.int .i64 (n:Int)] w fun e w'=>e=.returned (.int .i64 (rt n:Nat))∧w=w'):=fun w=>r25root_c n w hn
 have HXX:=Lib.hid h3;generalize rt n=r at h2 HR HRT HXX;clear h3 hR;go_enter Tryz.func53,Tryz.ntmps53
 go_wp2_with fail
 refine (HNM.out _).mono ?_;rintro e w' ⟨rfl,rfl⟩;go_wp2_with fail
 refine (HRT.out _).mono ?_;rintro e w' ⟨rfl,rfl⟩;go_wp2;have hA:=Blk.new w #[.string ⟨#[]⟩,.string ⟨#[]⟩,.string ⟨#[]⟩,.string ⟨#[]⟩] 96;have hBW:=b1 w (.cells #[.string ⟨#[]⟩,.string ⟨#[]⟩,.string ⟨#[]⟩,.string ⟨#[]⟩] 96);generalize w.alloc (.cells #[.string ⟨#[]⟩,.string ⟨#[]⟩,.string ⟨#[]⟩,.string ⟨#[]⟩] 96)=w1 at hA hBW ⊢;obtain ⟨g2,hg2⟩:∃g,w.heap.size=g:=⟨_,rfl⟩;rw [hg2] at hA ⊢;have HG:Hid (w.heap.size≤g2):=Nat.le_of_eq hg2;clear hg2;replace hA:Blk w1 g2 96 [.string ⟨#[]⟩,.string ⟨#[]⟩,.string ⟨#[]⟩,.string ⟨#[]⟩]:=hA;go_loopw [6] (fun v wr=>∃x:Int,v=.int .i64 x∧-1≤x∧x<65536∧Hid (0≤x→x.toNat*x.toNat≤n)∧Hid (R=fourZ n x)∧Below w1.heap.size w1 wr) (fun v _=>(intOf v+1).toNat)
 case atStart=>exact ⟨r,rfl,by omega,by omega,fun _=>HXX.out,HR,Below.refl _ _⟩
 case round =>
  clear HR HXX h2 HRT;obtain ⟨x,rfl,hx1,hx,HXX,HR,hbr⟩:=hrel;obtain ⟨wp,hwp⟩:∃wp,wp=wr:=⟨_,rfl⟩;subst hwp;have hAp:=hA.after hbr;have hbp:=bt hBW hbr;by_cases h0:x<0
  ·have HX:Hid (R=none):=HR.out.trans (by rw [fourZ,if_pos h0]);have h0':¬ (0:Int)≤x:=by omega
   have hAl:=hAp.lt;clear HR HXX;obtain ⟨hApc0,hApf0,hApc1,hApf1,hApc2,hApf2,hApc3,hApf3⟩:=hAp.x4;go_wp2;(try rw [Exit.noGoto_ret])
   refine bodyPost_ret (v:=.tuple #[.agg #[.string ⟨#[]⟩,.string ⟨#[]⟩,.string ⟨#[]⟩,.string ⟨#[]⟩],.int .i64 0]) ?_ rfl ?_
   ·simp [results,Tryz.results53,go_sem,hApc0,hApc1,hApc2,hApc3,hApf0,hApf1,hApf2,hApf3,hAl]
   ·rw [HX.out];exact ⟨rfl,((((hbp.setCell HG.out _).setCell HG.out _).setCell HG.out _).setCell HG.out _)⟩
  ·have h0':(0:Int)≤x:=by omega
   obtain ⟨a,rfl⟩:∃y:Nat,x=(y:Int):=⟨x.toNat,by omega⟩;replace HXX:Hid (a*a≤n):=HXX.out h0';have ha:a<65536:=by omega
   clear h0 hx1 hx;obtain ⟨q,hq⟩:∃q,q=a*a:=⟨_,rfl⟩;have hq2:q≤65536*65536:=by rw [hq];exact Nat.mul_le_mul (by omega) (by omega)
   have hqn:q≤n:=by rw [hq];exact HXX.out
   obtain ⟨d,hd⟩:∃d,d=n-q:=⟨_,rfl⟩;have hd2:d<4294967296:=by omega
   obtain ⟨T3,hT3⟩:∃t,t=threeF d (min (rt d) a):=⟨_,rfl⟩;obtain ⟨sv,hsv⟩:∃b,b=sevF 16 d:=⟨_,rfl⟩
   have HS:Hid (R=if sv=false then foM a (fourZ n ((a:Int)-1)) T3 else fourZ n ((a:Int)-1)):=by
    rw [Hid,HR.out,fourZ_nat,fourZ_pred,four_step n a,←hq,←hd,←hT3,←hsv]
   have HSV:Hid (∀w,Calls Tryz.prog 106 #[.int .i64 (d:Int)] w fun e w'=>e=.returned (.bool sv)∧w=w'):=fun w=>by rw [hsv];exact r25seven_c d w hd2
   have HTT:Hid (∀w,Calls Tryz.prog 107 #[.int .i64 (d:Int),.int .i64 (a:Int)] w fun e w'=>∃g,e=.returned (.tuple #[.slice (some ⟨g,0,none⟩) 3 3,.bool T3.isSome])∧Blk w' g 3 [.int .i64 (th1 T3:Nat),.int .i64 (th2 T3:Nat),.int .i64 (th3 T3:Nat)]∧Below w.heap.size w w'):=fun w=>by rw [hT3];exact r25three_c d a w hd2 (by omega)
   have HLE:Hid (∀x y z,T3=some (x,y,z)→x≤a∧y≤a∧z≤a):=fun x y z h=>by
    have h9:=threeF_le (hT3.symm.trans h);omega
   have c3:IntKind.i64.wrap ((a:Int)*(a:Int))=(q:Int):=by rw [show (a:Int)*(a:Int)=(q:Int) by rw [hq];exact (Int.natCast_mul a a).symm,wi64 (by omega) (by omega)]
   have c4:IntKind.i64.wrap ((n:Int)-(q:Int))=(d:Int):=by rw [wi64 (by omega) (by omega)];omega
   have c5:IntKind.i64.wrap ((a:Int)-1)=(a:Int)-1:=wi64 (by omega) (by omega);have HQ2:Hid (0≤(a:Int)-1→((a:Int)-1).toNat*((a:Int)-1).toNat≤n):=fun _=>Nat.le_trans (Nat.mul_le_mul (by omega) (by omega)) HXX.out
   clear hq hT3 hsv HR hd hd2 hq2 hqn HXX;go_wp2_with fail
   refine (HSV.out _).mono ?_;rintro e w' ⟨rfl,rfl⟩;cases sv
   ·replace HS:=Lib.hid (HS.out.trans (if_pos rfl));go_wp2_with fail
    refine (HTT.out _).mono ?_;rintro e w2 ⟨gT,rfl,hT,hb2⟩;clear HTT;cases T3 with
    | none =>
     replace HS:Hid (R=fourZ n ((a:Int)-1)):=HS;simp only [th1,th2,th3,Option.isSome_none];have hbn:=bt hbr hb2;clear hAp hbp hb2 hT;go_wp2;go_roundw
     case rel=>exact ⟨(a:Int)-1,rfl,by omega,by omega,HQ2,HS,hbn⟩
     case measure=>simp [intOf]
    | some xyz =>
     obtain ⟨x,y,z⟩:=xyz;have HX:Hid (R=some (a,x,y,z)):=HS;clear HS;simp only [th1,th2,th3,Option.isSome_some] at hT ⊢;obtain ⟨hx9,hy9,hz9⟩:=HLE.out x y z rfl;have HO1:Hid (∀w,Calls Tryz.prog 108 #[.int .i64 (a:Int)] w fun e w'=>e=.returned (.string (E a))∧Below w.heap.size w w'):=fun w=>r25of_c a w (by omega)
     have HO2:Hid (∀w,Calls Tryz.prog 108 #[.int .i64 (x:Int)] w fun e w'=>e=.returned (.string (E x))∧Below w.heap.size w w'):=fun w=>r25of_c x w (by omega)
     have HO3:Hid (∀w,Calls Tryz.prog 108 #[.int .i64 (y:Int)] w fun e w'=>e=.returned (.string (E y))∧Below w.heap.size w w'):=fun w=>r25of_c y w (by omega)
     have HO4:Hid (∀w,Calls Tryz.prog 108 #[.int .i64 (z:Int)] w fun e w'=>e=.returned (.string (E z))∧Below w.heap.size w w'):=fun w=>r25of_c z w (by omega)
     have hA3:=hAp.after hb2;have hb3:=bt hbp hb2;clear hx9 hy9 hz9 hAp hbp hb2 HLE c5 HQ2 hbr;go_upto_region 10 with fail
     have hTg0:=hT.gcell 0;have hTg1:=hT.gcell 1;have hTg2:=hT.gcell 2;go_wp2_with fail
     refine wp_region_gw_tail 14 (by kernel_rfl) (by kernel_rfl) ?_;simp only [List.take_succ_cons,List.take_zero,List.drop_succ_cons,List.drop_zero];repeat (go_big_quiet_step (first | (go_at_call 108;with_reducible exact gw_of (HO1.out _)) | (go_at_call 108;with_reducible exact gw_of (HO2.out _)) | (go_at_call 108;with_reducible exact gw_of (HO3.out _)) | (go_at_call 108;with_reducible exact gw_of (HO4.out _))))
     refine wpQuiet_nil ?_;rintro w4 ⟨xw4,rfl⟩;have hb4:=gw_below xw4;generalize gw xw4=w4 at hb4;have hA4:=hA3.after hb4;have hb5:=bt hb3 hb4;have hAl:=hA4.lt;clear hA3 hb3 hb4 hT;obtain ⟨hA4c0,hA4f0,hA4c1,hA4f1,hA4c2,hA4f2,hA4c3,hA4f3⟩:=hA4.x4;go_wp2;(try rw [Exit.noGoto_ret])
     refine bodyPost_ret (v:=.tuple #[.agg #[.string (E a),.string (E x),.string (E y),.string (E z)],.int .i64 0]) ?_ rfl ?_
     ·simp [results,Tryz.results53,go_sem,hA4c0,hA4c1,hA4c2,hA4c3,hA4f0,hA4f1,hA4f2,hA4f3,hAl]
     ·rw [HX.out];exact ⟨rfl,((((hb5.setCell HG.out _).setCell HG.out _).setCell HG.out _).setCell HG.out _)⟩
   ·replace HS:=Lib.hid (HS.out.trans (if_neg (by decide)));clear HTT HLE;go_wp2;go_roundw
    case rel=>exact ⟨(a:Int)-1,rfl,by omega,by omega,HQ2,HS,hbr⟩
    case measure=>simp [intOf]
end
section
open Go.RowKit Go.Shelf
theorem four_long (n:Nat) (w:World) (hn:4294967296≤n) (h:n<256^128) :
  Calls Tryz.prog 47 #[.string (E n)] w fun e w'=>e=.returned (.tuple #[.agg #[.string ⟨#[]⟩,.string ⟨#[]⟩,.string ⟨#[]⟩,.string ⟨#[]⟩],.int .i64 5])∧Below w.heap.size w w':=by
 have HSM:Hid (∀w,Calls Tryz.prog 95 #[.string (E n)] w fun e w'=>e=.returned (.tuple #[.int .u64 0,.int .i64 5])∧w=w'):=fun w=>by
  have h:=fsmall_c n w h;rwa [if_neg (by omega),if_neg (by omega)] at h
 have hA:=Blk.new w #[.string ⟨#[]⟩,.string ⟨#[]⟩,.string ⟨#[]⟩,.string ⟨#[]⟩] 96;have hBW:=b1 w (.cells #[.string ⟨#[]⟩,.string ⟨#[]⟩,.string ⟨#[]⟩,.string ⟨#[]⟩] 96);have hAl:=hA.lt;clear h hn;obtain ⟨hAc0,hAf0,hAc1,hAf1,hAc2,hAf2,hAc3,hAf3⟩:=hA.x4;go_enter Tryz.func47,Tryz.ntmps47
 go_upto_region 1 with fail
 go_step3
 go_wp2_with fail
 refine (HSM.out _).mono ?_;rintro e w' ⟨rfl,rfl⟩;go_wp2;(try rw [Exit.noGoto_ret])
 refine bodyPost_ret (v:=.tuple #[.agg #[.string ⟨#[]⟩,.string ⟨#[]⟩,.string ⟨#[]⟩,.string ⟨#[]⟩],.int .i64 5]) ?_ rfl ?_
 ·simp [results,Tryz.results47,go_sem,hAc0,hAc1,hAc2,hAc3,hAf0,hAf1,hAf2,hAf3,hAl]
 ·exact ⟨rfl,hBW⟩
theorem r25four_long (n:Nat) (w:World) (hn:4294967296≤n) (h:n<256^128) :
  Calls Tryz.prog 53 #[.string (E n)] w fun e w'=>e=.returned (.tuple #[.agg #[.string ⟨#[]⟩,.string ⟨#[]⟩,.string ⟨#[]⟩,.string ⟨#[]⟩],.int .i64 5])∧Below w.heap.size w w':=by
 have HSM:Hid (∀w,Calls Tryz.prog 104 #[.string (E n)] w fun e w'=>e=.returned (.tuple #[.int .i64 0,.int .i64 5])∧w=w'):=fun w=>by
  have h:=r25number_c n w h;rwa [if_neg (by omega),if_neg (by omega)] at h
 have hA:=Blk.new w #[.string ⟨#[]⟩,.string ⟨#[]⟩,.string ⟨#[]⟩,.string ⟨#[]⟩] 96;have hBW:=b1 w (.cells #[.string ⟨#[]⟩,.string ⟨#[]⟩,.string ⟨#[]⟩,.string ⟨#[]⟩] 96);have hAl:=hA.lt;clear h hn;obtain ⟨hAc0,hAf0,hAc1,hAf1,hAc2,hAf2,hAc3,hAf3⟩:=hA.x4;go_enter Tryz.func53,Tryz.ntmps53
 go_wp2_with fail
 refine (HSM.out _).mono ?_;rintro e w' ⟨rfl,rfl⟩;go_wp2;(try rw [Exit.noGoto_ret])
 refine bodyPost_ret (v:=.tuple #[.agg #[.string ⟨#[]⟩,.string ⟨#[]⟩,.string ⟨#[]⟩,.string ⟨#[]⟩],.int .i64 5]) ?_ rfl ?_
 ·simp [results,Tryz.results53,go_sem,hAc0,hAc1,hAc2,hAc3,hAf0,hAf1,hAf2,hAf3,hAl]
 ·exact ⟨rfl,hBW⟩
end
end Go.Proofs.YtfgandecbkbleaaGreatDoor
