/- dominolaw24.RangeproofPrepares,second form: the row and its tied card: card. -/
import Derived.Test.YtdoacbdkbbpamaaGreatDoorFw24
import Derived.Test.YtdoacbdkbbpamaaGreatDoorRq24
import Derived.Test.YtdoacbdkbbpamaaGreatDoorAwk24
import Derived.Test.YtdoacbdkbbpamaaGreatDoorAwn24
import Derived.Test.YtdoacbdkbbpamaaGreatDoorSmT
import Derived.Test.YtdoacbdkbbpamaaGreatDoorIsm
import Derived.Test.YtdoacbdkbbpamaaGreatDoorEqn
import Derived.Test.YtdoacbdkbbpamaaGreatDoorPpU24K
import Derived.Test.YtdoacbdkbbpamaaGreatDoorCards
import Derived.Test.YtdoacbdkbbpamaaGreatDoorTie
import Derived.SevenTiedAt
import Derived.Deep.DeepHandedRow
import Derived.Deep.DeepWitnessRowRef
import Derived.JoinedCond
set_option linter.unusedVariables false
set_option linter.unusedSimpArgs false
set_option maxRecDepth 100000
set_option maxHeartbeats 16000000
namespace Go.Proofs.YtdoacbdkbbpamaaGreatDoor
section
/- The gate of law 24: small,few,narrow. -/
open Go.RowKit Go.Shelf
theorem smlK_inv {a b c d:ByteArray} (h:smlK a b c d=true):a.size≤8∧b.size≤8∧c.size≤8∧d.size≤8:=by
 simp only [smlK,sz8B,List.all_cons,List.all_nil,Bool.and_eq_true,decide_eq_true_eq] at h;exact ⟨h.1,h.2.1,h.2.2.1,h.2.2.2.1⟩
theorem fwB_inv {C va ra sd:ByteArray} {O:List Opn} {P V:List ByteArray} (h:fwB C va ra sd O P V=true):P.length≤24∧O.length≤24∧V.length≤40∧sd.size≤60∧C.size≤16∧va.size≤16∧ra.size≤16∧(∀x∈O,x.va.size≤16∧x.ra.size≤16)∧(∀x∈P,x.size≤16)∧(∀x∈V,x.size≤16):=by
 simp only [fwB,Bool.and_eq_true,decide_eq_true_eq,Bool.not_eq_true'] at h;obtain ⟨h1,h2,h3,h4,h5⟩:=h
 have h6:∀x∈fwL C va ra O P V,x.size≤16:=fun x hx=>by
  have h7:=List.any_eq_false.1 h5 x hx;simp only [sz16B,decide_eq_true_eq] at h7;omega
 unfold fwL at h6;refine ⟨h1,h2,h3,h4,h6 C (by simp),h6 va (by simp),h6 ra (by simp),fun x hx=>⟨h6 _ ?_,h6 _ ?_⟩,fun x hx=>h6 x (by simp [hx]),fun x hx=>h6 x (by simp [hx])⟩
 ·simp only [List.mem_append,List.mem_cons];exact .inl (.inl (.inr (.inr (.inr (List.mem_flatMap.2 ⟨x,hx,by simp⟩)))))
 ·simp only [List.mem_append,List.mem_cons];exact .inl (.inl (.inr (.inr (.inr (List.mem_flatMap.2 ⟨x,hx,by simp⟩)))))
theorem splN_len (att:Att) (p g h q:Nat) (X:List Nat) (T:Tp) (n:Nat):(splN att p g h q X T n).parts.length≤n∧(splN att p g h q X T n).ops.length≤n:=by
 rcases splN_cases att p g h q X T n with ⟨_,e,_⟩ | ⟨_,e⟩
 ·rw [e];exact ⟨by rw [prP_len];exact Nat.le_refl _,by rw [prO_len];exact Nat.le_refl _⟩
 ·rw [e];exact ⟨Nat.zero_le _,Nat.zero_le _⟩
theorem rgR_len (att:Att) (a b c d:ByteArray) (lo hi:Int) (vn:Bool) (va:ByteArray) (rn:Bool) (ra:ByteArray) (T:Tp) (hn:nrwB lo hi=true) (hT:T.vals.length≤1000):(rgR att a b c d lo hi vn va rn ra T).parts.length≤1000∧(rgR att a b c d lo hi vn va rn ra T).ops.length≤1000∧(rgR att a b c d lo hi vn va rn ra T).tp.vals.length≤1000:=by
 have h0:∀k,(⟨k,[],[],Tp.nil⟩:PrR).parts.length≤1000∧(⟨k,[],[],Tp.nil⟩:PrR).ops.length≤1000∧(⟨k,[],[],Tp.nil⟩:PrR).tp.vals.length≤1000:=fun k=>⟨by simp,by simp,by simp [Tp.nil]⟩
 unfold rgR;split
 ·exact h0 _
 ·split
  ·exact h0 _
  ·rename_i h9;split
   ·exact h0 _
   ·split
    ·exact ⟨by simp,by simp,hT⟩
    ·have hw:(rdyE a b c d lo hi).1≤8:=by
      unfold rdyE at h9 ⊢;split at h9
      ·rename_i h1;exact absurd h1 h9
      rename_i h1;rw [if_neg h1];split at h9
      ·exact absurd (by decide) h9
      rename_i h2;rw [if_neg h2];unfold nrwB at hn;rw [Bool.or_eq_true,decide_eq_true_eq,decide_eq_true_eq] at hn;rcases hn with h3 | h3
      ·exact absurd h3 h9
      ·exact h3
     generalize (rdyE a b c d lo hi).1=n at hw;unfold rgS;split
     ·exact h0 _
     split
     ·exact h0 _
     have e1:=splN_len att (numb a) (numb c) (numb d) (numb b) (dgs (dstE (numb b) lo hi (numb va)).1 n) T n;have e2:=splN_len att (numb a) (numb c) (numb d) (numb b) (dgs (othE lo hi (dstE (numb b) lo hi (numb va))) n) (T.on n) n;refine ⟨?_,?_,hT⟩
     ·show (_++_:List Nat).length≤1000;rw [List.length_append];omega
     ·show (_++_:List (Nat × Nat)).length≤1000;rw [List.length_append];omega
end
section
/- RangeproofPrepares: the law. -/
open Go.RowKit Go.Shelf
theorem pw24_walk (a b c d:ByteArray) (lo hi:Int) (vn:Bool) (va:ByteArray) (rn:Bool) (ra:ByteArray) (st:Option Addr) (mt dt:Nat) (sd:ByteArray) (ti:Int) (C:ByteArray) (po:Option Addr) (np pc:Nat) (oo:Option Addr) (no oc:Nat) (w:World) (q1 q2 q3:Bool) (ht:TabW w)
  (hs:∀w':World,Calls Tryz.prog 10 #[.agg #[.string a,.string b,.string c,.string d],.slice none 0 0] w' fun e w2=>e=.returned (.bool q1)∧Below w'.heap.size w' w2)
  (hf:∀w',Below w.heap.size w w'→Calls Tryz.prog 11 #[.agg #[.bool vn,.string va,.bool rn,.string ra,.slice st mt dt,.string sd,.int .i64 ti,.string C,.slice po np pc,.slice oo no oc]] w' fun e w2=>e=.returned (.bool q2)∧Below w'.heap.size w' w2)
  (hn:∀w':World,Calls Tryz.prog 12 #[.agg #[.int .i64 lo,.int .i64 hi]] w' fun e w2=>e=.returned (.bool q3)∧Below w'.heap.size w' w2)
  (hg:q1=true→q2=true→q3=true→∃R:PrR,(R.parts.length≤1000∧R.ops.length≤1000∧R.tp.vals.length≤1000)∧∀w',Below w.heap.size w w'→Calls Tryz.prog 13 #[.agg #[.string a,.string b,.string c,.string d],.int .i64 lo,.int .i64 hi,.agg #[.bool vn,.string va,.bool rn,.string ra],.agg #[.slice st mt dt,.string sd,.int .i64 ti]] w' (PrPost w' R)∧Calls Tryz.prog 19 #[.agg #[.string a,.string b,.string c,.string d],.int .i64 lo,.int .i64 hi,.agg #[.bool vn,.string va,.bool rn,.string ra],.agg #[.slice st mt dt,.string sd,.int .i64 ti]] w' (PrPost w' R)) :
  Calls Tryz.prog 5 #[.agg #[.string a,.string b,.string c,.string d],.agg #[.int .i64 lo,.int .i64 hi],.agg #[.bool vn,.string va,.bool rn,.string ra,.slice st mt dt,.string sd,.int .i64 ti,.string C,.slice po np pc,.slice oo no oc]] w fun e w'=>e=.returned (.bool true)∧Below w.heap.size w w':=by
 have HSM:=Lib.hid hs;have HFE:=Lib.hid hf;have HNA:=Lib.hid hn;have HG:=Lib.hid hg;have HW:Hid (∀w',Below w.heap.size w w'→Calls Tryz.prog 9 #[] w' fun e w''=>e=.returned (.bool true)∧Below w'.heap.size w' w''):=fun w' hb=>awake24_c w' (ht.after hb)
 clear hs hf hn hg ht;have hK:=blk3a w #[.string a,.string b,.string c,.string d] #[.int .i64 lo,.int .i64 hi] #[.bool vn,.string va,.bool rn,.string ra,.slice st mt dt,.string sd,.int .i64 ti,.string C,.slice po np pc,.slice oo no oc] 35 23 45;have hX:=blk3b w #[.string a,.string b,.string c,.string d] #[.int .i64 lo,.int .i64 hi] #[.bool vn,.string va,.bool rn,.string ra,.slice st mt dt,.string sd,.int .i64 ti,.string C,.slice po np pc,.slice oo no oc] 35 23 45;have hD:=blk3c w #[.string a,.string b,.string c,.string d] #[.int .i64 lo,.int .i64 hi] #[.bool vn,.string va,.bool rn,.string ra,.slice st mt dt,.string sd,.int .i64 ti,.string C,.slice po np pc,.slice oo no oc] 35 23 45;have hBW:=b3 w (.cells #[.string a,.string b,.string c,.string d] 35) (.cells #[.int .i64 lo,.int .i64 hi] 23) (.cells #[.bool vn,.string va,.bool rn,.string ra,.slice st mt dt,.string sd,.int .i64 ti,.string C,.slice po np pc,.slice oo no oc] 45);obtain ⟨gX,hgX⟩:∃g,w.heap.size+1=g:=⟨_,rfl⟩;obtain ⟨gD,hgD⟩:∃g,w.heap.size+1+1=g:=⟨_,rfl⟩;have HG1:=Lib.hid hgX;have HG2:=Lib.hid hgD;clear hgX hgD;go_enter Tryz.func5,Tryz.ntmps5
 go_upto_region 1 with fail
 rw [HG2.out,HG1.out];replace hX:Blk _ gX 23 [.int .i64 lo,.int .i64 hi]:=HG1.out ▸ hX;replace hD:Blk _ gD 45 [.bool vn,.string va,.bool rn,.string ra,.slice st mt dt,.string sd,.int .i64 ti,.string C,.slice po np pc,.slice oo no oc]:=HG2.out ▸ hD;generalize ((w.alloc (.cells #[.string a,.string b,.string c,.string d] 35)).alloc (.cells #[.int .i64 lo,.int .i64 hi] 23)).alloc (.cells #[.bool vn,.string va,.bool rn,.string ra,.slice st mt dt,.string sd,.int .i64 ti,.string C,.slice po np pc,.slice oo no oc] 45)=w1 at hK hX hD hBW ⊢;obtain ⟨gK,hgK⟩:∃g,g=w.heap.size:=⟨_,rfl⟩;rw [←hgK] at hK ⊢;replace hK:Blk w1 gK 35 [.string a,.string b,.string c,.string d]:=hK;clear hgK HG1 HG2;have hKl:=hK.lt;obtain ⟨hKc0,hKf0,hKc1,hKf1,hKc2,hKf2,hKc3,hKf3⟩:=hK.x4;go_wp2_with fail
 refine (HSM.out _).mono ?_;rintro e w2 ⟨rfl,hb⟩;clear hKc0 hKf0 hKc1 hKf1 hKc2 hKf2 hKc3 hKf3;clear hKl;replace hK:=hK.after hb;replace hX:=hX.after hb;replace hD:=hD.after hb;replace hBW:=bt hBW hb;clear hb;cases q1
 case false =>
  go_wp2_with fail
  refine (HW.out _ hBW).mono ?_;rintro e w3 ⟨rfl,hb⟩;go_wp2;go_ret
  exact ⟨rfl,bt hBW hb⟩
 have hDl:=hD.lt;obtain ⟨hDc0,hDf0,hDc1,hDf1,hDc2,hDf2,hDc3,hDf3,hDc4,hDf4,hDc5,hDf5,hDc6,hDf6,hDc7,hDf7,hDc8,hDf8,hDc9,hDf9⟩:=hD.x10;go_wp2_with fail
 refine (HFE.out _ hBW).mono ?_;rintro e w3 ⟨rfl,hb⟩;clear hDc0 hDf0 hDc1 hDf1 hDc2 hDf2 hDc3 hDf3 hDc4 hDf4 hDc5 hDf5 hDc6 hDf6 hDc7 hDf7 hDc8 hDf8 hDc9 hDf9;clear hDl;replace hK:=hK.after hb;replace hX:=hX.after hb;replace hD:=hD.after hb;replace hBW:=bt hBW hb;clear hb;cases q2
 case false =>
  go_wp2_with fail
  refine (HW.out _ hBW).mono ?_;rintro e w4 ⟨rfl,hb⟩;go_wp2;go_ret
  exact ⟨rfl,bt hBW hb⟩
 have hXl:=hX.lt;obtain ⟨hXc0,hXf0,hXc1,hXf1⟩:=hX.x2;go_wp2_with fail
 refine (HNA.out _).mono ?_;rintro e w4 ⟨rfl,hb⟩;clear hXc0 hXf0 hXc1 hXf1;clear hXl;replace hK:=hK.after hb;replace hX:=hX.after hb;replace hD:=hD.after hb;replace hBW:=bt hBW hb;clear hb;cases q3
 case false =>
  go_wp2_with fail
  refine (HW.out _ hBW).mono ?_;rintro e w5 ⟨rfl,hb⟩;go_wp2;go_ret
  exact ⟨rfl,bt hBW hb⟩
 obtain ⟨R,hZ,hgo⟩:=HG.out (by trivial) (by trivial) (by trivial);have HX:=Lib.hid hgo;have HZ:=Lib.hid hZ;clear hgo hZ HG HSM HFE HNA;have hKl:=hK.lt;have hXl:=hX.lt;have hDl:=hD.lt;obtain ⟨hKc0,hKf0,hKc1,hKf1,hKc2,hKf2,hKc3,hKf3⟩:=hK.x4;obtain ⟨hXc0,hXf0,hXc1,hXf1⟩:=hX.x2;obtain ⟨hDc0,hDf0,hDc1,hDf1,hDc2,hDf2,hDc3,hDf3,hDc4,hDf4,hDc5,hDf5,hDc6,hDf6,hDc7,hDf7,hDc8,hDf8,hDc9,hDf9⟩:=hD.x10;go_wp2_with fail
 refine (HX.out _ hBW).1.mono ?_;rintro e w5 ⟨p1,o1,t1,rfl,hp1,ho1,⟨x1,rfl,hx1⟩,hb⟩;clear hKc0 hKf0 hKc1 hKf1 hKc2 hKf2 hKc3 hKf3;clear hXc0 hXf0 hXc1 hXf1;clear hDc0 hDf0 hDc1 hDf1 hDc2 hDf2 hDc3 hDf3 hDc4 hDf4 hDc5 hDf5 hDc6 hDf6 hDc7 hDf7 hDc8 hDf8 hDc9 hDf9;clear hKl hXl hDl;replace hK:=hK.after hb;replace hX:=hX.after hb;replace hD:=hD.after hb;replace hBW:=bt hBW hb;have hpA:=NOwn.ss hp1;have hoA:=OOwn.os ho1;clear hp1 ho1 hb;obtain ⟨y1,c1,rfl⟩:=RAt.form hx1;have hU:=Blk.new w5 #[.slice y1 R.tp.vals.length c1,.string R.tp.seed,.int .i64 R.tp.pos] 42;have hbU:=b1 w5 (.cells #[.slice y1 R.tp.vals.length c1,.string R.tp.seed,.int .i64 R.tp.pos] 42);go_upto_region 4 with fail
 replace hK:=hK.after hbU;replace hX:=hX.after hbU;replace hD:=hD.after hbU;replace hBW:=bt hBW hbU;replace hpA:=SsAt.after hpA hbU;replace hoA:=OsAt.after hoA hbU;replace hx1:=SsAt.after hx1 hbU;generalize w5.alloc (.cells #[.slice y1 R.tp.vals.length c1,.string R.tp.seed,.int .i64 R.tp.pos] 42)=w6 at hU hK hX hD hBW hpA hoA hx1 hbU ⊢;obtain ⟨gU,hgU⟩:∃g,w5.heap.size=g:=⟨_,rfl⟩;rw [hgU] at hU ⊢;replace hU:Blk w6 gU 42 [.slice y1 R.tp.vals.length c1,.string R.tp.seed,.int .i64 R.tp.pos]:=hU;clear hgU hbU;have hKl:=hK.lt;have hXl:=hX.lt;have hDl:=hD.lt;obtain ⟨hKc0,hKf0,hKc1,hKf1,hKc2,hKf2,hKc3,hKf3⟩:=hK.x4;obtain ⟨hXc0,hXf0,hXc1,hXf1⟩:=hX.x2;obtain ⟨hDc0,hDf0,hDc1,hDf1,hDc2,hDf2,hDc3,hDf3,hDc4,hDf4,hDc5,hDf5,hDc6,hDf6,hDc7,hDf7,hDc8,hDf8,hDc9,hDf9⟩:=hD.x10;go_wp2_with fail
 refine (HX.out _ hBW).2.mono ?_;rintro e w7 ⟨p2,o2,t2,rfl,hp2,ho2,⟨x2,rfl,hx2⟩,hb⟩;clear hKc0 hKf0 hKc1 hKf1 hKc2 hKf2 hKc3 hKf3;clear hXc0 hXf0 hXc1 hXf1;clear hDc0 hDf0 hDc1 hDf1 hDc2 hDf2 hDc3 hDf3 hDc4 hDf4 hDc5 hDf5 hDc6 hDf6 hDc7 hDf7 hDc8 hDf8 hDc9 hDf9;clear hKl hXl hDl hK hX hD;have hpB:=NOwn.ss hp2;have hoB:=OOwn.os ho2;replace hBW:=bt hBW hb;replace hpA:=SsAt.after hpA hb;replace hoA:=OsAt.after hoA hb;replace hx1:=SsAt.after hx1 hb;replace hU:=hU.after hb;clear hp2 ho2 hb;obtain ⟨y2,c2,rfl⟩:=RAt.form hx2;have hV:=Blk.new w7 #[.slice y2 R.tp.vals.length c2,.string R.tp.seed,.int .i64 R.tp.pos] 42;have hbV:=b1 w7 (.cells #[.slice y2 R.tp.vals.length c2,.string R.tp.seed,.int .i64 R.tp.pos] 42);go_upto_region 5 with fail
 replace hBW:=bt hBW hbV;replace hpA:=SsAt.after hpA hbV;replace hoA:=OsAt.after hoA hbV;replace hx1:=SsAt.after hx1 hbV;replace hpB:=SsAt.after hpB hbV;replace hoB:=OsAt.after hoB hbV;replace hx2:=SsAt.after hx2 hbV;replace hU:=hU.after hbV;generalize w7.alloc (.cells #[.slice y2 R.tp.vals.length c2,.string R.tp.seed,.int .i64 R.tp.pos] 42)=w8 at hU hV hBW hpA hoA hx1 hpB hoB hx2 ⊢;obtain ⟨gV,hgV⟩:∃g,w7.heap.size=g:=⟨_,rfl⟩;rw [hgV] at hV ⊢;replace hV:Blk w8 gV 42 [.slice y2 R.tp.vals.length c2,.string R.tp.seed,.int .i64 R.tp.pos]:=hV;clear hgV hbV;go_wp2_with fail
 refine (eqNat_cV R.parts R.parts _ _ true _ HZ.out.1 HZ.out.1 hpA hpB (decide_eq_true rfl)).mono ?_;rintro e w9 ⟨rfl,hb⟩;replace hBW:=bt hBW hb;replace hoA:=OsAt.after hoA hb;replace hx1:=SsAt.after hx1 hb;replace hoB:=OsAt.after hoB hb;replace hx2:=SsAt.after hx2 hb;replace hU:=hU.after hb;replace hV:=hV.after hb;clear hb hpA hpB;go_wp2_with fail
 refine (sameOpn_c (R.ops.map nop) _ _ _ (by rw [List.length_map];exact HZ.out.2.1) hoA hoB).mono ?_;rintro e wA ⟨rfl,hb⟩;replace hBW:=bt hBW hb;replace hx1:=SsAt.after hx1 hb;replace hx2:=SsAt.after hx2 hb;replace hU:=hU.after hb;replace hV:=hV.after hb;clear hb hoA hoB;have hUl:=hU.lt;have hVl:=hV.lt;have hk:((R.err:Int)==(R.err:Int))=true:=by rw [beq_iff_eq]
 obtain ⟨hUc0,hUf0,hUc1,hUf1,hUc2,hUf2⟩:=hU.x3;obtain ⟨hVc0,hVf0,hVc1,hVf1,hVc2,hVf2⟩:=hV.x3;go_wp2_with fail
 refine (sameTp_c R.tp _ _ _ HZ.out.2.2 hx1 hx2).mono ?_;rintro e wB ⟨rfl,hb⟩;clear hUc0 hUf0 hUc1 hUf1 hUc2 hUf2;clear hVc0 hVf0 hVc1 hVf1 hVc2 hVf2;replace hBW:=bt hBW hb;clear hb hx1 hx2 hU hV hUl hVl;go_wp2_with fail
 refine (HW.out _ hBW).mono ?_;rintro e wC ⟨rfl,hb⟩;go_wp2;go_ret
 exact ⟨rfl,bt hBW hb⟩
theorem pw24_c (a b c d:ByteArray) (lo hi:Int) (vn:Bool) (va:ByteArray) (rn:Bool) (ra:ByteArray) (st:Option Addr) (mt dt:Nat) (sd:ByteArray) (ti:Int) (C:ByteArray) (po:Option Addr) (np pc:Nat) (oo:Option Addr) (no oc:Nat) (V P:List ByteArray) (O:List Opn) (w:World)
  (ha:a.size≤9223372036854775807) (hb:b.size≤9223372036854775807) (hc:c.size≤9223372036854775807) (hd:d.size≤9223372036854775807) (h1:-9223372036854775808≤lo) (h2:lo≤9223372036854775807) (h3:-9223372036854775808≤hi) (h4:hi≤9223372036854775807)
  (hva:va.size≤9223372036854775807) (hra:ra.size≤9223372036854775807) (hC:C.size≤9223372036854775807) (hsd:sd.size≤9223372036854775807) (hVn:V.length≤1000000000) (hPn:P.length≤1000000000) (hOn:O.length≤1000000000) (hVs:∀x∈V,x.size≤9223372036854775807) (hPs:∀x∈P,x.size≤9223372036854775807) (hOs:∀x∈O,x.va.size≤9223372036854775807∧x.ra.size≤9223372036854775807)
  (hV:SsAt w (.slice st mt dt) V) (hP:SsAt w (.slice po np pc) P) (hO:OsAt w (.slice oo no oc) O) (ht:TabW w) :
  Calls Tryz.prog 5 #[.agg #[.string a,.string b,.string c,.string d],.agg #[.int .i64 lo,.int .i64 hi],.agg #[.bool vn,.string va,.bool rn,.string ra,.slice st mt dt,.string sd,.int .i64 ti,.string C,.slice po np pc,.slice oo no oc]] w fun e w'=>e=.returned (.bool true)∧Below w.heap.size w w':=by
 refine pw24_walk a b c d lo hi vn va rn ra st mt dt sd ti C po np pc oo no oc w (smlK a b c d) (fwB C va ra sd O P V) (nrwB lo hi) ht (fun w'=>small24_c a b c d w' ha hb hc hd) (fun w' hbb=>few24_c vn va rn ra st mt dt sd ti C po np pc oo no oc V P O w' hva hra hC hsd hVn hPn hOn hVs hPs hOs (SsAt.after hV hbb) (SsAt.after hP hbb) (OsAt.after hO hbb)) (fun w'=>narrow24_c lo hi w' h1 h2 h3 h4) (fun g1 g2 g3=>?_);obtain ⟨k1,k2,k3,k4⟩:=smlK_inv g1;obtain ⟨f1,f2,f3,f4,f5,f6,f7,f8,f9,f10⟩:=fwB_inv g2;have hok:(Tp.mk V sd ti).Ok:=⟨by show V.length≤_;omega,fun x hx=>by have:=f10 x hx;omega,by show sd.size≤_;omega⟩;refine ⟨rgR attN a b c d lo hi vn va rn ra ⟨V,sd,ti⟩,rgR_len attN a b c d lo hi vn va rn ra ⟨V,sd,ti⟩ g3 (by show V.length≤_;omega),fun w' hbb=>⟨?_,?_⟩⟩
 ·exact rgprep_c attN a b c d lo hi vn va rn ra ⟨V,sd,ti⟩ _ w' (hatt sd w' (by omega) (ht.after hbb)) hok k1 k2 k3 k4 f6 f7 h1 h2 h3 h4 (SsAt.after hV hbb)
 ·exact rrgprep_c attN a b c d lo hi vn va rn ra ⟨V,sd,ti⟩ _ w' (ratt sd (by omega)) hok k1 k2 k3 k4 f6 f7 h1 h2 h3 h4 (SsAt.after hV hbb)
end
section
/- dominolaw24.RangeproofPrepares,second form: the row and its tied card: lifted. -/
open Go.RowKit Go.WideShapes Go.ChangeShapes Go.ChangeAt Go.Joins Go.Deep
open Go.ChangeMaps (open_string shut_string)
theorem rgpp_cond (H:Type) (enc:TypeId × Value→H) (os:Os):(DataW.whole enc Tryz.prog ((World.doorLaid Tryz.prog 24 os).forCall (fun _ _=>0) ⟨#[],#[.agg #[.string ⟨#[]⟩,.string ⟨#[]⟩,.string ⟨#[]⟩,.string ⟨#[]⟩],.agg #[.int .i64 0,.int .i64 0],.agg #[.bool false,.string ⟨#[]⟩,.bool false,.string ⟨#[]⟩,.slice none 0 0,.string ⟨#[]⟩,.int .i64 0,.string ⟨#[]⟩,.slice none 0 0,.slice none 0 0]],[]⟩).memory Tryz.f5.params.toList Rows.rangeproofPreparesSpec.vars false #[.agg #[.string ⟨#[]⟩,.string ⟨#[]⟩,.string ⟨#[]⟩,.string ⟨#[]⟩],.agg #[.int .i64 0,.int .i64 0],.agg #[.bool false,.string ⟨#[]⟩,.bool false,.string ⟨#[]⟩,.slice none 0 0,.string ⟨#[]⟩,.int .i64 0,.string ⟨#[]⟩,.slice none 0 0,.slice none 0 0]].toList 8).map (fun x=>Rows.uptoSmall H (x.1++x.2.1))=some true:=by kernel_rfl
theorem rgpp_lifted (os:Os) (started:os.Started) (H:Type) (enc:TypeId × Value→H) (F:Stop.Interp) :
  ReturnsInHanded {} Tryz.checked os 5 .any ((Rows.OpenSpec.upto Rows.rangeproofPreparesSpec).preRow enc Tryz.prog Tryz.f5 Rows.rangeproofPreparesUptoRow.domain false Rows.rangeproofPreparesUptoRow.laid) (((Rows.OpenSpec.upto Rows.rangeproofPreparesSpec).at F).post enc Tryz.prog Tryz.f5 false true false false):=by
 have hm:=rgpp_cond H enc os;obtain ⟨x,hx,hxs⟩:=Option.map_eq_some_iff.1 hm
 refine returnsInHanded_of_row (C:=Tryz.checked) (s:=Rows.OpenSpec.upto Rows.rangeproofPreparesSpec) own_knob started (by kernel_rfl) Tryz.func5
  (witness_row_atRef (enc:=enc) (C:=Tryz.checked) false (World.doorLaid Tryz.prog 24 os) #[.agg #[.string ⟨#[]⟩,.string ⟨#[]⟩,.string ⟨#[]⟩,.string ⟨#[]⟩],.agg #[.int .i64 0,.int .i64 0],.agg #[.bool false,.string ⟨#[]⟩,.bool false,.string ⟨#[]⟩,.slice none 0 0,.string ⟨#[]⟩,.int .i64 0,.string ⟨#[]⟩,.slice none 0 0,.slice none 0 0]] rfl (by kernel_rfl) (by kernel_rfl) (by kernel_rfl)
   (OpenSpec.preRow_of_cond 8 hx (by rfl) (fun k hk=>by cases hk;exact hxs) (by kernel_rfl) (door_met os _))) ?_
 intro W base args ds gs before hval0 hW0 _ hcond _ hX _ _;have hbnd:=bulk_max (hcond _ rfl);clear hcond;have hval:∀(j:Nat) t v,Tryz.f5.params[j]?=some t→args[j]?=some v→Value.okWide Tryz.prog W .any base t v:=hval0;have hW:DataW.Whole enc Tryz.prog Tryz.f5.params.toList Rows.rangeproofPreparesSpec.vars false W args.toList ds gs before:=hW0;clear hW0;have hW':=hW;obtain ⟨p,q,hA0,hV,rfl,_,_⟩:=hW;have hA:DataW.TrodAll enc Tryz.prog W 0 (fun _=>true) true Tryz.f5.params.toList args.toList ds p:=hA0;rw [Tryz.params5] at hA hval;obtain ⟨v0,vs0,d0,ds0,p0,q0,hargs,rfl,rfl,h0,r0⟩:=trodAll_cons hA;obtain ⟨v1,vs1,d1,ds1,p1,q1,rfl,rfl,rfl,h1,r1⟩:=trodAll_cons r0;obtain ⟨v2,vs2,d2,ds2,p2,q2,rfl,rfl,rfl,h2,r2⟩:=trodAll_cons r1;obtain ⟨rfl,rfl,rfl⟩:=trodAll_nil r2;obtain rfl:args=#[v0,v1,v2]:=by cases args;simp_all
 obtain ⟨rfl,rfl⟩:=trodVars_none hV;simp only [List.append_nil] at hW';have hlt:∀x∈p0++(p1++p2),x.block<W.heap.size:=fun x hx=>hW'.lt x hx
 have hbk3:Rows.uptoBulk d2≤1048576:=Nat.le_trans (bulk_part (by simp)) hbnd;clear hbnd;have k0:=h0;have k1:=h1;have k2:=h2;obtain ⟨a,b,c,d,rfl,sa,sb,sc,sd⟩:=open_pedk (hval 0 35 v0 rfl rfl) h0;obtain ⟨lo,hi,rfl,hl1,hl2,hh1,hh2⟩:=open_rng (hval 1 23 v1 rfl rfl) h1;obtain ⟨vn,va,rn,ra,st,mt,dt,se,ti,C,po,np,pc,oo,no,oc,V,P,O,rfl,sva,sra,sC,sse,hbk,sV,sP,sO,rV,rP,rO⟩:=open_case24 (hval 2 45 v2 rfl rfl) h2;obtain ⟨hbV,hbP,hbO⟩:=hbk;clear hA0 hval0 hA r0 h0 r1 h1 r2 h2;refine (pw24_c a b c d lo hi vn va rn ra st mt dt se ti C po np pc oo no oc V P O W sa sb sc sd hl1 hl2 hh1 hh2 sva sra sC sse (by omega) (by omega) (by omega) sV sP sO rV rP rO (tab_of_laid hX)).mono fun en W' hh=>?_
 obtain ⟨rfl,hb⟩:=hh
 have stay:∀{t:TypeId} (hr:Tryz.prog.readableRec t=true) (hrow:t<Tryz.prog.types.size) {v:Value} {d:DataW H} {ps:List MemPlace} (h:DataW.Trod enc Tryz.prog W 0 (fun _=>true) true t v d ps) (hl:∀z∈ps,z.block<W.heap.size) (sp:Nat→Bool) (hs:∀z∈ps,sp z.block=true),DataW.Trod enc Tryz.prog W' 0 sp true t v d ps:=
  fun hr hrow _ _ _ h hl sp hs=>WideElems.Trod_stays laid_out hr hrow h (fun z hz=>hb.same (hl z hz)) hs
 have hpost:Rows.rangeproofPreparesSpec.post enc Tryz.prog Tryz.f5 false true false false W _ (.bool true) W':=
  post_of_below (pa:=p0++(p1++(p2++[]))) (pv:=[]) hW' (fun _ _ _=>trodAll_cons_mk (shut_bool Tryz.underlying4 _) trodAll_mk0)
  (fun sp hs=>trodAll_cons_mk (stay (by kernel_rfl) (of_decide_eq_true (by kernel_rfl)) k0 (fun z hz=>hlt z (by simp [hz])) sp (fun z hz=>hs z (by simp [hz]))) (trodAll_cons_mk (stay (by kernel_rfl) (of_decide_eq_true (by kernel_rfl)) k1 (fun z hz=>hlt z (by simp [hz])) sp (fun z hz=>hs z (by simp [hz]))) (trodAll_cons_mk (stay (by kernel_rfl) (of_decide_eq_true (by kernel_rfl)) k2 (fun z hz=>hlt z (by simp [hz])) sp (fun z hz=>hs z (by simp [hz]))) trodAll_mk0))) (fun _ _=>rfl) (by simp) hb
  (ok_one (by kernel_rfl) rfl (okWide_bool_mk Tryz.underlying4 _))
 exact ⟨_,rfl,hpost⟩
end
section
/- dominolaw24.RangeproofPrepares,second form: the row and its tied card: without its card. -/
open Go.RowKit Go.WideShapes Go.ChangeShapes Go.ChangeAt Go.Joins Go.Deep
open Go.ChangeMaps (open_string shut_string)
theorem rgpp_facts:joinedFacts Tryz.prog 5 Tryz.f5 Rows.rangeproofPreparesSpec Rows.rangeproofPreparesUptoRow=true:=by
 unfold joinedFacts;rw [rgpp_k0,rgpp_k1,rgpp_k2,rgpp_k3,rgpp_k4,rgpp_k5,rgpp_k6,rgpp_k7,rgpp_k8,rgpp_k9,rgpp_k10];kernel_rfl
theorem rgpp_holds:Rows.RangeproofPreparesUptoSaid:=
 OpenClaim.holds_of_cond 5 Tryz.f5 rfl rfl rfl rfl rfl rfl rfl ⟨rfl,rfl,rfl,rfl,rfl⟩ rfl rfl rfl rfl rfl (by kernel_rfl) Tryz.func5 rgpp_facts
  (of_decide_eq_true (by kernel_rfl)) (by unfold Func.isWrapper;first | (rw [if_pos (by decide +kernel)];kernel_rfl) | (rw [if_neg (by decide +kernel)];exact ⟨rfl,rfl⟩))
  (fun os started H enc _ F=>by rw [OpenClaim.pre_eq_preRow];exact rgpp_lifted os started H enc F)
end
section
/- dominolaw24.RangeproofPrepares,second form: the row and its tied card: a closed fact. -/
open Go
theorem rgpp_c6:false=Rows.rangeproofPreparesUptoRow.goesBy Tryz.pinned.checked.prog:=by kernel_rfl
end
section
/- dominolaw24.RangeproofPrepares,second form: the row and its tied card: closed facts. -/
open Go
theorem rgpp_c2:Tryz.pinned.checked.prog.mainIs=some (true,"fc42e0e0a57166f47e3b6ca160b611345919af0c3d3be17fa9680d967dc65fe8".toList):=by kernel_rfl
theorem rgpp_c3:Tryz.prog.funcNamed "domino/dominolaw24.RangeproofPrepares"=some 5:=by kernel_rfl
end
section
open Go.RowKit Go.WideShapes Go.ChangeShapes Go.ChangeAt Go.Joins Go.Deep
open Go.ChangeMaps (open_string shut_string)
theorem rgpp_c1:Rows.rangeproofPreparesUptoRow.wfByText (Rows.OpenSpec.upto Rows.rangeproofPreparesSpec)=true:=by kernel_rfl
theorem rgpp_c4:false=Tryz.pinned.checked.prog.looks []:=by kernel_rfl
theorem rgpp_card:Rows.RangeproofPreparesUptoCardSaid:=
 Claim7.holds_tied_plain_at .later [] [.data,.data,.data] true (true,"fc42e0e0a57166f47e3b6ca160b611345919af0c3d3be17fa9680d967dc65fe8") false
  rgpp_holds (fun _ h=>by cases h) rgpp_c1 (fun _ h=>by cases h) rangeproofPreparesUpto_row_tie rfl ⟨rfl,rfl⟩ rgpp_c2 rfl
  (fun f fn hf hfn=>by
   obtain rfl:f=5:=Option.some.inj (rgpp_c3.symm.trans hf) |>.symm;obtain rfl:fn=Tryz.f5:=(Option.some.inj (Tryz.func5.symm.trans hfn)).symm
   exact ⟨rgpp_c4,fun j t ht=>by
    rw [Tryz.params5] at ht;have hm:t∈[35,23,45]:=by simpa using Array.mem_of_getElem? ht
    have hall:([35,23,45].all fun u=>!Tryz.prog.wantsStandIn u)=true:=by kernel_rfl
    exact (show Tryz.prog.wantsStandIn t=false by simpa using List.all_eq_true.1 hall t hm)⟩)
  rgpp_c6
end
end Go.Proofs.YtdoacbdkbbpamaaGreatDoor
