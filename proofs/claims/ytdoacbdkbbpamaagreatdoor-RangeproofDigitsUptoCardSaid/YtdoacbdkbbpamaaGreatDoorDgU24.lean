/- dominolaw24.RangeproofDigits,second form: the row and its tied card: card. -/
import Derived.Test.YtdoacbdkbbpamaaGreatDoorDgp24
import Derived.Test.YtdoacbdkbbpamaaGreatDoorAwn24
import Derived.Test.YtdoacbdkbbpamaaGreatDoorAwk24
import Derived.Test.YtdoacbdkbbpamaaGreatDoorRf24
import Derived.Test.YtdoacbdkbbpamaaGreatDoorRr24
import Derived.Test.YtdoacbdkbbpamaaGreatDoorEqn
import Derived.Test.YtdoacbdkbbpamaaGreatDoorIsm
import Derived.Test.YtdoacbdkbbpamaaGreatDoorPpU24K
import Derived.Test.YtdoacbdkbbpamaaGreatDoorCards
import Derived.Test.YtdoacbdkbbpamaaGreatDoorTie
import Derived.SevenTiedAt
import Derived.Deep.DeepHandedRow
import Derived.Deep.DeepWitnessRowRef
import Derived.JoinedCond
import Derived.Test.YtdoacbdkbbpamaaGreatDoorDgU24K
set_option linter.unusedVariables false
set_option linter.unusedSimpArgs false
set_option maxRecDepth 100000
set_option maxHeartbeats 16000000
namespace Go.Proofs.YtdoacbdkbbpamaaGreatDoor
section
/- RangeproofDigits: the law. -/
open Go.RowKit Go.Shelf
def vDg (gK gX:Nat) (q:ByteArray) (lo x:Int) (va:ByteArray):RVB:=fun st i u w=>match i with
 | 0=>u=.pointer (some ⟨gX,0,none⟩)
 | 1=>u=.int .i64 lo
 | 2=>u=.int .i64 x
 | 3=>u=.int .i64 (lo+x)
 | 4=>u=.agg #[.bool (sg (lo+x)),.string (E (lo+x).natAbs)]
 | 5=>u=.pointer (some ⟨gK,0,none⟩)
 | 6=>u=.pointer (some ⟨gK,1,none⟩)
 | 7=>u=.string q
 | 8=>u=.tuple #[.string va,.int .i64 0]
 | 9=>u=.tuple #[.string va,.int .i64 0]
 | 10=>u=.string va
 | 11=>u=.int .i64 0
 | 12=>u=.string va
 | 13=>u=.int .i64 0
 | _=>True
theorem vDg_any (gK gX:Nat) (q:ByteArray) (lo x:Int) (va:ByteArray):∀(l:List Bool) (j:Nat) (u:Value) (w w':World),Below w.heap.size w w'→vDg gK gX q lo x va l j u w→vDg gK gX q lo x va l j u w':=by
 intro l j u w w' _ h;unfold vDg at h ⊢;exact h
def vDo (gK gB pb po k m pc:Nat) (K:Array Value) (s x r:ByteArray):RVB:=fun st i u w=>match i with
 | 0=>u=.agg K
 | 1=>u=.slice (some ⟨pb,po,none⟩) m pc
 | 2=>u=.int .i64 (k:Int)
 | 3=>u=.pointer (some ⟨pb,po+k,none⟩)
 | 4=>u=.string s
 | 5=>u=.agg #[.bool false,.string x,.bool false,.string r]
 | 6=>u=.bool true
 | 7=>u=.bool false
 | _=>True
theorem vDo_any (gK gB pb po k m pc:Nat) (K:Array Value) (s x r:ByteArray):∀(l:List Bool) (j:Nat) (u:Value) (w w':World),Below w.heap.size w w'→vDo gK gB pb po k m pc K s x r l j u w→vDo gK gB pb po k m pc K s x r l j u w':=by
 intro l j u w w' _ h;unfold vDo at h ⊢;exact h
theorem dg24_walk (a b c d:ByteArray) (lo hi:Int) (vn:Bool) (va:ByteArray) (rn:Bool) (ra:ByteArray) (st:Option Addr) (mt dt:Nat) (sd:ByteArray) (ti:Int) (C:ByteArray) (po:Option Addr) (np pc:Nat) (oo:Option Addr) (no oc:Nat) (w:World) (q1 q2 q3:Bool) (ht:TabW w)
  (hs:∀w':World,Calls Tryz.prog 10 #[.agg #[.string a,.string b,.string c,.string d],.slice none 0 0] w' fun e w2=>e=.returned (.bool q1)∧Below w'.heap.size w' w2)
  (hf:∀w',Below w.heap.size w w'→Calls Tryz.prog 11 #[.agg #[.bool vn,.string va,.bool rn,.string ra,.slice st mt dt,.string sd,.int .i64 ti,.string C,.slice po np pc,.slice oo no oc]] w' fun e w2=>e=.returned (.bool q2)∧Below w'.heap.size w' w2)
  (hn:∀w':World,Calls Tryz.prog 12 #[.agg #[.int .i64 lo,.int .i64 hi]] w' fun e w2=>e=.returned (.bool q3)∧Below w'.heap.size w' w2)
  (hg:q1=true→q2=true→q3=true→∃(R:PrR) (n x y:Nat),(R.parts.length≤1000∧R.ops.length≤1000)∧(∀w',Below w.heap.size w w'→Calls Tryz.prog 13 #[.agg #[.string a,.string b,.string c,.string d],.int .i64 lo,.int .i64 hi,.agg #[.bool vn,.string va,.bool rn,.string ra],.agg #[.slice st mt dt,.string sd,.int .i64 ti]] w' (PrPost w' R)) ∧
   (R.err≠0→R.parts.length=0∧R.ops.length=0) ∧
   (R.err=0→R.parts.length=n+n∧R.ops.length=n+n ∧
    (∀(v:Value) (w':World),OsAt w' v ((R.ops.take n).map nop)→Calls Tryz.prog 14 #[v] w' fun e w''=>e=.returned (.tuple #[.int .i64 (x:Int),.int .i64 0])∧Below w'.heap.size w' w'') ∧
    (∀(v:Value) (w':World),OsAt w' v ((R.ops.drop n).map nop)→Calls Tryz.prog 14 #[v] w' fun e w''=>e=.returned (.tuple #[.int .i64 (y:Int),.int .i64 0])∧Below w'.heap.size w' w'') ∧
    (∀(k:Nat) (h1:k<R.parts.length) (h2:k<R.ops.length) (w':World),Calls Tryz.prog 15 #[.agg #[.string a,.string b,.string c,.string d],.string (E R.parts[k]),.agg #[.bool false,.string (E R.ops[k].1),.bool false,.string (E R.ops[k].2)]] w' fun e w''=>e=.returned (.bool true)∧Below w'.heap.size w' w'') ∧
    (0<n→∃ok:Bool,(∀w':World,Calls Tryz.prog 16 #[.agg #[.string a,.string b,.string c,.string d],.int .i64 lo,.int .i64 hi,.string va] w' fun e w''=>e=.returned (.tuple #[.int .i64 (x:Int),.bool ok])∧Below w'.heap.size w' w'') ∧
     (ok=false→x=0∧y=0) ∧
     (ok=true→(x:Int)+(y:Int)=hi-lo∧wrap64 (lo+(x:Int))=lo+(x:Int)∧wrap64 (hi-lo)=hi-lo ∧
      (∀w':World,Calls Tryz.prog 18 #[.int .i64 (lo+(x:Int))] w' fun e w''=>e=.returned (.agg #[.bool (sg (lo+(x:Int))),.string (E (lo+(x:Int)).natAbs)])∧Below w'.heap.size w' w'') ∧
      (∀w':World,Calls Tryz.prog 17 #[.agg #[.bool (sg (lo+(x:Int))),.string (E (lo+(x:Int)).natAbs)],.string b] w' fun e w''=>e=.returned (.tuple #[.string va,.int .i64 0])∧Below w'.heap.size w' w''))))) :
  Calls Tryz.prog 4 #[.agg #[.string a,.string b,.string c,.string d],.agg #[.int .i64 lo,.int .i64 hi],.agg #[.bool vn,.string va,.bool rn,.string ra,.slice st mt dt,.string sd,.int .i64 ti,.string C,.slice po np pc,.slice oo no oc]] w fun e w'=>e=.returned (.bool true)∧Below w.heap.size w w':=by
 have HSM:=Lib.hid hs;have HFE:=Lib.hid hf;have HNA:=Lib.hid hn;have HG:=Lib.hid hg;have HW:Hid (∀w',Below w.heap.size w w'→Calls Tryz.prog 9 #[] w' fun e w''=>e=.returned (.bool true)∧Below w'.heap.size w' w''):=fun w' hb=>awake24_c w' (ht.after hb)
 clear hs hf hn hg ht;have hK:=blk3a w #[.string a,.string b,.string c,.string d] #[.int .i64 lo,.int .i64 hi] #[.bool vn,.string va,.bool rn,.string ra,.slice st mt dt,.string sd,.int .i64 ti,.string C,.slice po np pc,.slice oo no oc] 35 23 45;have hX:=blk3b w #[.string a,.string b,.string c,.string d] #[.int .i64 lo,.int .i64 hi] #[.bool vn,.string va,.bool rn,.string ra,.slice st mt dt,.string sd,.int .i64 ti,.string C,.slice po np pc,.slice oo no oc] 35 23 45;have hD:=blk3c w #[.string a,.string b,.string c,.string d] #[.int .i64 lo,.int .i64 hi] #[.bool vn,.string va,.bool rn,.string ra,.slice st mt dt,.string sd,.int .i64 ti,.string C,.slice po np pc,.slice oo no oc] 35 23 45;have hBW:=b3 w (.cells #[.string a,.string b,.string c,.string d] 35) (.cells #[.int .i64 lo,.int .i64 hi] 23) (.cells #[.bool vn,.string va,.bool rn,.string ra,.slice st mt dt,.string sd,.int .i64 ti,.string C,.slice po np pc,.slice oo no oc] 45);obtain ⟨gX,hgX⟩:∃g,w.heap.size+1=g:=⟨_,rfl⟩;obtain ⟨gD,hgD⟩:∃g,w.heap.size+1+1=g:=⟨_,rfl⟩;have HG1:=Lib.hid hgX;have HG2:=Lib.hid hgD;clear hgX hgD;go_enter Tryz.func4,Tryz.ntmps4
 go_upto_region 1 with fail
 rw [HG2.out,HG1.out];replace hX:Blk _ gX 23 [.int .i64 lo,.int .i64 hi]:=HG1.out ▸ hX;replace hD:Blk _ gD 45 [.bool vn,.string va,.bool rn,.string ra,.slice st mt dt,.string sd,.int .i64 ti,.string C,.slice po np pc,.slice oo no oc]:=HG2.out ▸ hD;generalize ((w.alloc (.cells #[.string a,.string b,.string c,.string d] 35)).alloc (.cells #[.int .i64 lo,.int .i64 hi] 23)).alloc (.cells #[.bool vn,.string va,.bool rn,.string ra,.slice st mt dt,.string sd,.int .i64 ti,.string C,.slice po np pc,.slice oo no oc] 45)=w1 at hK hX hD hBW ⊢;obtain ⟨gK,hgK⟩:∃g,g=w.heap.size:=⟨_,rfl⟩;rw [←hgK] at hK ⊢;replace hK:Blk w1 gK 35 [.string a,.string b,.string c,.string d]:=hK;clear hgK HG1 HG2;have hKl:=hK.lt;obtain ⟨hKc0,hKf0,hKc1,hKf1,hKc2,hKf2,hKc3,hKf3⟩:=hK.x4;go_wp2_with fail
 refine (HSM.out _).mono ?_;rintro e w2 ⟨rfl,hb⟩;clear hKc0 hKf0 hKc1 hKf1 hKc2 hKf2 hKc3 hKf3;clear hKl;replace hK:=hK.after hb;replace hX:=hX.after hb;replace hD:=hD.after hb;replace hBW:=bt hBW hb;clear hb;cases q1
 case false =>
  go_wp2_with fail
  refine (HW.out _ hBW).mono ?_;rintro e w3 ⟨rfl,hb⟩;go_wp2;go_ret
  exact ⟨rfl,bt hBW hb⟩
 have hDl:=hD.lt;obtain ⟨hDc0,hDf0,hDc1,hDf1,hDc2,hDf2,hDc3,hDf3,hDc4,hDf4,hDc5,hDf5,hDc6,hDf6,hDc7,hDf7,hDc8,hDf8,hDc9,hDf9⟩:=hD.x10;go_wp2_with fail
 refine (HFE.out _ hBW).mono ?_;rintro e w3 ⟨rfl,hb⟩;clear hDc0 hDf0 hDc1 hDf1 hDc2 hDf2 hDc3 hDf3 hDc4 hDf4 hDc5 hDf5 hDc6 hDf6 hDc7 hDf7 hDc8 hDf8 hDc9 hDf9;clear hDl;replace hK:=hK.after hb;replace hX:=hX.after hb;replace hD:=hD.after hb;replace hBW:=bt hBW hb;clear hb;cases q2
 case false =>
  go_wp2_with fail
  refine (HW.out _ hBW).mono ?_;rintro e w4 ⟨rfl,hb⟩;go_wp2;go_ret
  exact ⟨rfl,bt hBW hb⟩
 have hXl:=hX.lt;obtain ⟨hXc0,hXf0,hXc1,hXf1⟩:=hX.x2;go_wp2_with fail
 refine (HNA.out _).mono ?_;rintro e w4 ⟨rfl,hb⟩;clear hXc0 hXf0 hXc1 hXf1;clear hXl;replace hK:=hK.after hb;replace hX:=hX.after hb;replace hD:=hD.after hb;replace hBW:=bt hBW hb;clear hb;cases q3
 case false =>
  go_wp2_with fail
  refine (HW.out _ hBW).mono ?_;rintro e w5 ⟨rfl,hb⟩;go_wp2;go_ret
  exact ⟨rfl,bt hBW hb⟩
 obtain ⟨R,n,x,y,hZ,hgo,hbad,hgood⟩:=HG.out (by trivial) (by trivial) (by trivial);have HX:=Lib.hid hgo;have HZ:=Lib.hid hZ;have HBD:=Lib.hid hbad;have HGD:=Lib.hid hgood;clear hgo hZ hbad hgood HG HSM HFE HNA;have hKl:=hK.lt;have hXl:=hX.lt;have hDl:=hD.lt;obtain ⟨hKc0,hKf0,hKc1,hKf1,hKc2,hKf2,hKc3,hKf3⟩:=hK.x4;obtain ⟨hXc0,hXf0,hXc1,hXf1⟩:=hX.x2;obtain ⟨hDc0,hDf0,hDc1,hDf1,hDc2,hDf2,hDc3,hDf3,hDc4,hDf4,hDc5,hDf5,hDc6,hDf6,hDc7,hDf7,hDc8,hDf8,hDc9,hDf9⟩:=hD.x10;go_wp2_with fail
 refine (HX.out _ hBW).mono ?_;rintro e w5 ⟨p1,o1,t1,rfl,hp1,ho1,⟨x1,rfl,hx1⟩,hb⟩;clear hKc0 hKf0 hKc1 hKf1 hKc2 hKf2 hKc3 hKf3;clear hXc0 hXf0 hXc1 hXf1;clear hDc0 hDf0 hDc1 hDf1 hDc2 hDf2 hDc3 hDf3 hDc4 hDf4 hDc5 hDf5 hDc6 hDf6 hDc7 hDf7 hDc8 hDf8 hDc9 hDf9;clear hKl hXl hDl HX;replace hK:=hK.after hb;replace hX:=hX.after hb;replace hD:=hD.after hb;replace hBW:=bt hBW hb;have hpA:=NOwn.ss hp1;have hoA:=OOwn.os ho1;obtain ⟨y1,c1,rfl⟩:=RAt.form hx1;obtain ⟨pa,pc1,hpf⟩:=RAt.form hpA;obtain ⟨oa,oc1,hof⟩:=RAt.form hoA;rw [List.length_map] at hpf hof;clear hp1 hb hx1;have hbU:=b1 w5 (.cells #[.slice y1 R.tp.vals.length c1,.string R.tp.seed,.int .i64 R.tp.pos] 42);by_cases he:R.err=0
 case neg =>
  obtain ⟨e1,e2⟩:=HBD.out he;rw [e1] at hpf;rw [e2] at hof;subst hpf hof;have hk:((R.err:Int) != 0)=true:=by rw [bne_iff_ne];omega
  go_upto_region 4 with fail
  replace hBW:=bt hBW hbU;generalize w5.alloc (.cells #[.slice y1 R.tp.vals.length c1,.string R.tp.seed,.int .i64 R.tp.pos] 42)=w6 at hBW ⊢;clear hbU hpA hoA ho1 hK hX hD HGD HBD HZ e1 e2 he;go_wp2_with fail
  refine (HW.out _ hBW).mono ?_;rintro e w7 ⟨rfl,hb⟩;go_wp2;go_ret
  exact ⟨rfl,bt hBW hb⟩
 obtain ⟨e1,e2,hva1,hva2,hop,hds⟩:=HGD.out he;have HV1:=Lib.hid hva1;have HV2:=Lib.hid hva2;have HOP:=Lib.hid hop;have HDS:=Lib.hid hds;obtain ⟨v1,v2,hs1,hs2,hO1,hO2⟩:=os_parts ho1 n (by omega);obtain ⟨m,hm⟩:∃m,m=n+n:=⟨_,rfl⟩;have hE1:R.parts.length=m:=e1.trans hm.symm;have hE2:R.ops.length=m:=e2.trans hm.symm;rw [hE1] at hpf;rw [hE2] at hof;subst hpf hof;have HM:=Lib.hid hm;have HE1:=Lib.hid hE1;have HE2:=Lib.hid hE2;have HNB:Hid (m≤1000∧n≤500):=by have:=HZ.out;rw [Hid];omega
 have hk:((R.err:Int) != 0)=false:=by rw [he];rfl
 have hmd:(m:Int) / 2=(n:Int):=by omega
 have hmr:(m:Int)%2=0:=by omega
 have hwn:wrap64 (n:Int)=(n:Int):=IntWalk.wrap64_in _ (by have:=HNB.out;omega);clear hva1 hva2 hop hds hm hE1 hE2 e1 e2 HGD HBD HZ ho1;go_upto_region 4 with fail
 replace hK:=hK.after hbU;replace hX:=hX.after hbU;replace hD:=hD.after hbU;replace hBW:=bt hBW hbU;replace hpA:=SsAt.after hpA hbU;replace hoA:=OsAt.after hoA hbU;replace hO1:=OsAt.after hO1 hbU;replace hO2:=OsAt.after hO2 hbU;generalize w5.alloc (.cells #[.slice y1 R.tp.vals.length c1,.string R.tp.seed,.int .i64 R.tp.pos] 42)=w6 at hK hX hD hBW hpA hoA hO1 hO2 ⊢;clear hbU hk he;go_upto_region 7 with fail
 go_wp2_with fail
 refine (HV1.out v1 _ hO1).mono ?_;rintro e w7 ⟨rfl,hb⟩;replace hK:=hK.after hb;replace hX:=hX.after hb;replace hD:=hD.after hb;replace hBW:=bt hBW hb;replace hpA:=SsAt.after hpA hb;replace hoA:=OsAt.after hoA hb;replace hO2:=OsAt.after hO2 hb;clear hb hO1 HV1 hs1;go_wp2_with fail
 refine (HV2.out v2 _ hO2).mono ?_;rintro e w8 ⟨rfl,hb⟩;replace hK:=hK.after hb;replace hX:=hX.after hb;replace hD:=hD.after hb;replace hBW:=bt hBW hb;replace hpA:=SsAt.after hpA hb;replace hoA:=OsAt.after hoA hb;clear hb hO2 HV2 hs2;go_upto_region 12 with fail
 clear hmd hmr hwn;go_loopw [102] (fun i wr=>∃k:Nat,k≤m∧i=.int .i64 k∧Below w8.heap.size w8 wr) (fun i _=>m-(intOf i).toNat)
 case atStart=>exact ⟨0,by omega,rfl,by first | exact Below.refl _ _ | exact Below.drew (Below.refl _ _)⟩
 case round =>
  obtain ⟨k,hk,rfl,hbr⟩:=hrel;obtain ⟨wp,hwp⟩:∃wp,wp=wr:=⟨_,rfl⟩;subst hwp;replace hK:=hK.after hbr;replace hX:=hX.after hbr;replace hD:=hD.after hbr;replace hBW:=bt hBW hbr;have hpR:=SsAt.after hpA hbr;have hoR:=OsAt.after hoA hbr;by_cases hlt:k<m
  ·have hk1:k<R.parts.length:=by rw [HE1.out];exact hlt
   have hk2:k<R.ops.length:=by rw [HE2.out];exact hlt
   obtain ⟨bb,o,rfl,hbb,x1,x2,x3,x4⟩:=OsAt.at_ hoR (by rw [List.length_map];exact hk2);obtain ⟨pb,po',rfl,hpb,y1'⟩:=SsAt.at_ hpR (by rw [List.length_map];exact hk1);have h0k:(0:Int)≤(k:Int):=by omega
   have h1k:(k:Int)<(m:Int):=by omega
   have HO:=Lib.hid (HOP.out k hk1 hk2);simp only [List.getElem_map,nop] at x1 x2 x3 x4 y1';generalize R.parts[k]=pk at HO y1';generalize R.ops[k]=ok at HO x1 x2 x3 x4;have hB:=Blk.new wp #[.bool false,.string (E ok.1),.bool false,.string (E ok.2)] 39;have hbB:=b1 wp (.cells #[.bool false,.string (E ok.1),.bool false,.string (E ok.2)] 39);go_upto_region 14 with fail
   replace hK:=hK.after hbB;replace hX:=hX.after hbB;replace hD:=hD.after hbB;have hbn:=bt hbr hbB;have hcP:=y1';replace hcP:(wp.alloc (.cells #[.bool false,.string (E ok.1),.bool false,.string (E ok.2)] 39)).cell? ⟨pb,po'+k,none⟩=some (.string (E pk)):=by rw [←hcP];exact hbB.cell (p:=⟨pb,po'+k,none⟩) hpb
   generalize wp.alloc (.cells #[.bool false,.string (E ok.1),.bool false,.string (E ok.2)] 39)=w9 at hB hK hX hD hbn hcP hbB ⊢;obtain ⟨gB,hgB⟩:∃g,wp.heap.size=g:=⟨_,rfl⟩;rw [hgB] at hB ⊢;replace hB:Blk w9 gB 39 [.bool false,.string (E ok.1),.bool false,.string (E ok.2)]:=hB;have hpb9:pb<w9.heap.size:=Nat.lt_of_lt_of_le hpb hbB.size;clear hgB hbB x1 x2 x3 x4 hbb;refine wp_region_invB (vDo gK gB pb po' k m pc1 #[.string a,.string b,.string c,.string d] (E pk) (E ok.1) (E ok.2)) [] w9.heap.size (fun _ _=>True) 180 trivial (by kernel_rfl) rfl (by kernel_rfl) ?_ ?_ (by kernel_rfl)
   ·intro hsl done a' w' i o hJ ho hun hpre;have hi:=(Array.getElem?_eq_some_iff.1 ho).1;have hst:=vDo_any gK gB pb po' k m pc1 #[.string a,.string b,.string c,.string d] (E pk) (E ok.1) (E ok.2);have hFt:∀(b:List Bool) (w w':World),Below w.heap.size w w'→(fun (_:List Bool) (_:World)=>True) b w→(fun (_:List Bool) (_:World)=>True) b w':=fun _ _ _ _ _=>trivial
    have hwz:=hJ.bw.size;have hKx:=hK.after hJ.bw;have hBx:=hB.after hJ.bw;have hKl:=hKx.lt;have hBl:=hBx.lt;have x0:=hKx.cell 0;have x1:=hKx.cell 1;have x2:=hKx.cell 2;have x3:=hKx.cell 3;have z0:=hBx.cell 0;have z1:=hBx.cell 1;have z2:=hBx.cell 2;have z3:=hBx.cell 3;have hcx:w'.cell? ⟨pb,po'+k,none⟩=some (.string (E pk)):=by rw [←hcP];exact hJ.bw.cell (p:=⟨pb,po'+k,none⟩) hpb9
    match i,hi,ho,hun,hpre with
    | 0,_,ho,hun,hpre =>
     simp at ho;subst ho;refine hJ.op (d:=107) hsl hst hFt hwz rfl rfl rfl (by decide) hpre ?_;have q3:=hJ.keep 3 (.pointer (some ⟨gK,0,none⟩)) rfl (by kernel_rfl);refine wp_val (v:=.agg #[.string a,.string b,.string c,.string d]) (by simp [execOp,q3,go_sem,x0,x1,x2,x3]) rfl
    | 1,_,ho,hun,hpre =>
     simp at ho;subst ho;refine hJ.op (d:=108) hsl hst hFt hwz rfl rfl rfl (by decide) hpre ?_;have q7:=hJ.keep 7 (.slice (some ⟨pb,po',none⟩) m pc1) rfl (by kernel_rfl);refine wp_val (v:=.slice (some ⟨pb,po',none⟩) m pc1) (by simp [execOp,q7,go_sem]) rfl
    | 2,_,ho,hun,hpre =>
     simp at ho;subst ho;refine hJ.op (d:=109) hsl hst hFt hwz rfl rfl rfl (by decide) hpre ?_;have q16:=hJ.keep 16 (.int .i64 (k:Int)) rfl (by kernel_rfl);refine wp_val (v:=.int .i64 (k:Int)) (by simp [execOp,q16,go_sem]) rfl
    | 3,_,ho,hun,hpre =>
     simp at ho;subst ho;refine hJ.op (d:=110) hsl hst hFt hwz rfl rfl rfl (by decide) hpre ?_;obtain ⟨v108,ev108,hv108⟩:=hJ.dn 1 _ 108 rfl (hpre ⟨1,.data⟩ (by simp) rfl) rfl;have qv108:=eval_of ev108;obtain ⟨v109,ev109,hv109⟩:=hJ.dn 2 _ 109 rfl (hpre ⟨2,.data⟩ (by simp) rfl) rfl;have qv109:=eval_of ev109;obtain rfl:v108=.slice (some ⟨pb,po',none⟩) m pc1:=hv108;obtain rfl:v109=.int .i64 (k:Int):=hv109;refine wp_val (v:=.pointer (some ⟨pb,po'+k,none⟩)) (by simp [execOp,ev108,ev109,go_sem,h0k,h1k]) rfl
    | 4,_,ho,hun,hpre =>
     simp at ho;subst ho;refine hJ.op (d:=111) hsl hst hFt hwz rfl rfl rfl (by decide) hpre ?_;obtain ⟨v110,ev110,hv110⟩:=hJ.dn 3 _ 110 rfl (hpre ⟨3,.data⟩ (by simp) rfl) rfl;have qv110:=eval_of ev110;obtain rfl:v110=.pointer (some ⟨pb,po'+k,none⟩):=hv110;refine wp_val (v:=.string (E pk)) (by simp [execOp,ev110,go_sem,hcx]) rfl
    | 5,_,ho,hun,hpre =>
     simp at ho;subst ho;refine hJ.op (d:=112) hsl hst hFt hwz rfl rfl rfl (by decide) hpre ?_;have q17:=hJ.keep 17 (.pointer (some ⟨gB,0,none⟩)) rfl (by kernel_rfl);refine wp_val (v:=.agg #[.bool false,.string (E ok.1),.bool false,.string (E ok.2)]) (by simp [execOp,q17,go_sem,z0,z1,z2,z3]) rfl
    | 6,_,ho,hun,hpre =>
     simp at ho;subst ho;refine hJ.op (d:=113) hsl hst hFt hwz rfl rfl rfl (by decide) hpre ?_;obtain ⟨v107,ev107,hv107⟩:=hJ.dn 0 _ 107 rfl (hpre ⟨0,.data⟩ (by simp) rfl) rfl;have qv107:=eval_of ev107;obtain ⟨v111,ev111,hv111⟩:=hJ.dn 4 _ 111 rfl (hpre ⟨4,.data⟩ (by simp) rfl) rfl;have qv111:=eval_of ev111;obtain ⟨v112,ev112,hv112⟩:=hJ.dn 5 _ 112 rfl (hpre ⟨5,.data⟩ (by simp) rfl) rfl;have qv112:=eval_of ev112;obtain rfl:v107=.agg #[.string a,.string b,.string c,.string d]:=hv107;obtain rfl:v111=.string (E pk):=hv111;obtain rfl:v112=.agg #[.bool false,.string (E ok.1),.bool false,.string (E ok.2)]:=hv112;refine wp_callX 15 #[.tmp 107,.tmp 111,.tmp 112] #[35,31,39] rfl (enters_of Tryz.func15 (by kernel_rfl) rfl) ?_;simp only [List.map_toArray,List.map_cons,List.map_nil,qv107,qv111,qv112];refine (HO.out w').mono ?_;rintro e w'' ⟨rfl,hb⟩;exact ⟨_,rfl,hb,rfl⟩
    | 7,_,ho,hun,hpre =>
     simp at ho;subst ho;refine hJ.op (d:=114) hsl hst hFt hwz rfl rfl rfl (by decide) hpre ?_;obtain ⟨v113,ev113,hv113⟩:=hJ.dn 6 _ 113 rfl (hpre ⟨6,.data⟩ (by simp) rfl) rfl;have qv113:=eval_of ev113;obtain rfl:v113=.bool true:=hv113;refine wp_val (v:=.bool false) (by simp [execOp,ev113,go_sem]) rfl
   ·intro done a' w' hJ hd;obtain ⟨f9,hf,hv⟩:=hJ.all hd;have h9:f9 7=.bool false:=hv 7 _ 114 rfl rfl;have hbw:=hJ.bw;clear hJ hv hd;subst hf;simp only [putAll,List.size_toArray,List.length_cons,List.length_nil,Nat.reduceAdd,List.getElem?_toArray,List.getElem?_cons_zero,List.getElem?_cons_succ,Option.bind_some,Act.put,List.setIfInBounds_toArray,List.set_cons_zero,List.set_cons_succ];rw [h9];replace hbn:=bt hbn hbw;clear hbw hK hX hD hB hcP;have hm1000:=HNB.out.1;have hwk:wrap64 ((k:Int)+1)=(k:Int)+1:=IntWalk.wrap64_in _ (by omega);go_wp2_with fail
    go_roundw
    case rel=>exact ⟨k+1,by omega,by first | go_num | rfl,hbn⟩
    case measure=>simp [intOf];omega
  ·obtain rfl:k=m:=by omega
   clear hpR hoR hpA hoA HOP HE1 HE2;by_cases hn0:n=0
   case pos =>
    subst hn0;go_wp2_with fail
    refine (HW.out _ hBW).mono ?_;rintro e w9 ⟨rfl,hb⟩;go_wp2;go_ret
    exact ⟨rfl,bt hBW hb⟩
   case neg =>
    obtain ⟨okd,hds1,hds2,hds3⟩:=HDS.out (Nat.pos_of_ne_zero hn0);have HD1:=Lib.hid hds1;have HD2:=Lib.hid hds2;have HD3:=Lib.hid hds3;have hnz:((n:Int)==0)=false:=by rw [beq_eq_false_iff_ne];omega
    have hnz2:¬ (n:Int)=0:=by omega
    clear hds1 hds2 hds3 HDS;clear hn0;have hKl:=hK.lt;have hXl:=hX.lt;have hDl:=hD.lt;obtain ⟨hKc0,hKf0,hKc1,hKf1,hKc2,hKf2,hKc3,hKf3⟩:=hK.x4;obtain ⟨hXc0,hXf0,hXc1,hXf1⟩:=hX.x2;obtain ⟨hDc0,hDf0,hDc1,hDf1,hDc2,hDf2,hDc3,hDf3,hDc4,hDf4,hDc5,hDf5,hDc6,hDf6,hDc7,hDf7,hDc8,hDf8,hDc9,hDf9⟩:=hD.x10;go_wp2_with fail
    refine (HD1.out _).mono ?_;rintro e w9 ⟨rfl,hb⟩;clear hKc0 hKf0 hKc1 hKf1 hKc2 hKf2 hKc3 hKf3;clear hXc0 hXf0 hXc1 hXf1;clear hDc0 hDf0 hDc1 hDf1 hDc2 hDf2 hDc3 hDf3 hDc4 hDf4 hDc5 hDf5 hDc6 hDf6 hDc7 hDf7 hDc8 hDf8 hDc9 hDf9;clear hKl hXl hDl HD1;replace hK:=hK.after hb;replace hX:=hX.after hb;replace hD:=hD.after hb;replace hBW:=bt hBW hb;clear hb;cases okd
    case false =>
     obtain ⟨rfl,rfl⟩:=HD2.out rfl;go_wp2_with fail
     refine (HW.out _ hBW).mono ?_;rintro e w10 ⟨rfl,hb⟩;go_wp2;go_ret
     exact ⟨rfl,bt hBW hb⟩
    case true =>
     obtain ⟨hxy,hw1,hw2,hof,hmo⟩:=HD3.out rfl;have HXY:=Lib.hid hxy;have HW1:=Lib.hid hw1;have HW2:=Lib.hid hw2;have HO:=Lib.hid hof;have HM2:=Lib.hid hmo;clear hxy hw1 hw2 hof hmo HD3 HD2;go_upto_region 22 with fail
     refine wp_region_invB (vDg gK gX b lo (x:Int) va) [] w9.heap.size (fun _ _=>True) 180 trivial (by kernel_rfl) rfl (by kernel_rfl) ?_ ?_ (by kernel_rfl)
     ·intro hsl done a' w' i o hJ ho hun hpre;have hi:=(Array.getElem?_eq_some_iff.1 ho).1;have hst:=vDg_any gK gX b lo (x:Int) va;have hFt:∀(b:List Bool) (w w':World),Below w.heap.size w w'→(fun (_:List Bool) (_:World)=>True) b w→(fun (_:List Bool) (_:World)=>True) b w':=fun _ _ _ _ _=>trivial
      have hwz:=hJ.bw.size;have hKx:=hK.after hJ.bw;have hXx:=hX.after hJ.bw;have hKl:=hKx.lt;have hXl:=hXx.lt;have x1:=hKx.cell 1;have z0:=hXx.cell 0;have hw1:IntKind.wrap .i64 (lo+(x:Int))=lo+(x:Int):=(IntWalk.i64_left _).trans HW1.out;match i,hi,ho,hun,hpre with
      | 0,_,ho,hun,hpre =>
       simp at ho;subst ho;refine hJ.op (d:=144) hsl hst hFt hwz rfl rfl rfl (by decide) hpre ?_;have q4:=hJ.keep 4 (.pointer (some ⟨gX,0,none⟩)) rfl (by kernel_rfl);refine wp_val (v:=.pointer (some ⟨gX,0,none⟩)) (by simp [execOp,q4,go_sem]) rfl
      | 1,_,ho,hun,hpre =>
       simp at ho;subst ho;refine hJ.op (d:=145) hsl hst hFt hwz rfl rfl rfl (by decide) hpre ?_;obtain ⟨v144,ev144,hv144⟩:=hJ.dn 0 _ 144 rfl (hpre ⟨0,.data⟩ (by simp) rfl) rfl;have qv144:=eval_of ev144;obtain rfl:v144=.pointer (some ⟨gX,0,none⟩):=hv144;refine wp_val (v:=.int .i64 lo) (by simp [execOp,ev144,go_sem,z0]) rfl
      | 2,_,ho,hun,hpre =>
       simp at ho;subst ho;refine hJ.op (d:=146) hsl hst hFt hwz rfl rfl rfl (by decide) hpre ?_;have q12:=hJ.keep 12 (.int .i64 (x:Int)) rfl (by kernel_rfl);refine wp_val (v:=.int .i64 (x:Int)) (by simp [execOp,q12,go_sem]) rfl
      | 3,_,ho,hun,hpre =>
       simp at ho;subst ho;refine hJ.op (d:=147) hsl hst hFt hwz rfl rfl rfl (by decide) hpre ?_;obtain ⟨v145,ev145,hv145⟩:=hJ.dn 1 _ 145 rfl (hpre ⟨1,.data⟩ (by simp) rfl) rfl;have qv145:=eval_of ev145;obtain ⟨v146,ev146,hv146⟩:=hJ.dn 2 _ 146 rfl (hpre ⟨2,.data⟩ (by simp) rfl) rfl;have qv146:=eval_of ev146;obtain rfl:v145=.int .i64 lo:=hv145;obtain rfl:v146=.int .i64 (x:Int):=hv146;refine wp_val (v:=.int .i64 (lo+(x:Int))) (by simp [execOp,ev145,ev146,go_sem,hw1]) rfl
      | 4,_,ho,hun,hpre =>
       simp at ho;subst ho;refine hJ.op (d:=148) hsl hst hFt hwz rfl rfl rfl (by decide) hpre ?_;obtain ⟨v147,ev147,hv147⟩:=hJ.dn 3 _ 147 rfl (hpre ⟨3,.data⟩ (by simp) rfl) rfl;have qv147:=eval_of ev147;obtain rfl:v147=.int .i64 (lo+(x:Int)):=hv147;refine wp_callX 18 #[.tmp 147] #[2] rfl (enters_of Tryz.func18 (by kernel_rfl) rfl) ?_;simp only [List.map_toArray,List.map_cons,List.map_nil,qv147];refine (HO.out w').mono ?_;rintro e w'' ⟨rfl,hb⟩;exact ⟨_,rfl,hb,rfl⟩
      | 5,_,ho,hun,hpre =>
       simp at ho;subst ho;refine hJ.op (d:=149) hsl hst hFt hwz rfl rfl rfl (by decide) hpre ?_;have q3:=hJ.keep 3 (.pointer (some ⟨gK,0,none⟩)) rfl (by kernel_rfl);refine wp_val (v:=.pointer (some ⟨gK,0,none⟩)) (by simp [execOp,q3,go_sem]) rfl
      | 6,_,ho,hun,hpre =>
       simp at ho;subst ho;refine hJ.op (d:=150) hsl hst hFt hwz rfl rfl rfl (by decide) hpre ?_;obtain ⟨v149,ev149,hv149⟩:=hJ.dn 5 _ 149 rfl (hpre ⟨5,.data⟩ (by simp) rfl) rfl;have qv149:=eval_of ev149;obtain rfl:v149=.pointer (some ⟨gK,0,none⟩):=hv149;refine wp_val (v:=.pointer (some ⟨gK,1,none⟩)) (by simp [execOp,ev149,go_sem]) rfl
      | 7,_,ho,hun,hpre =>
       simp at ho;subst ho;refine hJ.op (d:=151) hsl hst hFt hwz rfl rfl rfl (by decide) hpre ?_;obtain ⟨v150,ev150,hv150⟩:=hJ.dn 6 _ 150 rfl (hpre ⟨6,.data⟩ (by simp) rfl) rfl;have qv150:=eval_of ev150;obtain rfl:v150=.pointer (some ⟨gK,1,none⟩):=hv150;refine wp_val (v:=.string b) (by simp [execOp,ev150,go_sem,x1]) rfl
      | 8,_,ho,hun,hpre =>
       simp at ho;subst ho;refine hJ.op (d:=152) hsl hst hFt hwz rfl rfl rfl (by decide) hpre ?_;obtain ⟨v148,ev148,hv148⟩:=hJ.dn 4 _ 148 rfl (hpre ⟨4,.data⟩ (by simp) rfl) rfl;have qv148:=eval_of ev148;obtain ⟨v151,ev151,hv151⟩:=hJ.dn 7 _ 151 rfl (hpre ⟨7,.data⟩ (by simp) rfl) rfl;have qv151:=eval_of ev151;obtain rfl:v148=.agg #[.bool (sg (lo+(x:Int))),.string (E (lo+(x:Int)).natAbs)]:=hv148;obtain rfl:v151=.string b:=hv151;refine wp_callX 17 #[.tmp 148,.tmp 151] #[37,31] rfl (enters_of Tryz.func17 (by kernel_rfl) rfl) ?_;simp only [List.map_toArray,List.map_cons,List.map_nil,qv148,qv151];refine (HM2.out w').mono ?_;rintro e w'' ⟨rfl,hb⟩;exact ⟨_,rfl,hb,rfl⟩
      | 9,_,ho,hun,hpre =>
       simp at ho;subst ho;refine hJ.op (d:=143) hsl hst hFt hwz rfl rfl rfl (by decide) hpre ?_;obtain ⟨v152,ev152,hv152⟩:=hJ.dn 8 _ 152 rfl (hpre ⟨8,.data⟩ (by simp) rfl) rfl;have qv152:=eval_of ev152;obtain rfl:v152=.tuple #[.string va,.int .i64 0]:=hv152;refine wp_val (v:=.tuple #[.string va,.int .i64 0]) (by simp [execOp,ev152,go_sem]) rfl
      | 10,_,ho,hun,hpre =>
       simp at ho;subst ho;refine hJ.op (d:=153) hsl hst hFt hwz rfl rfl rfl (by decide) hpre ?_;obtain ⟨v143,ev143,hv143⟩:=hJ.dn 9 _ 143 rfl (hpre ⟨9,.data⟩ (by simp) rfl) rfl;have qv143:=eval_of ev143;obtain rfl:v143=.tuple #[.string va,.int .i64 0]:=hv143;refine wp_val (v:=.string va) (by simp [execOp,ev143,go_sem]) rfl
      | 11,_,ho,hun,hpre =>
       simp at ho;subst ho;refine hJ.op (d:=154) hsl hst hFt hwz rfl rfl rfl (by decide) hpre ?_;obtain ⟨v143,ev143,hv143⟩:=hJ.dn 9 _ 143 rfl (hpre ⟨9,.data⟩ (by simp) rfl) rfl;have qv143:=eval_of ev143;obtain rfl:v143=.tuple #[.string va,.int .i64 0]:=hv143;refine wp_val (v:=.int .i64 0) (by simp [execOp,ev143,go_sem]) rfl
      | 12,_,ho,hun,hpre =>
       simp at ho;subst ho;refine hJ.op (d:=20) hsl hst hFt hwz rfl rfl rfl (by decide) hpre ?_;obtain ⟨v153,ev153,hv153⟩:=hJ.dn 10 _ 153 rfl (hpre ⟨10,.data⟩ (by simp) rfl) rfl;have qv153:=eval_of ev153;obtain rfl:v153=.string va:=hv153;refine wp_val (v:=.string va) (by simp [execOp,ev153,go_sem]) rfl
      | 13,_,ho,hun,hpre =>
       simp at ho;subst ho;refine hJ.op (d:=21) hsl hst hFt hwz rfl rfl rfl (by decide) hpre ?_;obtain ⟨v154,ev154,hv154⟩:=hJ.dn 11 _ 154 rfl (hpre ⟨11,.data⟩ (by simp) rfl) rfl;have qv154:=eval_of ev154;obtain rfl:v154=.int .i64 0:=hv154;refine wp_val (v:=.int .i64 0) (by simp [execOp,ev154,go_sem]) rfl
     ·intro done a' w' hJ hd;obtain ⟨f9,hf,hv⟩:=hJ.all hd;have h9:f9 12=.string va:=hv 12 _ 20 rfl rfl;have hbw:=hJ.bw;clear hJ hv hd;subst hf;simp only [putAll,List.size_toArray,List.length_cons,List.length_nil,Nat.reduceAdd,List.getElem?_toArray,List.getElem?_cons_zero,List.getElem?_cons_succ,Option.bind_some,Act.put,List.setIfInBounds_toArray,List.set_cons_zero,List.set_cons_succ];rw [h9];replace hK:=hK.after hbw;replace hX:=hX.after hbw;replace hD:=hD.after hbw;replace hBW:=bt hBW hbw;clear hbw;have hXl:=hX.lt;have hDl:=hD.lt;obtain ⟨hXc0,hXf0,hXc1,hXf1⟩:=hX.x2;obtain ⟨hDc0,hDf0,hDc1,hDf1,hDc2,hDf2,hDc3,hDf3,hDc4,hDf4,hDc5,hDf5,hDc6,hDf6,hDc7,hDf7,hDc8,hDf8,hDc9,hDf9⟩:=hD.x10;have hxy:wrap64 ((x:Int)+(y:Int))=hi-lo:=by rw [HXY.out];exact HW2.out
      have hw2:wrap64 (hi-lo)=hi-lo:=HW2.out;go_wp2_with fail
      refine (HW.out _ hBW).mono ?_;rintro e w10 ⟨rfl,hb⟩;go_wp2;go_ret
      exact ⟨rfl,bt hBW hb⟩
theorem dg24_c (a b c d:ByteArray) (lo hi:Int) (vn:Bool) (va:ByteArray) (rn:Bool) (ra:ByteArray) (st:Option Addr) (mt dt:Nat) (sd:ByteArray) (ti:Int) (C:ByteArray) (po:Option Addr) (np pc:Nat) (oo:Option Addr) (no oc:Nat) (V P:List ByteArray) (O:List Opn) (w:World)
  (ha:a.size≤9223372036854775807) (hb:b.size≤9223372036854775807) (hc:c.size≤9223372036854775807) (hd:d.size≤9223372036854775807) (h1:-9223372036854775808≤lo) (h2:lo≤9223372036854775807) (h3:-9223372036854775808≤hi) (h4:hi≤9223372036854775807)
  (hva:va.size≤9223372036854775807) (hra:ra.size≤9223372036854775807) (hC:C.size≤9223372036854775807) (hsd:sd.size≤9223372036854775807) (hVn:V.length≤1000000000) (hPn:P.length≤1000000000) (hOn:O.length≤1000000000) (hVs:∀x∈V,x.size≤9223372036854775807) (hPs:∀x∈P,x.size≤9223372036854775807) (hOs:∀x∈O,x.va.size≤9223372036854775807∧x.ra.size≤9223372036854775807)
  (hV:SsAt w (.slice st mt dt) V) (hP:SsAt w (.slice po np pc) P) (hO:OsAt w (.slice oo no oc) O) (ht:TabW w) :
  Calls Tryz.prog 4 #[.agg #[.string a,.string b,.string c,.string d],.agg #[.int .i64 lo,.int .i64 hi],.agg #[.bool vn,.string va,.bool rn,.string ra,.slice st mt dt,.string sd,.int .i64 ti,.string C,.slice po np pc,.slice oo no oc]] w fun e w'=>e=.returned (.bool true)∧Below w.heap.size w w':=by
 refine dg24_walk a b c d lo hi vn va rn ra st mt dt sd ti C po np pc oo no oc w (smlK a b c d) (fwB C va ra sd O P V) (nrwB lo hi) ht (fun w'=>small24_c a b c d w' ha hb hc hd) (fun w' hbb=>few24_c vn va rn ra st mt dt sd ti C po np pc oo no oc V P O w' hva hra hC hsd hVn hPn hOn hVs hPs hOs (SsAt.after hV hbb) (SsAt.after hP hbb) (OsAt.after hO hbb)) (fun w'=>narrow24_c lo hi w' h1 h2 h3 h4) (fun g1 g2 g3=>?_);obtain ⟨k1,k2,k3,k4⟩:=smlK_inv g1;obtain ⟨f1,f2,f3,f4,f5,f6,f7,f8,f9,f10⟩:=fwB_inv g2;have hok:(Tp.mk V sd ti).Ok:=⟨by show V.length≤_;omega,fun x hx=>by have:=f10 x hx;omega,by show sd.size≤_;omega⟩;have hl:=rgR_len attN a b c d lo hi vn va rn ra ⟨V,sd,ti⟩ g3 (by show V.length≤_;omega);have hdg:=rgR_dg attN a b c d lo hi vn va rn ra ⟨V,sd,ti⟩ k1 k2 k3 k4 f6 f7;have hpr:∀w',Below w.heap.size w w'→Calls Tryz.prog 13 #[.agg #[.string a,.string b,.string c,.string d],.int .i64 lo,.int .i64 hi,.agg #[.bool vn,.string va,.bool rn,.string ra],.agg #[.slice st mt dt,.string sd,.int .i64 ti]] w' (PrPost w' (rgR attN a b c d lo hi vn va rn ra ⟨V,sd,ti⟩)):=fun w' hbb=>rgprep_c attN a b c d lo hi vn va rn ra ⟨V,sd,ti⟩ _ w' (hatt sd w' (by omega) (ht.after hbb)) hok k1 k2 k3 k4 f6 f7 h1 h2 h3 h4 (SsAt.after hV hbb)
 generalize rgR attN a b c d lo hi vn va rn ra ⟨V,sd,ti⟩=R at hl hdg hpr
 have hbad:R.err≠0→R.parts.length=0∧R.ops.length=0:=fun he=>by
  obtain ⟨e1,e2⟩:=hdg.1 he;rw [e1,e2];exact ⟨rfl,rfl⟩
 by_cases he:R.err=0
 ·rcases hdg.2 he with hR | ⟨p,q,g,h,n,x,y,v,F⟩
  ·subst hR;refine ⟨_,0,0,0,⟨hl.1,hl.2.1⟩,hpr,hbad,fun _=>⟨rfl,rfl,fun u w' hu=>?_,fun u w' hu=>?_,fun k k1=>absurd k1 (Nat.not_lt_zero _),fun h=>absurd h (by decide)⟩⟩
   ·exact bval_c [] u w' (by simp) (by simp) hu
   ·exact bval_c [] u w' (by simp) (by simp) hu
  ·have hF:=F.len;have hn:=F.hn;refine ⟨R,n,x,y,⟨hl.1,hl.2.1⟩,hpr,hbad,fun _=>⟨hF.2,hF.1,fun u w' hu=>?_,fun u w' hu=>?_,fun k j1 j2 w'=>F.opens k j2 j1 w',fun _=>⟨(dstE q lo hi v).2,fun w'=>?_,F.nok,fun hok=>?_⟩⟩⟩
   ·have h9:=bval_c ((R.ops.take n).map nop) u w' (by rw [List.length_map,List.length_take];omega) (fun z hz=>F.sz z (by rw [List.map_take] at hz;exact List.mem_of_mem_take hz)) hu;rw [F.valx] at h9;exact h9
   ·have h9:=bval_c ((R.ops.drop n).map nop) u w' (by rw [List.length_map,List.length_drop];omega) (fun z hz=>F.sz z (by rw [List.map_drop] at hz;exact List.mem_of_mem_drop hz)) hu;rw [F.valy] at h9;exact h9
   ·have h9:=rdist_c p q g h v lo hi w' F.hq (by have:=F.h2;omega) F.hv h1 h2 F.hle F.hlt;rw [←F.ex] at h9;rw [F.ea,F.eb,F.ec,F.ed,F.ev];exact h9
   ·have e1:=F.sum hok;have e2:=F.hle;have e3:=F.hlt;have i64:(256:Nat)^8=18446744073709551616:=by decide
    refine ⟨e1,IntWalk.wrap64_in _ (by omega),IntWalk.wrap64_in _ (by omega),fun w'=>riof_c _ w' (by omega) (by omega),fun w'=>?_⟩;have h9:=rimod_c (lo+(x:Int)) q w' (Nat.lt_of_lt_of_le (show (lo+(x:Int)).natAbs<256^8 by omega) (Nat.pow_le_pow_right (by decide) (by decide))) (Nat.lt_of_lt_of_le F.hq (Nat.pow_le_pow_right (by decide) (by decide))) (by have:=F.h2;omega);rw [F.mod hok] at h9;rw [F.eb,F.ev];exact h9
 ·exact ⟨R,0,0,0,⟨hl.1,hl.2.1⟩,hpr,hbad,fun h=>absurd h he⟩
end
section
/- dominolaw24.RangeproofDigits,second form: the row and its tied card: lifted. -/
open Go.RowKit Go.WideShapes Go.ChangeShapes Go.ChangeAt Go.Joins Go.Deep
open Go.ChangeMaps (open_string shut_string)
theorem rgdg_cond (H:Type) (enc:TypeId × Value→H) (os:Os):(DataW.whole enc Tryz.prog ((World.doorLaid Tryz.prog 24 os).forCall (fun _ _=>0) ⟨#[],#[.agg #[.string ⟨#[]⟩,.string ⟨#[]⟩,.string ⟨#[]⟩,.string ⟨#[]⟩],.agg #[.int .i64 0,.int .i64 0],.agg #[.bool false,.string ⟨#[]⟩,.bool false,.string ⟨#[]⟩,.slice none 0 0,.string ⟨#[]⟩,.int .i64 0,.string ⟨#[]⟩,.slice none 0 0,.slice none 0 0]],[]⟩).memory Tryz.f4.params.toList Rows.rangeproofDigitsSpec.vars false #[.agg #[.string ⟨#[]⟩,.string ⟨#[]⟩,.string ⟨#[]⟩,.string ⟨#[]⟩],.agg #[.int .i64 0,.int .i64 0],.agg #[.bool false,.string ⟨#[]⟩,.bool false,.string ⟨#[]⟩,.slice none 0 0,.string ⟨#[]⟩,.int .i64 0,.string ⟨#[]⟩,.slice none 0 0,.slice none 0 0]].toList 8).map (fun x=>Rows.uptoSmall H (x.1++x.2.1))=some true:=by kernel_rfl
theorem rgdg_lifted (os:Os) (started:os.Started) (H:Type) (enc:TypeId × Value→H) (F:Stop.Interp) :
  ReturnsInHanded {} Tryz.checked os 4 .any ((Rows.OpenSpec.upto Rows.rangeproofDigitsSpec).preRow enc Tryz.prog Tryz.f4 Rows.rangeproofDigitsUptoRow.domain false Rows.rangeproofDigitsUptoRow.laid) (((Rows.OpenSpec.upto Rows.rangeproofDigitsSpec).at F).post enc Tryz.prog Tryz.f4 false true false false):=by
 have hm:=rgdg_cond H enc os;obtain ⟨x,hx,hxs⟩:=Option.map_eq_some_iff.1 hm
 refine returnsInHanded_of_row (C:=Tryz.checked) (s:=Rows.OpenSpec.upto Rows.rangeproofDigitsSpec) own_knob started (by kernel_rfl) Tryz.func4
  (witness_row_atRef (enc:=enc) (C:=Tryz.checked) false (World.doorLaid Tryz.prog 24 os) #[.agg #[.string ⟨#[]⟩,.string ⟨#[]⟩,.string ⟨#[]⟩,.string ⟨#[]⟩],.agg #[.int .i64 0,.int .i64 0],.agg #[.bool false,.string ⟨#[]⟩,.bool false,.string ⟨#[]⟩,.slice none 0 0,.string ⟨#[]⟩,.int .i64 0,.string ⟨#[]⟩,.slice none 0 0,.slice none 0 0]] rfl (by kernel_rfl) (by kernel_rfl) (by kernel_rfl)
   (OpenSpec.preRow_of_cond 8 hx (by rfl) (fun k hk=>by cases hk;exact hxs) (by kernel_rfl) (door_met os _))) ?_
 intro W base args ds gs before hval0 hW0 _ hcond _ hX _ _;have hbnd:=bulk_max (hcond _ rfl);clear hcond;have hval:∀(j:Nat) t v,Tryz.f4.params[j]?=some t→args[j]?=some v→Value.okWide Tryz.prog W .any base t v:=hval0;have hW:DataW.Whole enc Tryz.prog Tryz.f4.params.toList Rows.rangeproofDigitsSpec.vars false W args.toList ds gs before:=hW0;clear hW0;have hW':=hW;obtain ⟨p,q,hA0,hV,rfl,_,_⟩:=hW;have hA:DataW.TrodAll enc Tryz.prog W 0 (fun _=>true) true Tryz.f4.params.toList args.toList ds p:=hA0;rw [Tryz.params4] at hA hval;obtain ⟨v0,vs0,d0,ds0,p0,q0,hargs,rfl,rfl,h0,r0⟩:=trodAll_cons hA;obtain ⟨v1,vs1,d1,ds1,p1,q1,rfl,rfl,rfl,h1,r1⟩:=trodAll_cons r0;obtain ⟨v2,vs2,d2,ds2,p2,q2,rfl,rfl,rfl,h2,r2⟩:=trodAll_cons r1;obtain ⟨rfl,rfl,rfl⟩:=trodAll_nil r2;obtain rfl:args=#[v0,v1,v2]:=by cases args;simp_all
 obtain ⟨rfl,rfl⟩:=trodVars_none hV;simp only [List.append_nil] at hW';have hlt:∀x∈p0++(p1++p2),x.block<W.heap.size:=fun x hx=>hW'.lt x hx
 have hbk3:Rows.uptoBulk d2≤1048576:=Nat.le_trans (bulk_part (by simp)) hbnd;clear hbnd;have k0:=h0;have k1:=h1;have k2:=h2;obtain ⟨a,b,c,d,rfl,sa,sb,sc,sd⟩:=open_pedk (hval 0 35 v0 rfl rfl) h0;obtain ⟨lo,hi,rfl,hl1,hl2,hh1,hh2⟩:=open_rng (hval 1 23 v1 rfl rfl) h1;obtain ⟨vn,va,rn,ra,st,mt,dt,se,ti,C,po,np,pc,oo,no,oc,V,P,O,rfl,sva,sra,sC,sse,hbk,sV,sP,sO,rV,rP,rO⟩:=open_case24 (hval 2 45 v2 rfl rfl) h2;obtain ⟨hbV,hbP,hbO⟩:=hbk;clear hA0 hval0 hA r0 h0 r1 h1 r2 h2;refine (dg24_c a b c d lo hi vn va rn ra st mt dt se ti C po np pc oo no oc V P O W sa sb sc sd hl1 hl2 hh1 hh2 sva sra sC sse (by omega) (by omega) (by omega) sV sP sO rV rP rO (tab_of_laid hX)).mono fun en W' hh=>?_
 obtain ⟨rfl,hb⟩:=hh
 have stay:∀{t:TypeId} (hr:Tryz.prog.readableRec t=true) (hrow:t<Tryz.prog.types.size) {v:Value} {d:DataW H} {ps:List MemPlace} (h:DataW.Trod enc Tryz.prog W 0 (fun _=>true) true t v d ps) (hl:∀z∈ps,z.block<W.heap.size) (sp:Nat→Bool) (hs:∀z∈ps,sp z.block=true),DataW.Trod enc Tryz.prog W' 0 sp true t v d ps:=
  fun hr hrow _ _ _ h hl sp hs=>WideElems.Trod_stays laid_out hr hrow h (fun z hz=>hb.same (hl z hz)) hs
 have hpost:Rows.rangeproofDigitsSpec.post enc Tryz.prog Tryz.f4 false true false false W _ (.bool true) W':=
  post_of_below (pa:=p0++(p1++(p2++[]))) (pv:=[]) hW' (fun _ _ _=>trodAll_cons_mk (shut_bool Tryz.underlying4 _) trodAll_mk0)
  (fun sp hs=>trodAll_cons_mk (stay (by kernel_rfl) (of_decide_eq_true (by kernel_rfl)) k0 (fun z hz=>hlt z (by simp [hz])) sp (fun z hz=>hs z (by simp [hz]))) (trodAll_cons_mk (stay (by kernel_rfl) (of_decide_eq_true (by kernel_rfl)) k1 (fun z hz=>hlt z (by simp [hz])) sp (fun z hz=>hs z (by simp [hz]))) (trodAll_cons_mk (stay (by kernel_rfl) (of_decide_eq_true (by kernel_rfl)) k2 (fun z hz=>hlt z (by simp [hz])) sp (fun z hz=>hs z (by simp [hz]))) trodAll_mk0))) (fun _ _=>rfl) (by simp) hb
  (ok_one (by kernel_rfl) rfl (okWide_bool_mk Tryz.underlying4 _))
 exact ⟨_,rfl,hpost⟩
end
section
/- dominolaw24.RangeproofDigits,second form: the row and its tied card: without its card. -/
open Go.RowKit Go.WideShapes Go.ChangeShapes Go.ChangeAt Go.Joins Go.Deep
open Go.ChangeMaps (open_string shut_string)
theorem rgdg_facts:joinedFacts Tryz.prog 4 Tryz.f4 Rows.rangeproofDigitsSpec Rows.rangeproofDigitsUptoRow=true:=by
 unfold joinedFacts;rw [rgdg_k0,rgdg_k1,rgdg_k2,rgdg_k3,rgdg_k4,rgdg_k5,rgdg_k6,rgdg_k7,rgdg_k8,rgdg_k9,rgdg_k10];kernel_rfl
theorem rgdg_holds:Rows.RangeproofDigitsUptoSaid:=
 OpenClaim.holds_of_cond 4 Tryz.f4 rfl rfl rfl rfl rfl rfl rfl ⟨rfl,rfl,rfl,rfl,rfl⟩ rfl rfl rfl rfl rfl (by kernel_rfl) Tryz.func4 rgdg_facts
  (of_decide_eq_true (by kernel_rfl)) (by unfold Func.isWrapper;first | (rw [if_pos (by decide +kernel)];kernel_rfl) | (rw [if_neg (by decide +kernel)];exact ⟨rfl,rfl⟩))
  (fun os started H enc _ F=>by rw [OpenClaim.pre_eq_preRow];exact rgdg_lifted os started H enc F)
end
section
/- dominolaw24.RangeproofDigits,second form: the row and its tied card: a closed fact. -/
open Go
theorem rgdg_c6:false=Rows.rangeproofDigitsUptoRow.goesBy Tryz.pinned.checked.prog:=by kernel_rfl
end
section
/- dominolaw24.RangeproofDigits,second form: the row and its tied card: closed facts. -/
open Go
theorem rgdg_c2:Tryz.pinned.checked.prog.mainIs=some (true,"fc42e0e0a57166f47e3b6ca160b611345919af0c3d3be17fa9680d967dc65fe8".toList):=by kernel_rfl
theorem rgdg_c3:Tryz.prog.funcNamed "domino/dominolaw24.RangeproofDigits"=some 4:=by kernel_rfl
end
section
open Go.RowKit Go.WideShapes Go.ChangeShapes Go.ChangeAt Go.Joins Go.Deep
open Go.ChangeMaps (open_string shut_string)
theorem rgdg_c1:Rows.rangeproofDigitsUptoRow.wfByText (Rows.OpenSpec.upto Rows.rangeproofDigitsSpec)=true:=by kernel_rfl
theorem rgdg_c4:false=Tryz.pinned.checked.prog.looks []:=by kernel_rfl
theorem rgdg_card:Rows.RangeproofDigitsUptoCardSaid:=
 Claim7.holds_tied_plain_at .later [] [.data,.data,.data] true (true,"fc42e0e0a57166f47e3b6ca160b611345919af0c3d3be17fa9680d967dc65fe8") false
  rgdg_holds (fun _ h=>by cases h) rgdg_c1 (fun _ h=>by cases h) rangeproofDigitsUpto_row_tie rfl ⟨rfl,rfl⟩ rgdg_c2 rfl
  (fun f fn hf hfn=>by
   obtain rfl:f=4:=Option.some.inj (rgdg_c3.symm.trans hf) |>.symm;obtain rfl:fn=Tryz.f4:=(Option.some.inj (Tryz.func4.symm.trans hfn)).symm
   exact ⟨rgdg_c4,fun j t ht=>by
    rw [Tryz.params4] at ht;have hm:t∈[35,23,45]:=by simpa using Array.mem_of_getElem? ht
    have hall:([35,23,45].all fun u=>!Tryz.prog.wantsStandIn u)=true:=by kernel_rfl
    exact (show Tryz.prog.wantsStandIn t=false by simpa using List.all_eq_true.1 hall t hm)⟩)
  rgdg_c6
end
end Go.Proofs.YtdoacbdkbbpamaaGreatDoor
