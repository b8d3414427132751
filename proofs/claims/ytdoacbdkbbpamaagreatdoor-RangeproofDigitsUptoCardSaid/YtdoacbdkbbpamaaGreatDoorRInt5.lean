import Derived.Test.YtdoacbdkbbpamaaGreatDoorFs5
import Derived.Test.YtdoacbdkbbpamaaGreatDoorRef7
import Derived.Test.YtdoacbdkbbpamaaGreatDoorDivN
import Derived.Deep.RegionHeld3
import Derived.Deep.DeepCutAuto
set_option linter.unusedVariables false
set_option linter.unusedSimpArgs false
set_option maxRecDepth 100000
set_option maxHeartbeats 16000000
namespace Go.Proofs.YtdoacbdkbbpamaaGreatDoor
section
open Go.RowKit
theorem rmake_c (b:Bool) (n:Nat) (z:Int) (w:World) (hm:(E n).size≤4611686018427387904) (hz:z=if b then -(n:Int) else (n:Int)) :
  Calls Tryz.prog 45 #[.bool b,.string (E n)] w fun e w'=>e=.returned (.agg #[.bool (sg (z)),.string (E (z).natAbs)])∧Below w.heap.size w w':=by
 have H:=made_val b n;rw [←hz] at H;have HM:=Lib.hid H;clear H hz;cases b
 all_goals
  go_enter Tryz.func45,Tryz.ntmps45
  go_wp2;refine bodyPost_ret (v:=.agg #[.bool (sg (z)),.string (E (z).natAbs)]) (by rw [←HM.out];simp [results,Tryz.results45,go_sem]) rfl ⟨rfl,b1 _ _⟩
theorem rivalid_c (b:Bool) (s:ByteArray) (w:World) (hm:s.size≤4611686018427387904) :
  Calls Tryz.prog 41 #[.agg #[.bool b,.string s]] w fun e w'=>e=.returned (.bool (ivB b s))∧Below w.heap.size w w':=by
 have HI:=Lib.hid (show ivB b s=(vldB s&&!(b&&s.toList.isEmpty)) from rfl);generalize ivB b s=r at HI;cases hv:vldB s
 ·rw [hv] at HI;go_enter Tryz.func41,Tryz.ntmps41
  go_wp2_with fail
  refine (rvalid_c s _ (by omega)).mono ?_;rintro e w' ⟨rfl,rfl⟩;rw [hv];go_wp2;go_ret
  exact ⟨rb (by rw [HI.out];rfl),b1 _ _⟩
 ·rw [hv] at HI;cases b
  ·go_enter Tryz.func41,Tryz.ntmps41
   go_wp2_with fail
   refine (rvalid_c s _ (by omega)).mono ?_;rintro e w' ⟨rfl,rfl⟩;rw [hv];go_wp2;go_ret
   exact ⟨rb (by rw [HI.out];rfl),b1 _ _⟩
  ·cases he:s.toList.isEmpty
   all_goals
    rw [he] at HI;go_enter Tryz.func41,Tryz.ntmps41
    go_wp2_with fail
    refine (rvalid_c s _ (by omega)).mono ?_;rintro e w' ⟨rfl,rfl⟩;rw [hv];go_wp2;go_ret
    exact ⟨rb (by rw [HI.out];rfl),b1 _ _⟩
theorem rivalidI_c (z:Int) (w:World) (h:z.natAbs<256^128) :
  Calls Tryz.prog 41 #[.agg #[.bool (sg (z)),.string (E (z).natAbs)]] w fun e w'=>e=.returned (.bool true)∧Below w.heap.size w w':=by
 have:=rivalid_c (sg z) (E z.natAbs) w (by have:=sz z.natAbs h;omega);rw [ivB_I z h] at this;exact this
theorem riof_c (z:Int) (w:World) (h1:-9223372036854775808≤z) (h2:z≤9223372036854775807) :
  Calls Tryz.prog 18 #[.int .i64 z] w fun e w'=>e=.returned (.agg #[.bool (sg (z)),.string (E (z).natAbs)])∧Below w.heap.size w w':=by
 have HN:Hid (z.natAbs<256^8):=by unfold Hid;rw [←u64_as_pow];omega
 have hs:=(E_size_le z.natAbs 8).2 HN.out;have hB:=Blk.new w #[Value.bool false,Value.string { data:=#[] }] 37;by_cases h:z<0
 ·have HZ:Hid (z=if true then -(z.natAbs:Int) else (z.natAbs:Int)):=by unfold Hid;simp;omega
  go_enter Tryz.func18,Tryz.ntmps18
  go_wp2_with fail
  have hof:=rof_c z.natAbs (w.alloc (Obj.cells #[Value.bool false,Value.string { data:=#[] }] 37)) HN.out;rw [show (z.natAbs:Int)=-(z+1)+1 by omega] at hof;refine hof.mono ?_;clear hof;rintro e w1 ⟨rfl,hb1⟩;replace hB:=hB.after hb1;go_wp2_with fail
  refine (rmake_c true z.natAbs z _ (by omega) HZ.out).mono ?_;rintro e w2 ⟨rfl,hb2⟩;replace hB:=hB.after hb2;obtain ⟨hBc0,hBf0,hBc1,hBf1⟩:=hB.x2;go_wp2;refine bodyPost_ret (v:=.agg #[.bool (sg (z)),.string (E (z).natAbs)]) ?_ rfl ⟨rfl,?_⟩
  ·simp [results,Tryz.results18,go_sem,hBc0,hBc1]
  ·exact ((bt (bt (b1 _ _) hb1) hb2).setCell (Nat.le_refl _) _).setCell (Nat.le_refl _) _
 ·have HZ:Hid (z=if false then -(z.natAbs:Int) else (z.natAbs:Int)):=by unfold Hid;simp;omega
  have HZ2:Hid (z=(z.natAbs:Int)):=by unfold Hid;omega
  have h0:0≤z:=by omega
  go_enter Tryz.func18,Tryz.ntmps18
  go_wp2_with fail
  have hof:=rof_c z.natAbs (w.alloc (Obj.cells #[Value.bool false,Value.string { data:=#[] }] 37)) HN.out;rw [←HZ2.out] at hof;refine hof.mono ?_;clear hof;rintro e w1 ⟨rfl,hb1⟩;replace hB:=hB.after hb1;go_wp2_with fail
  refine (rmake_c false z.natAbs z _ (by omega) HZ.out).mono ?_;rintro e w2 ⟨rfl,hb2⟩;replace hB:=hB.after hb2;obtain ⟨hBc0,hBf0,hBc1,hBf1⟩:=hB.x2;go_wp2;refine bodyPost_ret (v:=.agg #[.bool (sg (z)),.string (E (z).natAbs)]) ?_ rfl ⟨rfl,?_⟩
  ·simp [results,Tryz.results18,go_sem,hBc0,hBc1]
  ·exact ((bt (bt (b1 _ _) hb1) hb2).setCell (Nat.le_refl _) _).setCell (Nat.le_refl _) _
theorem rifrom_c (n:Nat) (w:World) (hn:n<256^128) :
  Calls Tryz.prog 44 #[.string (E n)] w fun e w'=>e=.returned (.agg #[.bool (sg ((n:Int))),.string (E ((n:Int)).natAbs)])∧Below w.heap.size w w':=by
 have hs:=sz n hn;have HN:=Lib.hid hn;clear hn;have HZ:Hid ((n:Int)=if false then -(n:Int) else (n:Int)):=by simp [Hid]
 have hB:=Blk.new w #[Value.bool false,Value.string { data:=#[] }] 37;go_enter Tryz.func44,Tryz.ntmps44
 go_wp2_with fail
 refine (rvalidE_c n _ HN.out).mono ?_;rintro e w' ⟨rfl,rfl⟩;go_wp2_with fail
 refine (rmake_c false n (n:Int) _ (by omega) HZ.out).mono ?_;rintro e w1 ⟨rfl,hb1⟩;replace hB:=hB.after hb1;obtain ⟨hBc0,hBf0,hBc1,hBf1⟩:=hB.x2;go_wp2;refine bodyPost_ret (v:=.agg #[.bool (sg ((n:Int))),.string (E ((n:Int)).natAbs)]) ?_ rfl ⟨rfl,?_⟩
 ·simp [results,Tryz.results44,go_sem,hBc0,hBc1]
 ·exact ((bt (b1 _ _) hb1).setCell (Nat.le_refl _) _).setCell (Nat.le_refl _) _
theorem rineg_c (z:Int) (w:World) (hz:z.natAbs<256^128) :
  Calls Tryz.prog 55 #[.agg #[.bool (sg (z)),.string (E (z).natAbs)]] w fun e w'=>e=.returned (.agg #[.bool (sg (-z)),.string (E (-z).natAbs)])∧Below w.heap.size w w':=by
 have HZ:=Lib.hid hz;have hs:=szI z hz;clear hz;have hA:=blk2a w #[Value.bool (sg z),Value.string (E z.natAbs)] #[Value.bool false,Value.string { data:=#[] }] 37 37;have hB:=blk2b w #[Value.bool (sg z),Value.string (E z.natAbs)] #[Value.bool false,Value.string { data:=#[] }] 37 37;have HM:=Lib.hid (neg_made z);go_enter Tryz.func55,Tryz.ntmps55
 go_wp2_with fail
 refine (rivalidI_c z _ HZ.out).mono ?_;rintro e w1 ⟨rfl,hb1⟩;replace hA:=hA.after hb1;replace hB:=hB.after hb1;obtain ⟨hAc0,hAf0,hAc1,hAf1⟩:=hA.x2;go_wp2_with fail
 refine (rmake_c (!sg z) z.natAbs (-z) _ (by omega) HM.out).mono ?_;rintro e w2 ⟨rfl,hb2⟩;replace hB:=hB.after hb2;obtain ⟨hBc0,hBf0,hBc1,hBf1⟩:=hB.x2;go_wp2;refine bodyPost_ret (v:=.agg #[.bool (sg (-z)),.string (E (-z).natAbs)]) ?_ rfl ⟨rfl,?_⟩
 ·simp [results,Tryz.results55,go_sem,hBc0,hBc1]
 ·exact ((bt (bt (b2 _ _ _) hb1) hb2).setCell (by simp) _).setCell (by simp) _
theorem rinegS_c (z:Int) (w:World) (hz:z.natAbs<256^128) :
  Calls Tryz.prog 55 #[.agg #[.bool (sg (z)),.string (E (z).natAbs)]] w fun e w'=>e=.returned (.agg #[.bool (sg (-z)),.string (E z.natAbs)])∧Below w.heap.size w w':=by
 have:=rineg_c z w hz;rwa [Int.natAbs_neg] at this
theorem rimul_c (x y:Int) (w:World) (hx:x.natAbs<256^128) (hy:y.natAbs<256^128) (hxy:x.natAbs*y.natAbs<256^128) :
  Calls Tryz.prog 92 #[.agg #[.bool (sg (x)),.string (E (x).natAbs)],.agg #[.bool (sg (y)),.string (E (y).natAbs)]] w fun e w'=>e=.returned (.tuple #[.agg #[.bool (sg (x*y)),.string (E (x*y).natAbs)],.int .i64 0])∧Below w.heap.size w w':=by
 have HX:=Lib.hid hx;have HY:=Lib.hid hy;have HXY:=Lib.hid hxy;have hs:=sz _ hxy;clear hx hy hxy;have HM:=Lib.hid (mul_made x y);have hA:=blk3a w #[Value.bool (sg x),Value.string (E x.natAbs)] #[Value.bool (sg y),Value.string (E y.natAbs)] #[Value.bool false,Value.string { data:=#[] }] 37 37 37;have hB:=blk3b w #[Value.bool (sg x),Value.string (E x.natAbs)] #[Value.bool (sg y),Value.string (E y.natAbs)] #[Value.bool false,Value.string { data:=#[] }] 37 37 37;have hC:=blk3c w #[Value.bool (sg x),Value.string (E x.natAbs)] #[Value.bool (sg y),Value.string (E y.natAbs)] #[Value.bool false,Value.string { data:=#[] }] 37 37 37;go_enter Tryz.func92,Tryz.ntmps92
 go_wp2_with fail
 refine (rivalidI_c x _ HX.out).mono ?_;rintro e w0 ⟨rfl,hb0⟩;replace hA:=hA.after hb0;replace hB:=hB.after hb0;replace hC:=hC.after hb0;obtain ⟨hAc0,hAf0,hAc1,hAf1⟩:=hA.x2;obtain ⟨hBc0,hBf0,hBc1,hBf1⟩:=hB.x2;go_wp2_with fail
 refine (rivalidI_c y _ HY.out).mono ?_;rintro e w1 ⟨rfl,hb1⟩;clear hAc0 hAf0 hAc1 hAf1;clear hBc0 hBf0 hBc1 hBf1;replace hA:=hA.after hb1;replace hB:=hB.after hb1;replace hC:=hC.after hb1;obtain ⟨hAc0,hAf0,hAc1,hAf1⟩:=hA.x2;obtain ⟨hBc0,hBf0,hBc1,hBf1⟩:=hB.x2;go_wp2_with fail
 refine (rmul_c x.natAbs y.natAbs _ HX.out HY.out HXY.out).mono ?_;rintro e w2 ⟨rfl,hb2⟩;clear hAc0 hAf0 hAc1 hAf1;clear hBc0 hBf0 hBc1 hBf1;replace hA:=hA.after hb2;replace hB:=hB.after hb2;replace hC:=hC.after hb2;obtain ⟨hAc0,hAf0,hAc1,hAf1⟩:=hA.x2;obtain ⟨hBc0,hBf0,hBc1,hBf1⟩:=hB.x2;go_wp2_with fail
 refine (rmake_c (sg x != sg y) (x.natAbs*y.natAbs) (x*y) _ (by omega) HM.out).mono ?_;rintro e w3 ⟨rfl,hb3⟩;clear hAc0 hAf0 hAc1 hAf1;clear hBc0 hBf0 hBc1 hBf1;replace hC:=hC.after hb3;obtain ⟨hCc0,hCf0,hCc1,hCf1⟩:=hC.x2;go_wp2;refine bodyPost_ret (v:=.tuple #[.agg #[.bool (sg (x*y)),.string (E (x*y).natAbs)],.int .i64 0]) ?_ rfl ⟨rfl,?_⟩
 ·simp [results,Tryz.results92,go_sem,hCc0,hCc1]
 ·exact ((bt (bt (bt (bt (b3 _ _ _ _) hb0) hb1) hb2) hb3).setCell (by simp;omega) _).setCell (by simp;omega) _
end
section
open Go.RowKit
section
variable (x y:Int) (w:World)
theorem riadd_same (hx:x.natAbs<256^128) (hy:y.natAbs<256^128) (hsum:(x+y).natAbs<256^128) (hq:sg x=sg y) :
  Calls Tryz.prog 125 #[.agg #[.bool (sg (x)),.string (E (x).natAbs)],.agg #[.bool (sg (y)),.string (E (y).natAbs)]] w fun e w'=>e=.returned (.tuple #[.agg #[.bool (sg (x+y)),.string (E (x+y).natAbs)],.int .i64 0])∧Below w.heap.size w w':=by
 have HX:=Lib.hid hx;have HY:=Lib.hid hy;have HM:=Lib.hid (add_made_same x y hq)
 have HS:Hid (x.natAbs+y.natAbs<256^128):=by
  rw [same_abs x y hq] at hsum;exact hsum
 have hs:=sz _ HS.out;have hqb:(sg x==sg y)=true:=by rw [hq];simp
 clear hx hy hsum hq;have hA:=blk3a w #[Value.bool (sg x),Value.string (E x.natAbs)] #[Value.bool (sg y),Value.string (E y.natAbs)] #[Value.bool false,Value.string { data:=#[] }] 37 37 37;have hB:=blk3b w #[Value.bool (sg x),Value.string (E x.natAbs)] #[Value.bool (sg y),Value.string (E y.natAbs)] #[Value.bool false,Value.string { data:=#[] }] 37 37 37;have hC:=blk3c w #[Value.bool (sg x),Value.string (E x.natAbs)] #[Value.bool (sg y),Value.string (E y.natAbs)] #[Value.bool false,Value.string { data:=#[] }] 37 37 37;go_enter Tryz.func125,Tryz.ntmps125
 go_wp2_with fail
 refine (rivalidI_c x _ HX.out).mono ?_;rintro e w0 ⟨rfl,hb0⟩;replace hA:=hA.after hb0;replace hB:=hB.after hb0;replace hC:=hC.after hb0;obtain ⟨hAc0,hAf0,hAc1,hAf1⟩:=hA.x2;obtain ⟨hBc0,hBf0,hBc1,hBf1⟩:=hB.x2;go_wp2_with fail
 refine (rivalidI_c y _ HY.out).mono ?_;rintro e w1 ⟨rfl,hb1⟩;clear hAc0 hAf0 hAc1 hAf1;clear hBc0 hBf0 hBc1 hBf1;replace hA:=hA.after hb1;replace hB:=hB.after hb1;replace hC:=hC.after hb1;obtain ⟨hAc0,hAf0,hAc1,hAf1⟩:=hA.x2;obtain ⟨hBc0,hBf0,hBc1,hBf1⟩:=hB.x2;go_wp2_with fail
 refine (radd_c x.natAbs y.natAbs _ HX.out HY.out HS.out).mono ?_;rintro e w2 ⟨rfl,hb2⟩;clear hAc0 hAf0 hAc1 hAf1;clear hBc0 hBf0 hBc1 hBf1;replace hA:=hA.after hb2;replace hC:=hC.after hb2;obtain ⟨hAc0,hAf0,hAc1,hAf1⟩:=hA.x2;go_wp2_with fail
 refine (rmake_c (sg x) (x.natAbs+y.natAbs) (x+y) _ (by omega) HM.out).mono ?_;rintro e w3 ⟨rfl,hb3⟩;clear hAc0 hAf0 hAc1 hAf1;replace hC:=hC.after hb3;obtain ⟨hCc0,hCf0,hCc1,hCf1⟩:=hC.x2;go_wp2;refine bodyPost_ret (v:=.tuple #[.agg #[.bool (sg (x+y)),.string (E (x+y).natAbs)],.int .i64 0]) ?_ rfl ⟨rfl,?_⟩
 ·simp [results,Tryz.results125,go_sem,hCc0,hCc1]
 ·exact ((bt (bt (bt (bt (b3 _ _ _ _) hb0) hb1) hb2) hb3).setCell (by simp;omega) _).setCell (by simp;omega) _
theorem riadd_ge (hx:x.natAbs<256^128) (hy:y.natAbs<256^128) (hq:sg x≠sg y) (hg:y.natAbs≤x.natAbs) :
  Calls Tryz.prog 125 #[.agg #[.bool (sg (x)),.string (E (x).natAbs)],.agg #[.bool (sg (y)),.string (E (y).natAbs)]] w fun e w'=>e=.returned (.tuple #[.agg #[.bool (sg (x+y)),.string (E (x+y).natAbs)],.int .i64 0])∧Below w.heap.size w w':=by
 have HX:=Lib.hid hx;have HY:=Lib.hid hy;have HG:=Lib.hid hg;have HM:=Lib.hid (add_made_ge x y hq hg);have hs:(E (x.natAbs-y.natAbs)).size≤128:=sz _ (by omega);have hqb:(sg x==sg y)=false:=by rw [beq_eq_false_iff_ne];exact hq
 have hc:=cmp_nneg x.natAbs y.natAbs hg;clear hx hy hq hg;have hA:=blk3a w #[Value.bool (sg x),Value.string (E x.natAbs)] #[Value.bool (sg y),Value.string (E y.natAbs)] #[Value.bool false,Value.string { data:=#[] }] 37 37 37;have hB:=blk3b w #[Value.bool (sg x),Value.string (E x.natAbs)] #[Value.bool (sg y),Value.string (E y.natAbs)] #[Value.bool false,Value.string { data:=#[] }] 37 37 37;have hC:=blk3c w #[Value.bool (sg x),Value.string (E x.natAbs)] #[Value.bool (sg y),Value.string (E y.natAbs)] #[Value.bool false,Value.string { data:=#[] }] 37 37 37;go_enter Tryz.func125,Tryz.ntmps125
 go_wp2_with fail
 refine (rivalidI_c x _ HX.out).mono ?_;rintro e w0 ⟨rfl,hb0⟩;replace hA:=hA.after hb0;replace hB:=hB.after hb0;replace hC:=hC.after hb0;obtain ⟨hAc0,hAf0,hAc1,hAf1⟩:=hA.x2;obtain ⟨hBc0,hBf0,hBc1,hBf1⟩:=hB.x2;go_wp2_with fail
 refine (rivalidI_c y _ HY.out).mono ?_;rintro e w1 ⟨rfl,hb1⟩;clear hAc0 hAf0 hAc1 hAf1;clear hBc0 hBf0 hBc1 hBf1;replace hA:=hA.after hb1;replace hB:=hB.after hb1;replace hC:=hC.after hb1;obtain ⟨hAc0,hAf0,hAc1,hAf1⟩:=hA.x2;obtain ⟨hBc0,hBf0,hBc1,hBf1⟩:=hB.x2;go_wp2_with fail
 refine (rcmp_c x.natAbs y.natAbs _ HX.out HY.out).mono ?_;rintro e wc ⟨rfl,hbc⟩;clear hAc0 hAf0 hAc1 hAf1;clear hBc0 hBf0 hBc1 hBf1;replace hA:=hA.after hbc;replace hB:=hB.after hbc;replace hC:=hC.after hbc;obtain ⟨hAc0,hAf0,hAc1,hAf1⟩:=hA.x2;obtain ⟨hBc0,hBf0,hBc1,hBf1⟩:=hB.x2;go_wp2_with fail
 refine (rsub_c x.natAbs y.natAbs _ HX.out HG.out).mono ?_;rintro e w2 ⟨rfl,hb2⟩;clear hAc0 hAf0 hAc1 hAf1;clear hBc0 hBf0 hBc1 hBf1;replace hA:=hA.after hb2;replace hC:=hC.after hb2;obtain ⟨hAc0,hAf0,hAc1,hAf1⟩:=hA.x2;go_wp2_with fail
 refine (rmake_c (sg x) (x.natAbs-y.natAbs) (x+y) _ (by omega) HM.out).mono ?_;rintro e w3 ⟨rfl,hb3⟩;clear hAc0 hAf0 hAc1 hAf1;replace hC:=hC.after hb3;obtain ⟨hCc0,hCf0,hCc1,hCf1⟩:=hC.x2;go_wp2;refine bodyPost_ret (v:=.tuple #[.agg #[.bool (sg (x+y)),.string (E (x+y).natAbs)],.int .i64 0]) ?_ rfl ⟨rfl,?_⟩
 ·simp [results,Tryz.results125,go_sem,hCc0,hCc1]
 ·exact ((bt (bt (bt (bt (bt (b3 _ _ _ _) hb0) hb1) hbc) hb2) hb3).setCell (by simp;omega) _).setCell (by simp;omega) _
theorem riadd_lt (hx:x.natAbs<256^128) (hy:y.natAbs<256^128) (hq:sg x≠sg y) (hg:x.natAbs<y.natAbs) :
  Calls Tryz.prog 125 #[.agg #[.bool (sg (x)),.string (E (x).natAbs)],.agg #[.bool (sg (y)),.string (E (y).natAbs)]] w fun e w'=>e=.returned (.tuple #[.agg #[.bool (sg (x+y)),.string (E (x+y).natAbs)],.int .i64 0])∧Below w.heap.size w w':=by
 have HX:=Lib.hid hx;have HY:=Lib.hid hy;have HG:=Lib.hid hg;have HM:=Lib.hid (add_made_lt x y hq hg);have hs:(E (y.natAbs-x.natAbs)).size≤128:=sz _ (by omega);have hqb:(sg x==sg y)=false:=by rw [beq_eq_false_iff_ne];exact hq
 have hc:=cmp_neg x.natAbs y.natAbs hg;clear hx hy hq hg;have hA:=blk3a w #[Value.bool (sg x),Value.string (E x.natAbs)] #[Value.bool (sg y),Value.string (E y.natAbs)] #[Value.bool false,Value.string { data:=#[] }] 37 37 37;have hB:=blk3b w #[Value.bool (sg x),Value.string (E x.natAbs)] #[Value.bool (sg y),Value.string (E y.natAbs)] #[Value.bool false,Value.string { data:=#[] }] 37 37 37;have hC:=blk3c w #[Value.bool (sg x),Value.string (E x.natAbs)] #[Value.bool (sg y),Value.string (E y.natAbs)] #[Value.bool false,Value.string { data:=#[] }] 37 37 37;go_enter Tryz.func125,Tryz.ntmps125
 go_wp2_with fail
 refine (rivalidI_c x _ HX.out).mono ?_;rintro e w0 ⟨rfl,hb0⟩;replace hA:=hA.after hb0;replace hB:=hB.after hb0;replace hC:=hC.after hb0;obtain ⟨hAc0,hAf0,hAc1,hAf1⟩:=hA.x2;obtain ⟨hBc0,hBf0,hBc1,hBf1⟩:=hB.x2;go_wp2_with fail
 refine (rivalidI_c y _ HY.out).mono ?_;rintro e w1 ⟨rfl,hb1⟩;clear hAc0 hAf0 hAc1 hAf1;clear hBc0 hBf0 hBc1 hBf1;replace hA:=hA.after hb1;replace hB:=hB.after hb1;replace hC:=hC.after hb1;obtain ⟨hAc0,hAf0,hAc1,hAf1⟩:=hA.x2;obtain ⟨hBc0,hBf0,hBc1,hBf1⟩:=hB.x2;go_wp2_with fail
 refine (rcmp_c x.natAbs y.natAbs _ HX.out HY.out).mono ?_;rintro e wc ⟨rfl,hbc⟩;clear hAc0 hAf0 hAc1 hAf1;clear hBc0 hBf0 hBc1 hBf1;replace hA:=hA.after hbc;replace hB:=hB.after hbc;replace hC:=hC.after hbc;obtain ⟨hAc0,hAf0,hAc1,hAf1⟩:=hA.x2;obtain ⟨hBc0,hBf0,hBc1,hBf1⟩:=hB.x2;go_wp2_with fail
 refine (rsub_c y.natAbs x.natAbs _ HY.out (Nat.le_of_lt HG.out)).mono ?_;rintro e w2 ⟨rfl,hb2⟩;clear hAc0 hAf0 hAc1 hAf1;clear hBc0 hBf0 hBc1 hBf1;replace hB:=hB.after hb2;replace hC:=hC.after hb2;obtain ⟨hBc0,hBf0,hBc1,hBf1⟩:=hB.x2;go_wp2_with fail
 refine (rmake_c (sg y) (y.natAbs-x.natAbs) (x+y) _ (by omega) HM.out).mono ?_;rintro e w3 ⟨rfl,hb3⟩;clear hBc0 hBf0 hBc1 hBf1;replace hC:=hC.after hb3;obtain ⟨hCc0,hCf0,hCc1,hCf1⟩:=hC.x2;go_wp2;refine bodyPost_ret (v:=.tuple #[.agg #[.bool (sg (x+y)),.string (E (x+y).natAbs)],.int .i64 0]) ?_ rfl ⟨rfl,?_⟩
 ·simp [results,Tryz.results125,go_sem,hCc0,hCc1]
 ·exact ((bt (bt (bt (bt (bt (b3 _ _ _ _) hb0) hb1) hbc) hb2) hb3).setCell (by simp;omega) _).setCell (by simp;omega) _
theorem riadd_c (hx:x.natAbs<256^128) (hy:y.natAbs<256^128) (hsum:(x+y).natAbs<256^128) :
  Calls Tryz.prog 125 #[.agg #[.bool (sg (x)),.string (E (x).natAbs)],.agg #[.bool (sg (y)),.string (E (y).natAbs)]] w fun e w'=>e=.returned (.tuple #[.agg #[.bool (sg (x+y)),.string (E (x+y).natAbs)],.int .i64 0])∧Below w.heap.size w w':=by
 by_cases hq:sg x=sg y
 ·exact riadd_same x y w hx hy hsum hq
 ·rcases Nat.lt_or_ge x.natAbs y.natAbs with h | h
  ·exact riadd_lt x y w hx hy hq h
  ·exact riadd_ge x y w hx hy hq h
theorem riaddN_c (hx:x.natAbs<256^128) (hy:y.natAbs<256^128) (hd:(x-y).natAbs<256^128) :
  Calls Tryz.prog 125 #[.agg #[.bool (sg (x)),.string (E (x).natAbs)],.agg #[.bool (sg (-y)),.string (E y.natAbs)]] w fun e w'=>e=.returned (.tuple #[.agg #[.bool (sg (x-y)),.string (E (x-y).natAbs)],.int .i64 0])∧Below w.heap.size w w':=by
 have:=riadd_c x (-y) w hx (by rw [Int.natAbs_neg];exact hy) (by rw [←Int.sub_eq_add_neg];exact hd);rwa [Int.natAbs_neg,←Int.sub_eq_add_neg] at this
theorem risub_c (hx:x.natAbs<256^128) (hy:y.natAbs<256^128) (hd:(x-y).natAbs<256^128) :
  Calls Tryz.prog 93 #[.agg #[.bool (sg (x)),.string (E (x).natAbs)],.agg #[.bool (sg (y)),.string (E (y).natAbs)]] w fun e w'=>e=.returned (.tuple #[.agg #[.bool (sg (x-y)),.string (E (x-y).natAbs)],.int .i64 0])∧Below w.heap.size w w':=by
 have HX:=Lib.hid hx;have HY:=Lib.hid hy;have HD:=Lib.hid hd;clear hx hy hd;have hA:=blk3a w #[Value.bool (sg x),Value.string (E x.natAbs)] #[Value.bool (sg y),Value.string (E y.natAbs)] #[Value.bool false,Value.string { data:=#[] }] 37 37 37;have hB:=blk3b w #[Value.bool (sg x),Value.string (E x.natAbs)] #[Value.bool (sg y),Value.string (E y.natAbs)] #[Value.bool false,Value.string { data:=#[] }] 37 37 37;have hC:=blk3c w #[Value.bool (sg x),Value.string (E x.natAbs)] #[Value.bool (sg y),Value.string (E y.natAbs)] #[Value.bool false,Value.string { data:=#[] }] 37 37 37;go_enter Tryz.func93,Tryz.ntmps93
 go_wp2_with fail
 refine (rivalidI_c x _ HX.out).mono ?_;rintro e w0 ⟨rfl,hb0⟩;replace hA:=hA.after hb0;replace hB:=hB.after hb0;replace hC:=hC.after hb0;obtain ⟨hAc0,hAf0,hAc1,hAf1⟩:=hA.x2;obtain ⟨hBc0,hBf0,hBc1,hBf1⟩:=hB.x2;go_wp2_with fail
 refine (rivalidI_c y _ HY.out).mono ?_;rintro e w1 ⟨rfl,hb1⟩;clear hAc0 hAf0 hAc1 hAf1;clear hBc0 hBf0 hBc1 hBf1;replace hA:=hA.after hb1;replace hB:=hB.after hb1;replace hC:=hC.after hb1;obtain ⟨hAc0,hAf0,hAc1,hAf1⟩:=hA.x2;obtain ⟨hBc0,hBf0,hBc1,hBf1⟩:=hB.x2;obtain ⟨hCc0,hCf0,hCc1,hCf1⟩:=hC.x2;go_wp2_with fail
 go_region_with (first | (go_at_call 55;refine (rinegS_c y _ HY.out).mono ?_;rintro e w2 ⟨rfl,hb2⟩;have hA2:=hA.drew.after hb2;have hC2:=hC.drew.after hb2;have c0:=hA2.cell 0;have c1:=hA2.cell 1) | (go_at_call 125;refine (riaddN_c x y _ HX.out HY.out HD.out).mono ?_;rintro e w3 ⟨rfl,hb3⟩;have hC3:=hC2.after hb3;have d0:=hC3.cell 0;have d1:=hC3.cell 1;have g0:=hC3.free 0;have g1:=hC3.free 1))
 all_goals go_wp2
 all_goals
  refine bodyPost_ret (v:=.tuple #[.agg #[.bool (sg (x-y)),.string (E (x-y).natAbs)],.int .i64 0]) ?_ rfl ⟨rfl,?_⟩
  ·simp [results,Tryz.results93,go_sem,d0,d1]
  ·exact ((bt (bt (bt (bt (b3 _ _ _ _) hb0) hb1).drew hb2) hb3).setCell (by simp;omega) _).setCell (by simp;omega) _
end
end
section
open Go.RowKit
theorem rivalidT_c (b:Bool) (n:Nat) (w:World) (hn:n<256^128) (h:ivB b (E n)=true) :
  Calls Tryz.prog 41 #[.agg #[.bool b,.string (E n)]] w fun e w'=>e=.returned (.bool true)∧Below w.heap.size w w':=by
 have:=rivalid_c b (E n) w (by have:=sz n hn;omega);rw [h] at this;exact this
theorem ivB_false (n:Nat) (h:n<256^128):ivB false (E n)=true:=by
 unfold ivB;rw [vldB_E n h];rfl
theorem fits_div (n m:Nat) (hn:n<256^128) (h0:0<m) (hr:n%m≠0):n / m+1<256^128:=by
 have h1:m≠1:=by intro e;subst e;simp [Nat.mod_one] at hr
 have h2:0<n:=by
  rcases Nat.eq_zero_or_pos n with h | h
  ·subst h;simp at hr
  ·exact h
 have h3:n / m<n:=Nat.div_lt_self h2 (by omega);omega
def qAbs (b:Bool) (n m:Nat):Nat:=if b=true∧n%m≠0 then n / m+1 else n / m
def rAbs (b:Bool) (n m:Nat):Nat:=if b=true∧n%m≠0 then m-n%m else n%m
theorem ridivmod_aux (b:Bool) (n m:Nat) (z:Int) (w:World) (hn:n<256^128) (hm:m<256^128) (h0:0<m) (hv:ivB b (E n)=true) (q r:Nat) (hq:q=qAbs b n m) (hr:r=rAbs b n m) (hz:z=if b then -(q:Int) else (q:Int)) :
  Calls Tryz.prog 43 #[.agg #[.bool b,.string (E n)],.agg #[.bool false,.string (E m)]] w fun e w'=>e=.returned (.tuple #[.agg #[.bool (sg (z)),.string (E (z).natAbs)],.string (E r),.int .i64 0])∧Below w.heap.size w w':=by
 have HN:=Lib.hid hn;have HM:=Lib.hid hm;have H0:=Lib.hid h0;have HV:=Lib.hid hv;have HV2:=Lib.hid (ivB_false m hm);have hz0:=nzE h0;have HLT:=Lib.hid (Nat.mod_lt n h0);have hszq:(E (n / m)).size≤128:=sz _ (Nat.lt_of_le_of_lt (Nat.div_le_self _ _) hn);have hA:=blk3a w #[Value.bool b,Value.string (E n)] #[Value.bool false,Value.string (E m)] #[Value.bool false,Value.string { data:=#[] }] 37 37 37;have hB:=blk3b w #[Value.bool b,Value.string (E n)] #[Value.bool false,Value.string (E m)] #[Value.bool false,Value.string { data:=#[] }] 37 37 37;have hC:=blk3c w #[Value.bool b,Value.string (E n)] #[Value.bool false,Value.string (E m)] #[Value.bool false,Value.string { data:=#[] }] 37 37 37;clear hn hm h0 hv;cases b
 ·have HR:Hid (r=n%m):=by rw [Hid,hr];simp [rAbs]
  have HQ:Hid (q=n / m):=by rw [Hid,hq];simp [qAbs]
  have HZ:Hid (z=if false then -((n / m:Nat):Int) else ((n / m:Nat):Int)):=by rw [Hid,hz,←HQ.out]
  clear hr hq hz;go_enter Tryz.func43,Tryz.ntmps43
  go_wp2_with fail
  refine (rivalidT_c false n _ HN.out HV.out).mono ?_;rintro e w0 ⟨rfl,hb0⟩;replace hA:=hA.after hb0;replace hB:=hB.after hb0;replace hC:=hC.after hb0;obtain ⟨hAc0,hAf0,hAc1,hAf1⟩:=hA.x2;obtain ⟨hBc0,hBf0,hBc1,hBf1⟩:=hB.x2;go_wp2_with fail
  refine (rivalidT_c false m _ HM.out HV2.out).mono ?_;rintro e w1 ⟨rfl,hb1⟩;clear hAc0 hAf0 hAc1 hAf1;clear hBc0 hBf0 hBc1 hBf1;replace hA:=hA.after hb1;replace hB:=hB.after hb1;replace hC:=hC.after hb1;obtain ⟨hAc0,hAf0,hAc1,hAf1⟩:=hA.x2;obtain ⟨hBc0,hBf0,hBc1,hBf1⟩:=hB.x2;go_wp2_with fail
  refine (rdivmod_c n m _ HN.out HM.out H0.out).mono ?_;rintro e w2 ⟨rfl,hb2⟩;clear hAc0 hAf0 hAc1 hAf1;clear hBc0 hBf0 hBc1 hBf1;replace hA:=hA.after hb2;replace hB:=hB.after hb2;replace hC:=hC.after hb2;obtain ⟨hAc0,hAf0,hAc1,hAf1⟩:=hA.x2;obtain ⟨hBc0,hBf0,hBc1,hBf1⟩:=hB.x2;go_wp2_with fail
  refine (rmake_c false (n / m) z _ (by omega) HZ.out).mono ?_;rintro e w3 ⟨rfl,hb3⟩;clear hAc0 hAf0 hAc1 hAf1;clear hBc0 hBf0 hBc1 hBf1;replace hC:=hC.after hb3;obtain ⟨hCc0,hCf0,hCc1,hCf1⟩:=hC.x2;go_wp2;refine bodyPost_ret (v:=.tuple #[.agg #[.bool (sg (z)),.string (E (z).natAbs)],.string (E r),.int .i64 0]) ?_ rfl ⟨rfl,?_⟩
  ·rw [HR.out];simp [results,Tryz.results43,go_sem,hCc0,hCc1]
  ·exact ((bt (bt (bt (bt (b3 _ _ _ _) hb0) hb1) hb2) hb3).setCell (by simp;omega) _).setCell (by simp;omega) _
 ·by_cases hzr:n%m=0
  ·have HR:Hid (r=n%m):=by rw [Hid,hr];simp [rAbs,hzr]
   have HQ:Hid (q=n / m):=by rw [Hid,hq];simp [qAbs,hzr]
   have HZ:Hid (z=if true then -((n / m:Nat):Int) else ((n / m:Nat):Int)):=by rw [Hid,hz,←HQ.out]
   have hzz:=zE hzr;clear hr hq hz hzr;go_enter Tryz.func43,Tryz.ntmps43
   go_wp2_with fail
   refine (rivalidT_c true n _ HN.out HV.out).mono ?_;rintro e w0 ⟨rfl,hb0⟩;replace hA:=hA.after hb0;replace hB:=hB.after hb0;replace hC:=hC.after hb0;obtain ⟨hAc0,hAf0,hAc1,hAf1⟩:=hA.x2;obtain ⟨hBc0,hBf0,hBc1,hBf1⟩:=hB.x2;go_wp2_with fail
   refine (rivalidT_c false m _ HM.out HV2.out).mono ?_;rintro e w1 ⟨rfl,hb1⟩;clear hAc0 hAf0 hAc1 hAf1;clear hBc0 hBf0 hBc1 hBf1;replace hA:=hA.after hb1;replace hB:=hB.after hb1;replace hC:=hC.after hb1;obtain ⟨hAc0,hAf0,hAc1,hAf1⟩:=hA.x2;obtain ⟨hBc0,hBf0,hBc1,hBf1⟩:=hB.x2;go_wp2_with fail
   refine (rdivmod_c n m _ HN.out HM.out H0.out).mono ?_;rintro e w2 ⟨rfl,hb2⟩;clear hAc0 hAf0 hAc1 hAf1;clear hBc0 hBf0 hBc1 hBf1;replace hA:=hA.after hb2;replace hB:=hB.after hb2;replace hC:=hC.after hb2;obtain ⟨hAc0,hAf0,hAc1,hAf1⟩:=hA.x2;obtain ⟨hBc0,hBf0,hBc1,hBf1⟩:=hB.x2;go_wp2_with fail
   refine (rmake_c true (n / m) z _ (by omega) HZ.out).mono ?_;rintro e w3 ⟨rfl,hb3⟩;clear hAc0 hAf0 hAc1 hAf1;clear hBc0 hBf0 hBc1 hBf1;replace hC:=hC.after hb3;obtain ⟨hCc0,hCf0,hCc1,hCf1⟩:=hC.x2;go_wp2;refine bodyPost_ret (v:=.tuple #[.agg #[.bool (sg (z)),.string (E (z).natAbs)],.string (E r),.int .i64 0]) ?_ rfl ⟨rfl,?_⟩
   ·rw [HR.out];simp [results,Tryz.results43,go_sem,hCc0,hCc1]
   ·exact ((bt (bt (bt (bt (b3 _ _ _ _) hb0) hb1) hb2) hb3).setCell (by simp;omega) _).setCell (by simp;omega) _
  ·have HR:Hid (r=m-n%m):=by rw [Hid,hr];simp [rAbs,hzr]
   have HQ:Hid (q=n / m+1):=by rw [Hid,hq];simp [qAbs,hzr]
   have HZ:Hid (z=if true then -((n / m+1:Nat):Int) else ((n / m+1:Nat):Int)):=by rw [Hid,hz,←HQ.out]
   have hzz:=nzE (Nat.pos_of_ne_zero hzr);have HF:=Lib.hid (fits_div n m HN.out H0.out hzr);have hszq1:(E (n / m+1)).size≤128:=sz _ HF.out;have HDV:=Lib.hid (Nat.lt_of_le_of_lt (Nat.div_le_self n m) HN.out);clear hr hq hz hzr;go_enter Tryz.func43,Tryz.ntmps43
   go_wp2_with fail
   refine (rivalidT_c true n _ HN.out HV.out).mono ?_;rintro e w0 ⟨rfl,hb0⟩;replace hA:=hA.after hb0;replace hB:=hB.after hb0;replace hC:=hC.after hb0;obtain ⟨hAc0,hAf0,hAc1,hAf1⟩:=hA.x2;obtain ⟨hBc0,hBf0,hBc1,hBf1⟩:=hB.x2;go_wp2_with fail
   refine (rivalidT_c false m _ HM.out HV2.out).mono ?_;rintro e w1 ⟨rfl,hb1⟩;clear hAc0 hAf0 hAc1 hAf1;clear hBc0 hBf0 hBc1 hBf1;replace hA:=hA.after hb1;replace hB:=hB.after hb1;replace hC:=hC.after hb1;obtain ⟨hAc0,hAf0,hAc1,hAf1⟩:=hA.x2;obtain ⟨hBc0,hBf0,hBc1,hBf1⟩:=hB.x2;go_wp2_with fail
   refine (rdivmod_c n m _ HN.out HM.out H0.out).mono ?_;rintro e w2 ⟨rfl,hb2⟩;clear hAc0 hAf0 hAc1 hAf1;clear hBc0 hBf0 hBc1 hBf1;replace hA:=hA.after hb2;replace hB:=hB.after hb2;replace hC:=hC.after hb2;obtain ⟨hAc0,hAf0,hAc1,hAf1⟩:=hA.x2;obtain ⟨hBc0,hBf0,hBc1,hBf1⟩:=hB.x2;go_wp2_with fail
   have hof:Calls Tryz.prog 46 #[.int .u64 1] w2 fun e w'=>e=.returned (.string (E 1))∧Below w2.heap.size w2 w':=rof_c 1 w2 (by decide)
   refine hof.mono ?_;clear hof;rintro e w3 ⟨rfl,hb3⟩;clear hAc0 hAf0 hAc1 hAf1;clear hBc0 hBf0 hBc1 hBf1;replace hA:=hA.after hb3;replace hB:=hB.after hb3;replace hC:=hC.after hb3;obtain ⟨hAc0,hAf0,hAc1,hAf1⟩:=hA.x2;obtain ⟨hBc0,hBf0,hBc1,hBf1⟩:=hB.x2;go_wp2_with fail
   refine (radd_c (n / m) 1 _ HDV.out (by decide) HF.out).mono ?_;rintro e w4 ⟨rfl,hb4⟩;clear hAc0 hAf0 hAc1 hAf1;clear hBc0 hBf0 hBc1 hBf1;replace hA:=hA.after hb4;replace hB:=hB.after hb4;replace hC:=hC.after hb4;obtain ⟨hAc0,hAf0,hAc1,hAf1⟩:=hA.x2;obtain ⟨hBc0,hBf0,hBc1,hBf1⟩:=hB.x2;go_wp2_with fail
   refine (rsub_c m (n%m) _ HM.out (Nat.le_of_lt HLT.out)).mono ?_;rintro e w5 ⟨rfl,hb5⟩;clear hAc0 hAf0 hAc1 hAf1;clear hBc0 hBf0 hBc1 hBf1;replace hA:=hA.after hb5;replace hB:=hB.after hb5;replace hC:=hC.after hb5;obtain ⟨hAc0,hAf0,hAc1,hAf1⟩:=hA.x2;obtain ⟨hBc0,hBf0,hBc1,hBf1⟩:=hB.x2;go_wp2_with fail
   refine (rmake_c true (n / m+1) z _ (by omega) HZ.out).mono ?_;rintro e w6 ⟨rfl,hb6⟩;clear hAc0 hAf0 hAc1 hAf1;clear hBc0 hBf0 hBc1 hBf1;replace hC:=hC.after hb6;obtain ⟨hCc0,hCf0,hCc1,hCf1⟩:=hC.x2;go_wp2;refine bodyPost_ret (v:=.tuple #[.agg #[.bool (sg (z)),.string (E (z).natAbs)],.string (E r),.int .i64 0]) ?_ rfl ⟨rfl,?_⟩
   ·rw [HR.out];simp [results,Tryz.results43,go_sem,hCc0,hCc1]
   ·exact ((bt (bt (bt (bt (bt (bt (bt (b3 _ _ _ _) hb0) hb1) hb2) hb3) hb4) hb5) hb6).setCell (by simp;omega) _).setCell (by simp;omega) _
theorem ediv_if (z:Int) (m:Nat) (hm:0<m):z / (m:Int)=if sg z then -(qAbs (sg z) z.natAbs m:Int) else (qAbs (sg z) z.natAbs m:Int):=by
 have hd:=Int.mul_ediv_add_emod z (m:Int);have hmi:(0:Int)<(m:Int):=by omega
 have hr0:=Int.emod_nonneg z (Int.ne_of_gt hmi);have hr1:=Int.emod_lt_of_pos z hmi;by_cases h:z<0
 ·rw [sg_of_neg h];simp only [if_true];unfold qAbs;have hn:=Nat.div_add_mod z.natAbs m;have hnlt:=Nat.mod_lt z.natAbs hm;have hE:=emod_if z m hm;rw [sg_of_neg h] at hE;by_cases hr:z.natAbs%m=0
  ·rw [if_neg (fun h=>h.2 hr)] at hE ⊢;rw [hr] at hE hn;have e0:z%(m:Int)=0:=by omega
   rw [e0,Int.add_zero] at hd
   have e1:(m:Int)*(z / (m:Int))=(m:Int)*(-((z.natAbs / m:Nat):Int)):=by
    rw [hd,Int.mul_neg];omega
   exact Int.eq_of_mul_eq_mul_left (Int.ne_of_gt hmi) e1
  ·rw [if_pos ⟨rfl,hr⟩] at hE ⊢;have e0:z%(m:Int)=((m-z.natAbs%m:Nat):Int):=by omega
   have e1:(m:Int)*(z / (m:Int))=(m:Int)*(-((z.natAbs / m+1:Nat):Int)):=by
    rw [Int.mul_neg,Int.natCast_add,Int.mul_add];simp only [Int.natCast_one,Int.mul_one];have:(m:Int)*((z.natAbs / m:Nat):Int)=((m*(z.natAbs / m):Nat):Int):=by rw [Int.natCast_mul]
    omega
   exact Int.eq_of_mul_eq_mul_left (Int.ne_of_gt hmi) e1
 ·rw [sg_of_nonneg (by omega)];simp only [Bool.false_eq_true,if_false];unfold qAbs;rw [if_neg (fun h=>Bool.noConfusion h.1)];have e:z=(z.natAbs:Int):=by omega
  conv=>lhs;rw [e]
  rw [Int.natCast_ediv]
theorem ridivmod_c (z:Int) (m:Nat) (w:World) (hz:z.natAbs<256^128) (hm:m<256^128) (h0:0<m) :
  Calls Tryz.prog 43 #[.agg #[.bool (sg (z)),.string (E (z).natAbs)],.agg #[.bool (sg (m:Int)),.string (E m)]] w fun e w'=>e=.returned (.tuple #[.agg #[.bool (sg (z / (m:Int))),.string (E (z / (m:Int)).natAbs)],.string (E (z%(m:Int)).toNat),.int .i64 0])∧Below w.heap.size w w':=by
 rw [sg_nat m];exact ridivmod_aux (sg z) z.natAbs m _ w hz hm h0 (ivB_I z hz) _ _ rfl (by rw [emod_if z m h0];rfl) (ediv_if z m h0)
theorem rifromS_c (n:Nat) (w:World) (hn:n<256^128) :
  Calls Tryz.prog 44 #[.string (E n)] w fun e w'=>e=.returned (.agg #[.bool (sg (n:Int)),.string (E n)])∧Below w.heap.size w w':=by
 have:=rifrom_c n w hn;rwa [Int.natAbs_natCast] at this
theorem rimod_c (z:Int) (m:Nat) (w:World) (hz:z.natAbs<256^128) (hm:m<256^128) (h0:0<m) :
  Calls Tryz.prog 17 #[.agg #[.bool (sg (z)),.string (E (z).natAbs)],.string (E m)] w fun e w'=>e=.returned (.tuple #[.string (E (z%(m:Int)).toNat),.int .i64 0])∧Below w.heap.size w w':=by
 have HZ:=Lib.hid hz;have HM:=Lib.hid hm;have H0:=Lib.hid h0;have hA:=Blk.new w #[Value.bool (sg z),Value.string (E z.natAbs)] 37;clear hz hm h0;go_enter Tryz.func17,Tryz.ntmps17
 go_wp2_with fail
 refine (rivalidI_c z _ HZ.out).mono ?_;rintro e w0 ⟨rfl,hb0⟩;replace hA:=hA.after hb0;obtain ⟨hAc0,hAf0,hAc1,hAf1⟩:=hA.x2;go_wp2_with fail
 refine (rvalidE_c m _ HM.out).mono ?_;rintro e w' ⟨rfl,rfl⟩;go_wp2_with fail
 have hl0:w.heap.size<w0.heap.size:=hA.lt;go_region_with (first | (go_at_call 44;refine (rifromS_c m _ HM.out).mono ?_;rintro e wf ⟨rfl,hbf⟩;have hAf:Blk wf w.heap.size 37 [Value.bool (sg z),Value.string (E z.natAbs)]:=(by first | exact hA.drew.after hbf | exact (hA.alloc _).drew.after hbf);have af0:=hAf.cell 0;have af1:=hAf.cell 1;have hlf:w.heap.size<wf.heap.size:=hAf.lt) | (go_at_call 43;refine (ridivmod_c z m _ HZ.out HM.out H0.out).mono ?_;rintro e wd ⟨rfl,hbd⟩;have hld:w.heap.size<wd.heap.size:=(by have h5:=hbd.size;(try simp at h5);omega);(try (have kA:=((Blk.new w0 #[Value.bool false,Value.string { data:=#[] }] 37).drew.after hbf).after hbd;have kA0:=kA.cell 0;have kA1:=kA.cell 1;have kA2:=kA.free 0;have kA3:=kA.free 1));(try (have kB:=(Blk.new wf #[Value.bool false,Value.string { data:=#[] }] 37).after hbd;have kB0:=kB.cell 0;have kB1:=kB.cell 1;have kB2:=kB.free 0;have kB3:=kB.free 1))))
 all_goals go_wp2
 all_goals
  go_ret2
  refine ⟨rfl,?_⟩;repeat (first | exact bt (b1 _ _) hb0 | (refine ba ?_ _) | (refine Below.setCell ?_ (by first | omega | (dsimp only;omega) | (simp;omega) | simp) _) | (refine Below.drew ?_) | (refine bt ?_ hbd) | (refine bt ?_ hbf))
end
section
open Go.RowKit
def bz:Nat→Nat→Nat→Int × Int
 | 0,_,_=>(1,0)
 | f+1,a,b=>if b=0 then (1,0) else ((bz f b (a%b)).2,(bz f b (a%b)).1-((a / b:Nat):Int)*(bz f b (a%b)).2)
theorem bz_zero (f a:Nat):bz f a 0=(1,0):=by cases f <;> simp [bz]
theorem bz_spec (f:Nat):∀a b:Nat,b≤f→(a:Int)*(bz f a b).1+(b:Int)*(bz f a b).2=(Nat.gcd a b:Int)∧(bz f a b).1.natAbs≤max 1 b∧(bz f a b).2.natAbs≤max 1 a:=by
 induction f with
 | zero =>
  intro a b hb;obtain rfl:b=0:=by omega
  simp [bz]
 | succ f ih =>
  intro a b hb;by_cases h0:b=0
  ·subst h0;simp [bz]
  ·have hr:=Nat.mod_lt a (show 0<b by omega);obtain ⟨h1,h2,h3⟩:=ih b (a%b) (by omega);have hdm:=Nat.div_add_mod a b;simp only [bz,if_neg h0];have hg:Nat.gcd a b=Nat.gcd b (a%b):=by rw [Nat.gcd_comm a b,Nat.gcd_rec b a,Nat.gcd_comm]
   have hz:a%b=0→bz f b (a%b)=(1,0):=fun h=>by rw [h];exact bz_zero f b
   generalize bz f b (a%b)=p at *;obtain ⟨x,y⟩:=p;simp only at *;refine ⟨?_,by omega,?_⟩
   ·rw [hg,←h1]
    have e:(a:Int)=(b:Int)*((a / b:Nat):Int)+((a%b:Nat):Int):=by
     rw [←Int.natCast_mul];omega
    rw [Int.mul_sub,Int.sub_eq_add_neg]
    have e2:(a:Int)*y=(b:Int)*(((a / b:Nat):Int)*y)+((a%b:Nat):Int)*y:=by
     conv=>lhs;rw [e]
     rw [Int.add_mul,Int.mul_assoc]
    omega
   ·rcases Nat.eq_zero_or_pos (a%b) with hz0 | hz0
    ·have:=hz hz0;simp only [Prod.mk.injEq] at this;rw [this.1,this.2];simp;omega
    ·have hb1:y.natAbs≤b:=by omega
     have hx1:x.natAbs≤a%b:=by omega
     have hq:(((a / b:Nat):Int)*y).natAbs≤a / b*b:=by
      rw [Int.natAbs_mul,Int.natAbs_natCast];exact Nat.mul_le_mul_left _ hb1
     have:a / b*b+a%b=a:=by rw [Nat.mul_comm];exact hdm
     omega
theorem bz_prod (f a b:Nat) (hb:b≤f+1) (h0:b≠0):a / b*(bz f b (a%b)).2.natAbs≤a:=by
 have hr:=Nat.mod_lt a (show 0<b by omega);have h3:=(bz_spec f b (a%b) (by omega)).2.2;have hb1:(bz f b (a%b)).2.natAbs≤b:=by omega
 exact Nat.le_trans (Nat.mul_le_mul_left _ hb1) (Nat.div_mul_le_self a b)
structure Boxes (w:World) (bx by':Nat) (x y:Int) (wx:World):Prop where
 r1:Blk wx w.heap.size 37 [Value.bool false,Value.string { data:=#[] }]
 r2:Blk wx (w.heap.size+1) 37 [Value.bool false,Value.string { data:=#[] }]
 x:Blk wx bx 37 [Value.bool (sg x),Value.string (E x.natAbs)]
 y:Blk wx by' 37 [Value.bool (sg y),Value.string (E y.natAbs)]
 below:Below w.heap.size w wx
theorem Boxes.after {w wx wy:World} {bx b2:Nat} {x y:Int} (h:Boxes w bx b2 x y wx) (hb:Below wx.heap.size wx wy):Boxes w bx b2 x y wy:=
 ⟨h.r1.after hb,h.r2.after hb,h.x.after hb,h.y.after hb,bt h.below hb⟩
theorem Boxes.drew {w wx:World} {bx b2:Nat} {x y:Int} (h:Boxes w bx b2 x y wx):Boxes w bx b2 x y wx.drew:=
 ⟨h.r1.drew,h.r2.drew,h.x.drew,h.y.drew,h.below.drew⟩
theorem Boxes.alloc {w wx:World} {bx b2:Nat} {x y:Int} (h:Boxes w bx b2 x y wx) (o:Obj):Boxes w bx b2 x y (wx.alloc o):=
 h.after (b1 _ _)
theorem Boxes.set {w wx:World} {bx b2:Nat} {x y:Int} (h:Boxes w bx b2 x y wx) (g j:Nat) (v:Value) (h1:w.heap.size+1<g) (h2:bx≠g) (h3:b2≠g):Boxes w bx b2 x y (wx.setCell ⟨g,j,none⟩ v):=
 ⟨h.r1.other _ _ (by simp;omega),h.r2.other _ _ (by simp;omega),h.x.other _ _ h2,h.y.other _ _ h3,h.below.setCell (by simp;omega) _⟩
end
section
open Go.RowKit
theorem rimulN_c (n:Nat) (y:Int) (w:World) (hn:n<256^128) (hy:y.natAbs<256^128) (hxy:n*y.natAbs<256^128) (p:Int) (hp:(n:Int)*y=p) :
  Calls Tryz.prog 92 #[.agg #[.bool (sg (n:Int)),.string (E n)],.agg #[.bool (sg (y)),.string (E (y).natAbs)]] w fun e w'=>e=.returned (.tuple #[.agg #[.bool (sg (p)),.string (E (p).natAbs)],.int .i64 0])∧Below w.heap.size w w':=by
 have:=rimul_c (n:Int) y w (by simpa using hn) hy (by simpa using hxy);rw [Int.natAbs_natCast,hp] at this;exact this
def PBox (w:World) (bx b2:Nat) (x y p:Int) (s:Value) (wx:World):Prop:=
 ∃gp:Nat,s=.pointer (some ⟨gp,0,none⟩)∧Blk wx gp 37 [Value.bool (sg p),Value.string (E p.natAbs)]∧w.heap.size+1<gp∧bx≠gp∧b2≠gp∧Boxes w bx b2 x y wx
theorem PBox.of_set {w wx:World} {bx b2 g:Nat} {x y p:Int} {u v:Value} (h:Boxes w bx b2 x y wx) (k:Blk wx g 37 [u,v]) (h1:w.heap.size+1<g) (h2:bx≠g) (h3:b2≠g) :
  PBox w bx b2 x y p (.pointer (some ⟨g,0,none⟩)) ((wx.setCell ⟨g,0,none⟩ (.bool (sg p))).setCell ⟨g,1,none⟩ (.string (E p.natAbs))):=
 ⟨g,rfl,(k.set 0 _).set 1 _,h1,h2,h3,(h.set g 0 _ h1 h2 h3).set g 1 _ h1 h2 h3⟩
theorem PBox.of_alloc {w wx:World} {bx b2:Nat} {x y p:Int} (h:Boxes w bx b2 x y wx) :
  PBox w bx b2 x y p (.pointer (some ⟨wx.heap.size,0,none⟩)) (wx.alloc (.cells #[.bool (sg p),.string (E p.natAbs)] 37)):=
 ⟨wx.heap.size,rfl,Blk.new _ _ _,h.r2.lt,Nat.ne_of_lt h.x.lt,Nat.ne_of_lt h.y.lt,h.alloc _⟩
theorem rbez_body (a b g:Nat) (x y p:Int) (w:World) (ha:a<256^128) (hb:b<256^128) (h0:0<b)
  (hx:x.natAbs<256^128) (hy:y.natAbs<256^128) (hpp:a / b*y.natAbs<256^128) (hp:((a / b:Nat):Int)*y=p) (hpa:p.natAbs<256^128) (hd:(x-p).natAbs<256^128)
  (ih:∀w,Calls Tryz.prog 218 #[.string (E b),.string (E (a%b))] w fun e w'=>e=.returned (.tuple #[.string (E g),.agg #[.bool (sg (x)),.string (E (x).natAbs)],.agg #[.bool (sg (y)),.string (E (y).natAbs)]])∧Below w.heap.size w w') :
  Calls Tryz.prog 218 #[.string (E a),.string (E b)] w fun e w'=>e=.returned (.tuple #[.string (E g),.agg #[.bool (sg (y)),.string (E (y).natAbs)],.agg #[.bool (sg (x-p)),.string (E (x-p).natAbs)]])∧Below w.heap.size w w':=by
 have HA:=Lib.hid ha;have HB:=Lib.hid hb;have H0:=Lib.hid h0;have HX:=Lib.hid hx;have HY:=Lib.hid hy;have HPP:=Lib.hid hpp;have HP:=Lib.hid hp;have HPA:=Lib.hid hpa;have HD:=Lib.hid hd;have IH:=Lib.hid ih;have HQ:=Lib.hid (Nat.lt_of_le_of_lt (Nat.div_le_self a b) ha);have hz:=nzE h0;clear ha hb h0 hx hy hpp hp hpa hd ih;have hA:=blk2a w #[Value.bool false,Value.string { data:=#[] }] #[Value.bool false,Value.string { data:=#[] }] 37 37;have hB:=blk2b w #[Value.bool false,Value.string { data:=#[] }] #[Value.bool false,Value.string { data:=#[] }] 37 37;go_enter Tryz.func218,Tryz.ntmps218
 go_wp2_with fail
 refine (rdivmod_c a b _ HA.out HB.out H0.out).mono ?_;rintro e w1 ⟨rfl,hb1⟩;replace hA:=hA.after hb1;replace hB:=hB.after hb1;go_wp2_with fail
 refine (IH.out _).mono ?_;rintro e w2 ⟨rfl,hb2⟩;replace hA:=hA.after hb2;replace hB:=hB.after hb2;have hl2:w.heap.size+1<w2.heap.size:=hB.lt;go_upto_region 5 with fail
 have hbox:Boxes w w2.heap.size (w2.heap.size+1) x y ((w2.alloc (.cells #[.bool (sg x),.string (E x.natAbs)] 37)).alloc (.cells #[.bool (sg y),.string (E y.natAbs)] 37)):=
  ⟨(hA.alloc _).alloc _,(hB.alloc _).alloc _,blk2a _ _ _ _ _,blk2b _ _ _ _ _,ba (ba (bt (bt (b2 _ _ _) hb1) hb2) _) _⟩
 generalize ((w2.alloc (.cells #[.bool (sg x),.string (E x.natAbs)] 37)).alloc (.cells #[.bool (sg y),.string (E y.natAbs)] 37))=w3 at hbox;obtain ⟨bx,hbx⟩:∃bx,w2.heap.size=bx:=⟨_,rfl⟩;have HBX:=Lib.hid hbx;rw [hbx] at hbox ⊢;have hl2':=Lib.hid hl2;clear hbx hA hB hl2;have hy0:=hbox.y.cell 0;have hy1:=hbox.y.cell 1;have hl3:bx+1<w3.heap.size:=hbox.y.lt;go_cut [13] (fun s13 wx=>PBox w bx (bx+1) x y p s13 wx)
 case first =>
  go_region_with (first | (go_at_call 44;refine (rifromS_c (a / b) _ HQ.out).mono ?_;rintro e wf ⟨rfl,hbf⟩;have hboxf:Boxes w bx (bx+1) x y wf:=(by first | exact hbox.drew.after hbf | exact (hbox.alloc _).drew.after hbf);have yf0:=hboxf.y.cell 0;have yf1:=hboxf.y.cell 1;have hlf:bx+1<wf.heap.size:=hboxf.y.lt) | (go_at_call 92;refine (rimulN_c (a / b) y _ HQ.out HY.out HPP.out p HP.out).mono ?_;rintro e wd ⟨rfl,hbd⟩;have hboxd:Boxes w bx (bx+1) x y wd:=(by first | exact hboxf.after hbd | exact (hboxf.alloc _).after hbd);(try (have kA:=((Blk.new w3 #[Value.bool false,Value.string { data:=#[] }] 37).drew.after hbf).after hbd;have kA0:=kA.cell 0;have kA1:=kA.cell 1;have kA2:=kA.free 0;have kA3:=kA.free 1));(try (have kB:=(Blk.new wf #[Value.bool false,Value.string { data:=#[] }] 37).after hbd;have kB0:=kB.cell 0;have kB1:=kB.cell 1;have kB2:=kB.free 0;have kB3:=kB.free 1))))
  all_goals
   go_wp2_with fail
   go_meet
   first | exact PBox.of_alloc hboxd | exact PBox.of_set hboxd kA (by have:=hbox.r2.lt;omega) (by omega) (by omega) | exact PBox.of_set hboxd kB (by have:=hboxf.r2.lt;omega) (by omega) (by omega)
 case rest =>
  obtain ⟨gp,rfl,hP,hg1,hg2,hg3,hbox2⟩:=hcut;have hX:=hbox2.x;obtain ⟨hXc0,hXf0,hXc1,hXf1⟩:=hX.x2;obtain ⟨hPc0,hPf0,hPc1,hPf1⟩:=hP.x2;go_wp2_with fail
  refine (risub_c x p _ HX.out HPA.out HD.out).mono ?_;rintro e w4 ⟨rfl,hb4⟩;clear hXc0 hXf0 hXc1 hXf1;clear hPc0 hPf0 hPc1 hPf1;have hbox4:=hbox2.after hb4;have hZ:=Blk.new w4 #[Value.bool (sg (x-p)),Value.string (E (x-p).natAbs)] 37;have hbox5:=hbox4.alloc (.cells #[Value.bool (sg (x-p)),Value.string (E (x-p).natAbs)] 37);have hY:=hbox5.y;have hR1:=hbox5.r1;have hR2:=hbox5.r2;have hl4:w.heap.size+1<w4.heap.size:=hbox4.r2.lt;have hlx:bx+1<w4.heap.size:=hbox4.y.lt;have hl1:w.heap.size+1<bx:=by rw [←HBX.out];exact hl2'.out
  obtain ⟨hYc0,hYf0,hYc1,hYf1⟩:=hY.x2;obtain ⟨hZc0,hZf0,hZc1,hZf1⟩:=hZ.x2;obtain ⟨hR1c0,hR1f0,hR1c1,hR1f1⟩:=hR1.x2;obtain ⟨hR2c0,hR2f0,hR2c1,hR2f1⟩:=hR2.x2;go_wp2_with fail
  go_region;go_wp2;refine bodyPost_ret (v:=.tuple #[.string (E g),.agg #[.bool (sg (y)),.string (E (y).natAbs)],.agg #[.bool (sg (x-p)),.string (E (x-p).natAbs)]]) ?_ rfl ⟨rfl,?_⟩
  ·simp [results,Tryz.results218,go_sem,hR1c0,hR1c1,hR2c0,hR2c1,hYc0,hYc1,hZc0,hZc1]
  ·repeat (first | exact hbox5.below | (refine Below.drew ?_) | (refine Below.setCell ?_ (by first | omega | (dsimp only;omega) | (simp;done)) _))
theorem rbez_zero (a:Nat) (w:World) :
  Calls Tryz.prog 218 #[.string (E a),.string (E 0)] w fun e w'=>e=.returned (.tuple #[.string (E a),.agg #[.bool (sg ((1:Int))),.string (E ((1:Int)).natAbs)],.agg #[.bool (sg ((0:Int))),.string (E ((0:Int)).natAbs)]])∧Below w.heap.size w w':=by
 have hz:=zE (n:=0) rfl;have hA:=blk2a w #[Value.bool false,Value.string { data:=#[] }] #[Value.bool false,Value.string { data:=#[] }] 37 37;have hB:=blk2b w #[Value.bool false,Value.string { data:=#[] }] #[Value.bool false,Value.string { data:=#[] }] 37 37;have HO:=Lib.hid (fun w=>riof_c 1 w (by decide) (by decide));have HO0:=Lib.hid (fun w=>riof_c 0 w (by decide) (by decide));go_enter Tryz.func218,Tryz.ntmps218
 go_wp2_with fail
 refine (HO.out _).mono ?_;rintro e w1 ⟨rfl,hb1⟩;replace hA:=hA.after hb1;replace hB:=hB.after hb1;go_wp2_with fail
 refine (HO0.out _).mono ?_;rintro e w2 ⟨rfl,hb2⟩;replace hA:=hA.after hb2;replace hB:=hB.after hb2;obtain ⟨hAc0,hAf0,hAc1,hAf1⟩:=hA.x2;obtain ⟨hBc0,hBf0,hBc1,hBf1⟩:=hB.x2;go_wp2;refine bodyPost_ret (v:=.tuple #[.string (E a),.agg #[.bool (sg ((1:Int))),.string (E ((1:Int)).natAbs)],.agg #[.bool (sg ((0:Int))),.string (E ((0:Int)).natAbs)]]) ?_ rfl ⟨rfl,?_⟩
 ·simp [results,Tryz.results218,go_sem,hAc0,hAc1,hBc0,hBc1]
 ·exact ((((bt (bt (b2 _ _ _) hb1) hb2).setCell (Nat.le_refl _) _).setCell (Nat.le_refl _) _).setCell (by simp) _).setCell (by simp) _
theorem rbezout_c (f:Nat):∀(a b:Nat) (w:World),b≤f→a<256^128→b<256^128 →
  Calls Tryz.prog 218 #[.string (E a),.string (E b)] w fun e w'=>e=.returned (.tuple #[.string (E (Nat.gcd a b)),.agg #[.bool (sg ((bz f a b).1)),.string (E ((bz f a b).1).natAbs)],.agg #[.bool (sg ((bz f a b).2)),.string (E ((bz f a b).2).natAbs)]])∧Below w.heap.size w w':=by
 induction f with
 | zero =>
  intro a b w hb ha hb2;obtain rfl:b=0:=by omega
  rw [bz_zero,Nat.gcd_zero_right];exact rbez_zero a w
 | succ f ih =>
  intro a b w hb ha hb2;by_cases h0:b=0
  ·subst h0;rw [bz_zero,Nat.gcd_zero_right];exact rbez_zero a w
  ·have hr:=Nat.mod_lt a (show 0<b by omega);have hs:=bz_spec f b (a%b) (by omega);have hs2:=(bz_spec (f+1) a b hb).2;have hpr:=bz_prod f a b hb h0;have hg:Nat.gcd a b=Nat.gcd b (a%b):=by rw [Nat.gcd_comm a b,Nat.gcd_rec b a,Nat.gcd_comm]
   have e1:bz (f+1) a b=((bz f b (a%b)).2,(bz f b (a%b)).1-((a / b:Nat):Int)*(bz f b (a%b)).2):=by rw [bz,if_neg h0]
   have ihc:=fun w=>ih b (a%b) w (by omega) hb2 (by omega)
   rw [e1] at hs2 ⊢;rw [hg];generalize bz f b (a%b)=q at *;obtain ⟨x,y⟩:=q;simp only at *;refine rbez_body a b _ x y _ w ha hb2 (by omega) (by omega) (by omega) (by omega) rfl ?_ ?_ ihc
   ·rw [Int.natAbs_mul,Int.natAbs_natCast];omega
   ·omega
end
end Go.Proofs.YtdoacbdkbbpamaaGreatDoor
