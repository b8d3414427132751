import Derived.Test.YtdoacbdkbbpamaaGreatDoorFs5
import Derived.Test.YtdoacbdkbbpamaaGreatDoorRef7
set_option linter.unusedVariables false
set_option linter.unusedSimpArgs false
set_option maxRecDepth 100000
set_option maxHeartbeats 16000000
namespace Go.Proofs.YtdoacbdkbbpamaaGreatDoor
section
open Go.RowKit
theorem rmake_c (b:Bool) (n:Nat) (z:Int) (w:World) (hm:(E n).size≤4611686018427387904) (hz:z=if b then -(n:Int) else (n:Int)) :
  Calls Tryz.prog 45 #[.bool b,.string (E n)] w fun e w'=>e=.returned (.agg #[.bool (sg (z)),.string (E (z).natAbs)])∧Below w.heap.size w w':=by
 have H:=made_val b n;rw [←hz] at H;have HM:=Lib.hid H;clear H hz;cases b
 all_goals
  go_enter Tryz.func45,Tryz.ntmps45
  go_wp2;refine bodyPost_ret (v:=.agg #[.bool (sg (z)),.string (E (z).natAbs)]) (by rw [←HM.out];simp [results,Tryz.results45,go_sem]) rfl ⟨rfl,b1 _ _⟩
theorem rivalid_c (b:Bool) (s:ByteArray) (w:World) (hm:s.size≤4611686018427387904) :
  Calls Tryz.prog 41 #[.agg #[.bool b,.string s]] w fun e w'=>e=.returned (.bool (ivB b s))∧Below w.heap.size w w':=by
 have HI:=Lib.hid (show ivB b s=(vldB s&&!(b&&s.toList.isEmpty)) from rfl);generalize ivB b s=r at HI;cases hv:vldB s
 ·rw [hv] at HI;go_enter Tryz.func41,Tryz.ntmps41
  go_wp2_with fail
  refine (rvalid_c s _ (by omega)).mono ?_;rintro e w' ⟨rfl,rfl⟩;rw [hv];go_wp2;go_ret
  exact ⟨rb (by rw [HI.out];rfl),b1 _ _⟩
 ·rw [hv] at HI;cases b
  ·go_enter Tryz.func41,Tryz.ntmps41
   go_wp2_with fail
   refine (rvalid_c s _ (by omega)).mono ?_;rintro e w' ⟨rfl,rfl⟩;rw [hv];go_wp2;go_ret
   exact ⟨rb (by rw [HI.out];rfl),b1 _ _⟩
  ·cases he:s.toList.isEmpty
   all_goals
    rw [he] at HI;go_enter Tryz.func41,Tryz.ntmps41
    go_wp2_with fail
    refine (rvalid_c s _ (by omega)).mono ?_;rintro e w' ⟨rfl,rfl⟩;rw [hv];go_wp2;go_ret
    exact ⟨rb (by rw [HI.out];rfl),b1 _ _⟩
theorem rivalidI_c (z:Int) (w:World) (h:z.natAbs<256^128) :
  Calls Tryz.prog 41 #[.agg #[.bool (sg (z)),.string (E (z).natAbs)]] w fun e w'=>e=.returned (.bool true)∧Below w.heap.size w w':=by
 have:=rivalid_c (sg z) (E z.natAbs) w (by have:=sz z.natAbs h;omega);rw [ivB_I z h] at this;exact this
theorem riof_c (z:Int) (w:World) (h1:-9223372036854775808≤z) (h2:z≤9223372036854775807) :
  Calls Tryz.prog 18 #[.int .i64 z] w fun e w'=>e=.returned (.agg #[.bool (sg (z)),.string (E (z).natAbs)])∧Below w.heap.size w w':=by
 have HN:Hid (z.natAbs<256^8):=by unfold Hid;rw [←u64_as_pow];omega
 have hs:=(E_size_le z.natAbs 8).2 HN.out;have hB:=Blk.new w #[Value.bool false,Value.string { data:=#[] }] 37;by_cases h:z<0
 ·have HZ:Hid (z=if true then -(z.natAbs:Int) else (z.natAbs:Int)):=by unfold Hid;simp;omega
  go_enter Tryz.func18,Tryz.ntmps18
  go_wp2_with fail
  have hof:=rof_c z.natAbs (w.alloc (Obj.cells #[Value.bool false,Value.string { data:=#[] }] 37)) HN.out;rw [show (z.natAbs:Int)=-(z+1)+1 by omega] at hof;refine hof.mono ?_;clear hof;rintro e w1 ⟨rfl,hb1⟩;replace hB:=hB.after hb1;go_wp2_with fail
  refine (rmake_c true z.natAbs z _ (by omega) HZ.out).mono ?_;rintro e w2 ⟨rfl,hb2⟩;replace hB:=hB.after hb2;obtain ⟨hBc0,hBf0,hBc1,hBf1⟩:=hB.x2;go_wp2;refine bodyPost_ret (v:=.agg #[.bool (sg (z)),.string (E (z).natAbs)]) ?_ rfl ⟨rfl,?_⟩
  ·simp [results,Tryz.results18,go_sem,hBc0,hBc1]
  ·exact ((bt (bt (b1 _ _) hb1) hb2).setCell (Nat.le_refl _) _).setCell (Nat.le_refl _) _
 ·have HZ:Hid (z=if false then -(z.natAbs:Int) else (z.natAbs:Int)):=by unfold Hid;simp;omega
  have HZ2:Hid (z=(z.natAbs:Int)):=by unfold Hid;omega
  have h0:0≤z:=by omega
  go_enter Tryz.func18,Tryz.ntmps18
  go_wp2_with fail
  have hof:=rof_c z.natAbs (w.alloc (Obj.cells #[Value.bool false,Value.string { data:=#[] }] 37)) HN.out;rw [←HZ2.out] at hof;refine hof.mono ?_;clear hof;rintro e w1 ⟨rfl,hb1⟩;replace hB:=hB.after hb1;go_wp2_with fail
  refine (rmake_c false z.natAbs z _ (by omega) HZ.out).mono ?_;rintro e w2 ⟨rfl,hb2⟩;replace hB:=hB.after hb2;obtain ⟨hBc0,hBf0,hBc1,hBf1⟩:=hB.x2;go_wp2;refine bodyPost_ret (v:=.agg #[.bool (sg (z)),.string (E (z).natAbs)]) ?_ rfl ⟨rfl,?_⟩
  ·simp [results,Tryz.results18,go_sem,hBc0,hBc1]
  ·exact ((bt (bt (b1 _ _) hb1) hb2).setCell (Nat.le_refl _) _).setCell (Nat.le_refl _) _
theorem rifrom_c (n:Nat) (w:World) (hn:n<256^128) :
  Calls Tryz.prog 44 #[.string (E n)] w fun e w'=>e=.returned (.agg #[.bool (sg ((n:Int))),.string (E ((n:Int)).natAbs)])∧Below w.heap.size w w':=by
 have hs:=sz n hn;have HN:=Lib.hid hn;clear hn;have HZ:Hid ((n:Int)=if false then -(n:Int) else (n:Int)):=by simp [Hid]
 have hB:=Blk.new w #[Value.bool false,Value.string { data:=#[] }] 37;go_enter Tryz.func44,Tryz.ntmps44
 go_wp2_with fail
 refine (rvalidE_c n _ HN.out).mono ?_;rintro e w' ⟨rfl,rfl⟩;go_wp2_with fail
 refine (rmake_c false n (n:Int) _ (by omega) HZ.out).mono ?_;rintro e w1 ⟨rfl,hb1⟩;replace hB:=hB.after hb1;obtain ⟨hBc0,hBf0,hBc1,hBf1⟩:=hB.x2;go_wp2;refine bodyPost_ret (v:=.agg #[.bool (sg ((n:Int))),.string (E ((n:Int)).natAbs)]) ?_ rfl ⟨rfl,?_⟩
 ·simp [results,Tryz.results44,go_sem,hBc0,hBc1]
 ·exact ((bt (b1 _ _) hb1).setCell (Nat.le_refl _) _).setCell (Nat.le_refl _) _
theorem rineg_c (z:Int) (w:World) (hz:z.natAbs<256^128) :
  Calls Tryz.prog 55 #[.agg #[.bool (sg (z)),.string (E (z).natAbs)]] w fun e w'=>e=.returned (.agg #[.bool (sg (-z)),.string (E (-z).natAbs)])∧Below w.heap.size w w':=by
 have HZ:=Lib.hid hz;have hs:=szI z hz;clear hz;have hA:=blk2a w #[Value.bool (sg z),Value.string (E z.natAbs)] #[Value.bool false,Value.string { data:=#[] }] 37 37;have hB:=blk2b w #[Value.bool (sg z),Value.string (E z.natAbs)] #[Value.bool false,Value.string { data:=#[] }] 37 37;have HM:=Lib.hid (neg_made z);go_enter Tryz.func55,Tryz.ntmps55
 go_wp2_with fail
 refine (rivalidI_c z _ HZ.out).mono ?_;rintro e w1 ⟨rfl,hb1⟩;replace hA:=hA.after hb1;replace hB:=hB.after hb1;obtain ⟨hAc0,hAf0,hAc1,hAf1⟩:=hA.x2;go_wp2_with fail
 refine (rmake_c (!sg z) z.natAbs (-z) _ (by omega) HM.out).mono ?_;rintro e w2 ⟨rfl,hb2⟩;replace hB:=hB.after hb2;obtain ⟨hBc0,hBf0,hBc1,hBf1⟩:=hB.x2;go_wp2;refine bodyPost_ret (v:=.agg #[.bool (sg (-z)),.string (E (-z).natAbs)]) ?_ rfl ⟨rfl,?_⟩
 ·simp [results,Tryz.results55,go_sem,hBc0,hBc1]
 ·exact ((bt (bt (b2 _ _ _) hb1) hb2).setCell (by simp) _).setCell (by simp) _
theorem rinegS_c (z:Int) (w:World) (hz:z.natAbs<256^128) :
  Calls Tryz.prog 55 #[.agg #[.bool (sg (z)),.string (E (z).natAbs)]] w fun e w'=>e=.returned (.agg #[.bool (sg (-z)),.string (E z.natAbs)])∧Below w.heap.size w w':=by
 have:=rineg_c z w hz;rwa [Int.natAbs_neg] at this
theorem rimul_c (x y:Int) (w:World) (hx:x.natAbs<256^128) (hy:y.natAbs<256^128) (hxy:x.natAbs*y.natAbs<256^128) :
  Calls Tryz.prog 92 #[.agg #[.bool (sg (x)),.string (E (x).natAbs)],.agg #[.bool (sg (y)),.string (E (y).natAbs)]] w fun e w'=>e=.returned (.tuple #[.agg #[.bool (sg (x*y)),.string (E (x*y).natAbs)],.int .i64 0])∧Below w.heap.size w w':=by
 have HX:=Lib.hid hx;have HY:=Lib.hid hy;have HXY:=Lib.hid hxy;have hs:=sz _ hxy;clear hx hy hxy;have HM:=Lib.hid (mul_made x y);have hA:=blk3a w #[Value.bool (sg x),Value.string (E x.natAbs)] #[Value.bool (sg y),Value.string (E y.natAbs)] #[Value.bool false,Value.string { data:=#[] }] 37 37 37;have hB:=blk3b w #[Value.bool (sg x),Value.string (E x.natAbs)] #[Value.bool (sg y),Value.string (E y.natAbs)] #[Value.bool false,Value.string { data:=#[] }] 37 37 37;have hC:=blk3c w #[Value.bool (sg x),Value.string (E x.natAbs)] #[Value.bool (sg y),Value.string (E y.natAbs)] #[Value.bool false,Value.string { data:=#[] }] 37 37 37;go_enter Tryz.func92,Tryz.ntmps92
 go_wp2_with fail
 refine (rivalidI_c x _ HX.out).mono ?_;rintro e w0 ⟨rfl,hb0⟩;replace hA:=hA.after hb0;replace hB:=hB.after hb0;replace hC:=hC.after hb0;obtain ⟨hAc0,hAf0,hAc1,hAf1⟩:=hA.x2;obtain ⟨hBc0,hBf0,hBc1,hBf1⟩:=hB.x2;go_wp2_with fail
 refine (rivalidI_c y _ HY.out).mono ?_;rintro e w1 ⟨rfl,hb1⟩;clear hAc0 hAf0 hAc1 hAf1;clear hBc0 hBf0 hBc1 hBf1;replace hA:=hA.after hb1;replace hB:=hB.after hb1;replace hC:=hC.after hb1;obtain ⟨hAc0,hAf0,hAc1,hAf1⟩:=hA.x2;obtain ⟨hBc0,hBf0,hBc1,hBf1⟩:=hB.x2;go_wp2_with fail
 refine (rmul_c x.natAbs y.natAbs _ HX.out HY.out HXY.out).mono ?_;rintro e w2 ⟨rfl,hb2⟩;clear hAc0 hAf0 hAc1 hAf1;clear hBc0 hBf0 hBc1 hBf1;replace hA:=hA.after hb2;replace hB:=hB.after hb2;replace hC:=hC.after hb2;obtain ⟨hAc0,hAf0,hAc1,hAf1⟩:=hA.x2;obtain ⟨hBc0,hBf0,hBc1,hBf1⟩:=hB.x2;go_wp2_with fail
 refine (rmake_c (sg x != sg y) (x.natAbs*y.natAbs) (x*y) _ (by omega) HM.out).mono ?_;rintro e w3 ⟨rfl,hb3⟩;clear hAc0 hAf0 hAc1 hAf1;clear hBc0 hBf0 hBc1 hBf1;replace hC:=hC.after hb3;obtain ⟨hCc0,hCf0,hCc1,hCf1⟩:=hC.x2;go_wp2;refine bodyPost_ret (v:=.tuple #[.agg #[.bool (sg (x*y)),.string (E (x*y).natAbs)],.int .i64 0]) ?_ rfl ⟨rfl,?_⟩
 ·simp [results,Tryz.results92,go_sem,hCc0,hCc1]
 ·exact ((bt (bt (bt (bt (b3 _ _ _ _) hb0) hb1) hb2) hb3).setCell (by simp;omega) _).setCell (by simp;omega) _
end
section
open Go.RowKit
section
variable (x y:Int) (w:World)
theorem riadd_same (hx:x.natAbs<256^128) (hy:y.natAbs<256^128) (hsum:(x+y).natAbs<256^128) (hq:sg x=sg y) :
  Calls Tryz.prog 125 #[.agg #[.bool (sg (x)),.string (E (x).natAbs)],.agg #[.bool (sg (y)),.string (E (y).natAbs)]] w fun e w'=>e=.returned (.tuple #[.agg #[.bool (sg (x+y)),.string (E (x+y).natAbs)],.int .i64 0])∧Below w.heap.size w w':=by
 have HX:=Lib.hid hx;have HY:=Lib.hid hy;have HM:=Lib.hid (add_made_same x y hq)
 have HS:Hid (x.natAbs+y.natAbs<256^128):=by
  rw [same_abs x y hq] at hsum;exact hsum
 have hs:=sz _ HS.out;have hqb:(sg x==sg y)=true:=by rw [hq];simp
 clear hx hy hsum hq;have hA:=blk3a w #[Value.bool (sg x),Value.string (E x.natAbs)] #[Value.bool (sg y),Value.string (E y.natAbs)] #[Value.bool false,Value.string { data:=#[] }] 37 37 37;have hB:=blk3b w #[Value.bool (sg x),Value.string (E x.natAbs)] #[Value.bool (sg y),Value.string (E y.natAbs)] #[Value.bool false,Value.string { data:=#[] }] 37 37 37;have hC:=blk3c w #[Value.bool (sg x),Value.string (E x.natAbs)] #[Value.bool (sg y),Value.string (E y.natAbs)] #[Value.bool false,Value.string { data:=#[] }] 37 37 37;go_enter Tryz.func125,Tryz.ntmps125
 go_wp2_with fail
 refine (rivalidI_c x _ HX.out).mono ?_;rintro e w0 ⟨rfl,hb0⟩;replace hA:=hA.after hb0;replace hB:=hB.after hb0;replace hC:=hC.after hb0;obtain ⟨hAc0,hAf0,hAc1,hAf1⟩:=hA.x2;obtain ⟨hBc0,hBf0,hBc1,hBf1⟩:=hB.x2;go_wp2_with fail
 refine (rivalidI_c y _ HY.out).mono ?_;rintro e w1 ⟨rfl,hb1⟩;clear hAc0 hAf0 hAc1 hAf1;clear hBc0 hBf0 hBc1 hBf1;replace hA:=hA.after hb1;replace hB:=hB.after hb1;replace hC:=hC.after hb1;obtain ⟨hAc0,hAf0,hAc1,hAf1⟩:=hA.x2;obtain ⟨hBc0,hBf0,hBc1,hBf1⟩:=hB.x2;go_wp2_with fail
 refine (radd_c x.natAbs y.natAbs _ HX.out HY.out HS.out).mono ?_;rintro e w2 ⟨rfl,hb2⟩;clear hAc0 hAf0 hAc1 hAf1;clear hBc0 hBf0 hBc1 hBf1;replace hA:=hA.after hb2;replace hC:=hC.after hb2;obtain ⟨hAc0,hAf0,hAc1,hAf1⟩:=hA.x2;go_wp2_with fail
 refine (rmake_c (sg x) (x.natAbs+y.natAbs) (x+y) _ (by omega) HM.out).mono ?_;rintro e w3 ⟨rfl,hb3⟩;clear hAc0 hAf0 hAc1 hAf1;replace hC:=hC.after hb3;obtain ⟨hCc0,hCf0,hCc1,hCf1⟩:=hC.x2;go_wp2;refine bodyPost_ret (v:=.tuple #[.agg #[.bool (sg (x+y)),.string (E (x+y).natAbs)],.int .i64 0]) ?_ rfl ⟨rfl,?_⟩
 ·simp [results,Tryz.results125,go_sem,hCc0,hCc1]
 ·exact ((bt (bt (bt (bt (b3 _ _ _ _) hb0) hb1) hb2) hb3).setCell (by simp;omega) _).setCell (by simp;omega) _
theorem riadd_ge (hx:x.natAbs<256^128) (hy:y.natAbs<256^128) (hq:sg x≠sg y) (hg:y.natAbs≤x.natAbs) :
  Calls Tryz.prog 125 #[.agg #[.bool (sg (x)),.string (E (x).natAbs)],.agg #[.bool (sg (y)),.string (E (y).natAbs)]] w fun e w'=>e=.returned (.tuple #[.agg #[.bool (sg (x+y)),.string (E (x+y).natAbs)],.int .i64 0])∧Below w.heap.size w w':=by
 have HX:=Lib.hid hx;have HY:=Lib.hid hy;have HG:=Lib.hid hg;have HM:=Lib.hid (add_made_ge x y hq hg);have hs:(E (x.natAbs-y.natAbs)).size≤128:=sz _ (by omega);have hqb:(sg x==sg y)=false:=by rw [beq_eq_false_iff_ne];exact hq
 have hc:=cmp_nneg x.natAbs y.natAbs hg;clear hx hy hq hg;have hA:=blk3a w #[Value.bool (sg x),Value.string (E x.natAbs)] #[Value.bool (sg y),Value.string (E y.natAbs)] #[Value.bool false,Value.string { data:=#[] }] 37 37 37;have hB:=blk3b w #[Value.bool (sg x),Value.string (E x.natAbs)] #[Value.bool (sg y),Value.string (E y.natAbs)] #[Value.bool false,Value.string { data:=#[] }] 37 37 37;have hC:=blk3c w #[Value.bool (sg x),Value.string (E x.natAbs)] #[Value.bool (sg y),Value.string (E y.natAbs)] #[Value.bool false,Value.string { data:=#[] }] 37 37 37;go_enter Tryz.func125,Tryz.ntmps125
 go_wp2_with fail
 refine (rivalidI_c x _ HX.out).mono ?_;rintro e w0 ⟨rfl,hb0⟩;replace hA:=hA.after hb0;replace hB:=hB.after hb0;replace hC:=hC.after hb0;obtain ⟨hAc0,hAf0,hAc1,hAf1⟩:=hA.x2;obtain ⟨hBc0,hBf0,hBc1,hBf1⟩:=hB.x2;go_wp2_with fail
 refine (rivalidI_c y _ HY.out).mono ?_;rintro e w1 ⟨rfl,hb1⟩;clear hAc0 hAf0 hAc1 hAf1;clear hBc0 hBf0 hBc1 hBf1;replace hA:=hA.after hb1;replace hB:=hB.after hb1;replace hC:=hC.after hb1;obtain ⟨hAc0,hAf0,hAc1,hAf1⟩:=hA.x2;obtain ⟨hBc0,hBf0,hBc1,hBf1⟩:=hB.x2;go_wp2_with fail
 refine (rcmp_c x.natAbs y.natAbs _ HX.out HY.out).mono ?_;rintro e wc ⟨rfl,hbc⟩;clear hAc0 hAf0 hAc1 hAf1;clear hBc0 hBf0 hBc1 hBf1;replace hA:=hA.after hbc;replace hB:=hB.after hbc;replace hC:=hC.after hbc;obtain ⟨hAc0,hAf0,hAc1,hAf1⟩:=hA.x2;obtain ⟨hBc0,hBf0,hBc1,hBf1⟩:=hB.x2;go_wp2_with fail
 refine (rsub_c x.natAbs y.natAbs _ HX.out HG.out).mono ?_;rintro e w2 ⟨rfl,hb2⟩;clear hAc0 hAf0 hAc1 hAf1;clear hBc0 hBf0 hBc1 hBf1;replace hA:=hA.after hb2;replace hC:=hC.after hb2;obtain ⟨hAc0,hAf0,hAc1,hAf1⟩:=hA.x2;go_wp2_with fail
 refine (rmake_c (sg x) (x.natAbs-y.natAbs) (x+y) _ (by omega) HM.out).mono ?_;rintro e w3 ⟨rfl,hb3⟩;clear hAc0 hAf0 hAc1 hAf1;replace hC:=hC.after hb3;obtain ⟨hCc0,hCf0,hCc1,hCf1⟩:=hC.x2;go_wp2;refine bodyPost_ret (v:=.tuple #[.agg #[.bool (sg (x+y)),.string (E (x+y).natAbs)],.int .i64 0]) ?_ rfl ⟨rfl,?_⟩
 ·simp [results,Tryz.results125,go_sem,hCc0,hCc1]
 ·exact ((bt (bt (bt (bt (bt (b3 _ _ _ _) hb0) hb1) hbc) hb2) hb3).setCell (by simp;omega) _).setCell (by simp;omega) _
theorem riadd_lt (hx:x.natAbs<256^128) (hy:y.natAbs<256^128) (hq:sg x≠sg y) (hg:x.natAbs<y.natAbs) :
  Calls Tryz.prog 125 #[.agg #[.bool (sg (x)),.string (E (x).natAbs)],.agg #[.bool (sg (y)),.string (E (y).natAbs)]] w fun e w'=>e=.returned (.tuple #[.agg #[.bool (sg (x+y)),.string (E (x+y).natAbs)],.int .i64 0])∧Below w.heap.size w w':=by
 have HX:=Lib.hid hx;have HY:=Lib.hid hy;have HG:=Lib.hid hg;have HM:=Lib.hid (add_made_lt x y hq hg);have hs:(E (y.natAbs-x.natAbs)).size≤128:=sz _ (by omega);have hqb:(sg x==sg y)=false:=by rw [beq_eq_false_iff_ne];exact hq
 have hc:=cmp_neg x.natAbs y.natAbs hg;clear hx hy hq hg;have hA:=blk3a w #[Value.bool (sg x),Value.string (E x.natAbs)] #[Value.bool (sg y),Value.string (E y.natAbs)] #[Value.bool false,Value.string { data:=#[] }] 37 37 37;have hB:=blk3b w #[Value.bool (sg x),Value.string (E x.natAbs)] #[Value.bool (sg y),Value.string (E y.natAbs)] #[Value.bool false,Value.string { data:=#[] }] 37 37 37;have hC:=blk3c w #[Value.bool (sg x),Value.string (E x.natAbs)] #[Value.bool (sg y),Value.string (E y.natAbs)] #[Value.bool false,Value.string { data:=#[] }] 37 37 37;go_enter Tryz.func125,Tryz.ntmps125
 go_wp2_with fail
 refine (rivalidI_c x _ HX.out).mono ?_;rintro e w0 ⟨rfl,hb0⟩;replace hA:=hA.after hb0;replace hB:=hB.after hb0;replace hC:=hC.after hb0;obtain ⟨hAc0,hAf0,hAc1,hAf1⟩:=hA.x2;obtain ⟨hBc0,hBf0,hBc1,hBf1⟩:=hB.x2;go_wp2_with fail
 refine (rivalidI_c y _ HY.out).mono ?_;rintro e w1 ⟨rfl,hb1⟩;clear hAc0 hAf0 hAc1 hAf1;clear hBc0 hBf0 hBc1 hBf1;replace hA:=hA.after hb1;replace hB:=hB.after hb1;replace hC:=hC.after hb1;obtain ⟨hAc0,hAf0,hAc1,hAf1⟩:=hA.x2;obtain ⟨hBc0,hBf0,hBc1,hBf1⟩:=hB.x2;go_wp2_with fail
 refine (rcmp_c x.natAbs y.natAbs _ HX.out HY.out).mono ?_;rintro e wc ⟨rfl,hbc⟩;clear hAc0 hAf0 hAc1 hAf1;clear hBc0 hBf0 hBc1 hBf1;replace hA:=hA.after hbc;replace hB:=hB.after hbc;replace hC:=hC.after hbc;obtain ⟨hAc0,hAf0,hAc1,hAf1⟩:=hA.x2;obtain ⟨hBc0,hBf0,hBc1,hBf1⟩:=hB.x2;go_wp2_with fail
 refine (rsub_c y.natAbs x.natAbs _ HY.out (Nat.le_of_lt HG.out)).mono ?_;rintro e w2 ⟨rfl,hb2⟩;clear hAc0 hAf0 hAc1 hAf1;clear hBc0 hBf0 hBc1 hBf1;replace hB:=hB.after hb2;replace hC:=hC.after hb2;obtain ⟨hBc0,hBf0,hBc1,hBf1⟩:=hB.x2;go_wp2_with fail
 refine (rmake_c (sg y) (y.natAbs-x.natAbs) (x+y) _ (by omega) HM.out).mono ?_;rintro e w3 ⟨rfl,hb3⟩;clear hBc0 hBf0 hBc1 hBf1;replace hC:=hC.after hb3;obtain ⟨hCc0,hCf0,hCc1,hCf1⟩:=hC.x2;go_wp2;refine bodyPost_ret (v:=.tuple #[.agg #[.bool (sg (x+y)),.string (E (x+y).natAbs)],.int .i64 0]) ?_ rfl ⟨rfl,?_⟩
 ·simp [results,Tryz.results125,go_sem,hCc0,hCc1]
 ·exact ((bt (bt (bt (bt (bt (b3 _ _ _ _) hb0) hb1) hbc) hb2) hb3).setCell (by simp;omega) _).setCell (by simp;omega) _
theorem riadd_c (hx:x.natAbs<256^128) (hy:y.natAbs<256^128) (hsum:(x+y).natAbs<256^128) :
  Calls Tryz.prog 125 #[.agg #[.bool (sg (x)),.string (E (x).natAbs)],.agg #[.bool (sg (y)),.string (E (y).natAbs)]] w fun e w'=>e=.returned (.tuple #[.agg #[.bool (sg (x+y)),.string (E (x+y).natAbs)],.int .i64 0])∧Below w.heap.size w w':=by
 by_cases hq:sg x=sg y
 ·exact riadd_same x y w hx hy hsum hq
 ·rcases Nat.lt_or_ge x.natAbs y.natAbs with h | h
  ·exact riadd_lt x y w hx hy hq h
  ·exact riadd_ge x y w hx hy hq h
theorem riaddN_c (hx:x.natAbs<256^128) (hy:y.natAbs<256^128) (hd:(x-y).natAbs<256^128) :
  Calls Tryz.prog 125 #[.agg #[.bool (sg (x)),.string (E (x).natAbs)],.agg #[.bool (sg (-y)),.string (E y.natAbs)]] w fun e w'=>e=.returned (.tuple #[.agg #[.bool (sg (x-y)),.string (E (x-y).natAbs)],.int .i64 0])∧Below w.heap.size w w':=by
 have:=riadd_c x (-y) w hx (by rw [Int.natAbs_neg];exact hy) (by rw [←Int.sub_eq_add_neg];exact hd);rwa [Int.natAbs_neg,←Int.sub_eq_add_neg] at this
theorem risub_c (hx:x.natAbs<256^128) (hy:y.natAbs<256^128) (hd:(x-y).natAbs<256^128) :
  Calls Tryz.prog 93 #[.agg #[.bool (sg (x)),.string (E (x).natAbs)],.agg #[.bool (sg (y)),.string (E (y).natAbs)]] w fun e w'=>e=.returned (.tuple #[.agg #[.bool (sg (x-y)),.string (E (x-y).natAbs)],.int .i64 0])∧Below w.heap.size w w':=by
 have HX:=Lib.hid hx;have HY:=Lib.hid hy;have HD:=Lib.hid hd;clear hx hy hd;have hA:=blk3a w #[Value.bool (sg x),Value.string (E x.natAbs)] #[Value.bool (sg y),Value.string (E y.natAbs)] #[Value.bool false,Value.string { data:=#[] }] 37 37 37;have hB:=blk3b w #[Value.bool (sg x),Value.string (E x.natAbs)] #[Value.bool (sg y),Value.string (E y.natAbs)] #[Value.bool false,Value.string { data:=#[] }] 37 37 37;have hC:=blk3c w #[Value.bool (sg x),Value.string (E x.natAbs)] #[Value.bool (sg y),Value.string (E y.natAbs)] #[Value.bool false,Value.string { data:=#[] }] 37 37 37;go_enter Tryz.func93,Tryz.ntmps93
 go_wp2_with fail
 refine (rivalidI_c x _ HX.out).mono ?_;rintro e w0 ⟨rfl,hb0⟩;replace hA:=hA.after hb0;replace hB:=hB.after hb0;replace hC:=hC.after hb0;obtain ⟨hAc0,hAf0,hAc1,hAf1⟩:=hA.x2;obtain ⟨hBc0,hBf0,hBc1,hBf1⟩:=hB.x2;go_wp2_with fail
 refine (rivalidI_c y _ HY.out).mono ?_;rintro e w1 ⟨rfl,hb1⟩;clear hAc0 hAf0 hAc1 hAf1;clear hBc0 hBf0 hBc1 hBf1;replace hA:=hA.after hb1;replace hB:=hB.after hb1;replace hC:=hC.after hb1;obtain ⟨hAc0,hAf0,hAc1,hAf1⟩:=hA.x2;obtain ⟨hBc0,hBf0,hBc1,hBf1⟩:=hB.x2;obtain ⟨hCc0,hCf0,hCc1,hCf1⟩:=hC.x2;go_wp2_with fail
 go_region_with (first | (go_at_call 55;refine (rinegS_c y _ HY.out).mono ?_;rintro e w2 ⟨rfl,hb2⟩;have hA2:=hA.drew.after hb2;have hC2:=hC.drew.after hb2;have c0:=hA2.cell 0;have c1:=hA2.cell 1) | (go_at_call 125;refine (riaddN_c x y _ HX.out HY.out HD.out).mono ?_;rintro e w3 ⟨rfl,hb3⟩;have hC3:=hC2.after hb3;have d0:=hC3.cell 0;have d1:=hC3.cell 1;have g0:=hC3.free 0;have g1:=hC3.free 1))
 all_goals go_wp2
 all_goals
  refine bodyPost_ret (v:=.tuple #[.agg #[.bool (sg (x-y)),.string (E (x-y).natAbs)],.int .i64 0]) ?_ rfl ⟨rfl,?_⟩
  ·simp [results,Tryz.results93,go_sem,d0,d1]
  ·exact ((bt (bt (bt (bt (b3 _ _ _ _) hb0) hb1).drew hb2) hb3).setCell (by simp;omega) _).setCell (by simp;omega) _
end
end
end Go.Proofs.YtdoacbdkbbpamaaGreatDoor
