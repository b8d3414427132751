import Derived.Test.YtcfjcenmcpankaaGreatDoorRInt1
set_option linter.unusedVariables false
set_option linter.unusedSimpArgs false
set_option maxRecDepth 100000
set_option maxHeartbeats 16000000
namespace Go.Proofs.YtcfjcenmcpankaaGreatDoor
open Go.RowKit
section
variable (x y:Int) (w:World)
theorem riadd_same (hx:x.natAbs<256^128) (hy:y.natAbs<256^128) (hsum:(x+y).natAbs<256^128) (hq:sg x=sg y) :
  Calls Tryz.prog 81 #[.agg #[.bool (sg (x)),.string (E (x).natAbs)],.agg #[.bool (sg (y)),.string (E (y).natAbs)]] w fun e w'=>e=.returned (.tuple #[.agg #[.bool (sg (x+y)),.string (E (x+y).natAbs)],.int .i64 0])∧Below w.heap.size w w':=by
 have HX:=Lib.hid hx;have HY:=Lib.hid hy;have HM:=Lib.hid (add_made_same x y hq)
 have HS:Hid (x.natAbs+y.natAbs<256^128):=by
  rw [same_abs x y hq] at hsum;exact hsum
 have hs:=sz _ HS.out;have hqb:(sg x==sg y)=true:=by rw [hq];simp
 clear hx hy hsum hq;have hA:=blk3a w #[Value.bool (sg x),Value.string (E x.natAbs)] #[Value.bool (sg y),Value.string (E y.natAbs)] #[Value.bool false,Value.string { data:=#[] }] 72 72 72;have hB:=blk3b w #[Value.bool (sg x),Value.string (E x.natAbs)] #[Value.bool (sg y),Value.string (E y.natAbs)] #[Value.bool false,Value.string { data:=#[] }] 72 72 72;have hC:=blk3c w #[Value.bool (sg x),Value.string (E x.natAbs)] #[Value.bool (sg y),Value.string (E y.natAbs)] #[Value.bool false,Value.string { data:=#[] }] 72 72 72;go_enter Tryz.func81,Tryz.ntmps81
 go_wp2_with fail
 refine (rivalidI_c x _ HX.out).mono ?_;rintro e w0 ⟨rfl,hb0⟩;replace hA:=hA.after hb0;replace hB:=hB.after hb0;replace hC:=hC.after hb0;obtain ⟨hAc0,hAf0,hAc1,hAf1⟩:=hA.x2;obtain ⟨hBc0,hBf0,hBc1,hBf1⟩:=hB.x2;go_wp2_with fail
 refine (rivalidI_c y _ HY.out).mono ?_;rintro e w1 ⟨rfl,hb1⟩;clear hAc0 hAf0 hAc1 hAf1;clear hBc0 hBf0 hBc1 hBf1;replace hA:=hA.after hb1;replace hB:=hB.after hb1;replace hC:=hC.after hb1;obtain ⟨hAc0,hAf0,hAc1,hAf1⟩:=hA.x2;obtain ⟨hBc0,hBf0,hBc1,hBf1⟩:=hB.x2;go_wp2_with fail
 refine (radd_c x.natAbs y.natAbs _ HX.out HY.out HS.out).mono ?_;rintro e w2 ⟨rfl,hb2⟩;clear hAc0 hAf0 hAc1 hAf1;clear hBc0 hBf0 hBc1 hBf1;replace hA:=hA.after hb2;replace hC:=hC.after hb2;obtain ⟨hAc0,hAf0,hAc1,hAf1⟩:=hA.x2;go_wp2_with fail
 refine (rmake_c (sg x) (x.natAbs+y.natAbs) (x+y) _ (by omega) HM.out).mono ?_;rintro e w3 ⟨rfl,hb3⟩;clear hAc0 hAf0 hAc1 hAf1;replace hC:=hC.after hb3;obtain ⟨hCc0,hCf0,hCc1,hCf1⟩:=hC.x2;go_wp2;refine bodyPost_ret (v:=.tuple #[.agg #[.bool (sg (x+y)),.string (E (x+y).natAbs)],.int .i64 0]) ?_ rfl ⟨rfl,?_⟩
 ·simp [results,Tryz.results81,go_sem,hCc0,hCc1]
 ·exact ((bt (bt (bt (bt (b3 _ _ _ _) hb0) hb1) hb2) hb3).setCell (by simp;omega) _).setCell (by simp;omega) _
theorem riadd_ge (hx:x.natAbs<256^128) (hy:y.natAbs<256^128) (hq:sg x≠sg y) (hg:y.natAbs≤x.natAbs) :
  Calls Tryz.prog 81 #[.agg #[.bool (sg (x)),.string (E (x).natAbs)],.agg #[.bool (sg (y)),.string (E (y).natAbs)]] w fun e w'=>e=.returned (.tuple #[.agg #[.bool (sg (x+y)),.string (E (x+y).natAbs)],.int .i64 0])∧Below w.heap.size w w':=by
 have HX:=Lib.hid hx;have HY:=Lib.hid hy;have HG:=Lib.hid hg;have HM:=Lib.hid (add_made_ge x y hq hg);have hs:(E (x.natAbs-y.natAbs)).size≤128:=sz _ (by omega);have hqb:(sg x==sg y)=false:=by rw [beq_eq_false_iff_ne];exact hq
 have hc:=cmp_nneg x.natAbs y.natAbs hg;clear hx hy hq hg;have hA:=blk3a w #[Value.bool (sg x),Value.string (E x.natAbs)] #[Value.bool (sg y),Value.string (E y.natAbs)] #[Value.bool false,Value.string { data:=#[] }] 72 72 72;have hB:=blk3b w #[Value.bool (sg x),Value.string (E x.natAbs)] #[Value.bool (sg y),Value.string (E y.natAbs)] #[Value.bool false,Value.string { data:=#[] }] 72 72 72;have hC:=blk3c w #[Value.bool (sg x),Value.string (E x.natAbs)] #[Value.bool (sg y),Value.string (E y.natAbs)] #[Value.bool false,Value.string { data:=#[] }] 72 72 72;go_enter Tryz.func81,Tryz.ntmps81
 go_wp2_with fail
 refine (rivalidI_c x _ HX.out).mono ?_;rintro e w0 ⟨rfl,hb0⟩;replace hA:=hA.after hb0;replace hB:=hB.after hb0;replace hC:=hC.after hb0;obtain ⟨hAc0,hAf0,hAc1,hAf1⟩:=hA.x2;obtain ⟨hBc0,hBf0,hBc1,hBf1⟩:=hB.x2;go_wp2_with fail
 refine (rivalidI_c y _ HY.out).mono ?_;rintro e w1 ⟨rfl,hb1⟩;clear hAc0 hAf0 hAc1 hAf1;clear hBc0 hBf0 hBc1 hBf1;replace hA:=hA.after hb1;replace hB:=hB.after hb1;replace hC:=hC.after hb1;obtain ⟨hAc0,hAf0,hAc1,hAf1⟩:=hA.x2;obtain ⟨hBc0,hBf0,hBc1,hBf1⟩:=hB.x2;go_wp2_with fail
 refine (rcmp_c x.natAbs y.natAbs _ HX.out HY.out).mono ?_;rintro e wc ⟨rfl,hbc⟩;clear hAc0 hAf0 hAc1 hAf1;clear hBc0 hBf0 hBc1 hBf1;replace hA:=hA.after hbc;replace hB:=hB.after hbc;replace hC:=hC.after hbc;obtain ⟨hAc0,hAf0,hAc1,hAf1⟩:=hA.x2;obtain ⟨hBc0,hBf0,hBc1,hBf1⟩:=hB.x2;go_wp2_with fail
 refine (rsub_c x.natAbs y.natAbs _ HX.out HG.out).mono ?_;rintro e w2 ⟨rfl,hb2⟩;clear hAc0 hAf0 hAc1 hAf1;clear hBc0 hBf0 hBc1 hBf1;replace hA:=hA.after hb2;replace hC:=hC.after hb2;obtain ⟨hAc0,hAf0,hAc1,hAf1⟩:=hA.x2;go_wp2_with fail
 refine (rmake_c (sg x) (x.natAbs-y.natAbs) (x+y) _ (by omega) HM.out).mono ?_;rintro e w3 ⟨rfl,hb3⟩;clear hAc0 hAf0 hAc1 hAf1;replace hC:=hC.after hb3;obtain ⟨hCc0,hCf0,hCc1,hCf1⟩:=hC.x2;go_wp2;refine bodyPost_ret (v:=.tuple #[.agg #[.bool (sg (x+y)),.string (E (x+y).natAbs)],.int .i64 0]) ?_ rfl ⟨rfl,?_⟩
 ·simp [results,Tryz.results81,go_sem,hCc0,hCc1]
 ·exact ((bt (bt (bt (bt (bt (b3 _ _ _ _) hb0) hb1) hbc) hb2) hb3).setCell (by simp;omega) _).setCell (by simp;omega) _
theorem riadd_lt (hx:x.natAbs<256^128) (hy:y.natAbs<256^128) (hq:sg x≠sg y) (hg:x.natAbs<y.natAbs) :
  Calls Tryz.prog 81 #[.agg #[.bool (sg (x)),.string (E (x).natAbs)],.agg #[.bool (sg (y)),.string (E (y).natAbs)]] w fun e w'=>e=.returned (.tuple #[.agg #[.bool (sg (x+y)),.string (E (x+y).natAbs)],.int .i64 0])∧Below w.heap.size w w':=by
 have HX:=Lib.hid hx;have HY:=Lib.hid hy;have HG:=Lib.hid hg;have HM:=Lib.hid (add_made_lt x y hq hg);have hs:(E (y.natAbs-x.natAbs)).size≤128:=sz _ (by omega);have hqb:(sg x==sg y)=false:=by rw [beq_eq_false_iff_ne];exact hq
 have hc:=cmp_neg x.natAbs y.natAbs hg;clear hx hy hq hg;have hA:=blk3a w #[Value.bool (sg x),Value.string (E x.natAbs)] #[Value.bool (sg y),Value.string (E y.natAbs)] #[Value.bool false,Value.string { data:=#[] }] 72 72 72;have hB:=blk3b w #[Value.bool (sg x),Value.string (E x.natAbs)] #[Value.bool (sg y),Value.string (E y.natAbs)] #[Value.bool false,Value.string { data:=#[] }] 72 72 72;have hC:=blk3c w #[Value.bool (sg x),Value.string (E x.natAbs)] #[Value.bool (sg y),Value.string (E y.natAbs)] #[Value.bool false,Value.string { data:=#[] }] 72 72 72;go_enter Tryz.func81,Tryz.ntmps81
 go_wp2_with fail
 refine (rivalidI_c x _ HX.out).mono ?_;rintro e w0 ⟨rfl,hb0⟩;replace hA:=hA.after hb0;replace hB:=hB.after hb0;replace hC:=hC.after hb0;obtain ⟨hAc0,hAf0,hAc1,hAf1⟩:=hA.x2;obtain ⟨hBc0,hBf0,hBc1,hBf1⟩:=hB.x2;go_wp2_with fail
 refine (rivalidI_c y _ HY.out).mono ?_;rintro e w1 ⟨rfl,hb1⟩;clear hAc0 hAf0 hAc1 hAf1;clear hBc0 hBf0 hBc1 hBf1;replace hA:=hA.after hb1;replace hB:=hB.after hb1;replace hC:=hC.after hb1;obtain ⟨hAc0,hAf0,hAc1,hAf1⟩:=hA.x2;obtain ⟨hBc0,hBf0,hBc1,hBf1⟩:=hB.x2;go_wp2_with fail
 refine (rcmp_c x.natAbs y.natAbs _ HX.out HY.out).mono ?_;rintro e wc ⟨rfl,hbc⟩;clear hAc0 hAf0 hAc1 hAf1;clear hBc0 hBf0 hBc1 hBf1;replace hA:=hA.after hbc;replace hB:=hB.after hbc;replace hC:=hC.after hbc;obtain ⟨hAc0,hAf0,hAc1,hAf1⟩:=hA.x2;obtain ⟨hBc0,hBf0,hBc1,hBf1⟩:=hB.x2;go_wp2_with fail
 refine (rsub_c y.natAbs x.natAbs _ HY.out (Nat.le_of_lt HG.out)).mono ?_;rintro e w2 ⟨rfl,hb2⟩;clear hAc0 hAf0 hAc1 hAf1;clear hBc0 hBf0 hBc1 hBf1;replace hB:=hB.after hb2;replace hC:=hC.after hb2;obtain ⟨hBc0,hBf0,hBc1,hBf1⟩:=hB.x2;go_wp2_with fail
 refine (rmake_c (sg y) (y.natAbs-x.natAbs) (x+y) _ (by omega) HM.out).mono ?_;rintro e w3 ⟨rfl,hb3⟩;clear hBc0 hBf0 hBc1 hBf1;replace hC:=hC.after hb3;obtain ⟨hCc0,hCf0,hCc1,hCf1⟩:=hC.x2;go_wp2;refine bodyPost_ret (v:=.tuple #[.agg #[.bool (sg (x+y)),.string (E (x+y).natAbs)],.int .i64 0]) ?_ rfl ⟨rfl,?_⟩
 ·simp [results,Tryz.results81,go_sem,hCc0,hCc1]
 ·exact ((bt (bt (bt (bt (bt (b3 _ _ _ _) hb0) hb1) hbc) hb2) hb3).setCell (by simp;omega) _).setCell (by simp;omega) _
theorem riadd_c (hx:x.natAbs<256^128) (hy:y.natAbs<256^128) (hsum:(x+y).natAbs<256^128) :
  Calls Tryz.prog 81 #[.agg #[.bool (sg (x)),.string (E (x).natAbs)],.agg #[.bool (sg (y)),.string (E (y).natAbs)]] w fun e w'=>e=.returned (.tuple #[.agg #[.bool (sg (x+y)),.string (E (x+y).natAbs)],.int .i64 0])∧Below w.heap.size w w':=by
 by_cases hq:sg x=sg y
 ·exact riadd_same x y w hx hy hsum hq
 ·rcases Nat.lt_or_ge x.natAbs y.natAbs with h | h
  ·exact riadd_lt x y w hx hy hq h
  ·exact riadd_ge x y w hx hy hq h
theorem riaddN_c (hx:x.natAbs<256^128) (hy:y.natAbs<256^128) (hd:(x-y).natAbs<256^128) :
  Calls Tryz.prog 81 #[.agg #[.bool (sg (x)),.string (E (x).natAbs)],.agg #[.bool (sg (-y)),.string (E y.natAbs)]] w fun e w'=>e=.returned (.tuple #[.agg #[.bool (sg (x-y)),.string (E (x-y).natAbs)],.int .i64 0])∧Below w.heap.size w w':=by
 have:=riadd_c x (-y) w hx (by rw [Int.natAbs_neg];exact hy) (by rw [←Int.sub_eq_add_neg];exact hd);rwa [Int.natAbs_neg,←Int.sub_eq_add_neg] at this
theorem risub_c (hx:x.natAbs<256^128) (hy:y.natAbs<256^128) (hd:(x-y).natAbs<256^128) :
  Calls Tryz.prog 35 #[.agg #[.bool (sg (x)),.string (E (x).natAbs)],.agg #[.bool (sg (y)),.string (E (y).natAbs)]] w fun e w'=>e=.returned (.tuple #[.agg #[.bool (sg (x-y)),.string (E (x-y).natAbs)],.int .i64 0])∧Below w.heap.size w w':=by
 have HX:=Lib.hid hx;have HY:=Lib.hid hy;have HD:=Lib.hid hd;clear hx hy hd;have hA:=blk3a w #[Value.bool (sg x),Value.string (E x.natAbs)] #[Value.bool (sg y),Value.string (E y.natAbs)] #[Value.bool false,Value.string { data:=#[] }] 72 72 72;have hB:=blk3b w #[Value.bool (sg x),Value.string (E x.natAbs)] #[Value.bool (sg y),Value.string (E y.natAbs)] #[Value.bool false,Value.string { data:=#[] }] 72 72 72;have hC:=blk3c w #[Value.bool (sg x),Value.string (E x.natAbs)] #[Value.bool (sg y),Value.string (E y.natAbs)] #[Value.bool false,Value.string { data:=#[] }] 72 72 72;go_enter Tryz.func35,Tryz.ntmps35
 go_wp2_with fail
 refine (rivalidI_c x _ HX.out).mono ?_;rintro e w0 ⟨rfl,hb0⟩;replace hA:=hA.after hb0;replace hB:=hB.after hb0;replace hC:=hC.after hb0;obtain ⟨hAc0,hAf0,hAc1,hAf1⟩:=hA.x2;obtain ⟨hBc0,hBf0,hBc1,hBf1⟩:=hB.x2;go_wp2_with fail
 refine (rivalidI_c y _ HY.out).mono ?_;rintro e w1 ⟨rfl,hb1⟩;clear hAc0 hAf0 hAc1 hAf1;clear hBc0 hBf0 hBc1 hBf1;replace hA:=hA.after hb1;replace hB:=hB.after hb1;replace hC:=hC.after hb1;obtain ⟨hAc0,hAf0,hAc1,hAf1⟩:=hA.x2;obtain ⟨hBc0,hBf0,hBc1,hBf1⟩:=hB.x2;obtain ⟨hCc0,hCf0,hCc1,hCf1⟩:=hC.x2;go_wp2_with fail
 go_region_with (first | (go_at_call 82;refine (rinegS_c y _ HY.out).mono ?_;rintro e w2 ⟨rfl,hb2⟩;have hA2:=hA.drew.after hb2;have hC2:=hC.drew.after hb2;have c0:=hA2.cell 0;have c1:=hA2.cell 1) | (go_at_call 81;refine (riaddN_c x y _ HX.out HY.out HD.out).mono ?_;rintro e w3 ⟨rfl,hb3⟩;have hC3:=hC2.after hb3;have d0:=hC3.cell 0;have d1:=hC3.cell 1;have g0:=hC3.free 0;have g1:=hC3.free 1))
 all_goals go_wp2
 all_goals
  refine bodyPost_ret (v:=.tuple #[.agg #[.bool (sg (x-y)),.string (E (x-y).natAbs)],.int .i64 0]) ?_ rfl ⟨rfl,?_⟩
  ·simp [results,Tryz.results35,go_sem,d0,d1]
  ·exact ((bt (bt (bt (bt (b3 _ _ _ _) hb0) hb1).drew hb2) hb3).setCell (by simp;omega) _).setCell (by simp;omega) _
end
end Go.Proofs.YtcfjcenmcpankaaGreatDoor
