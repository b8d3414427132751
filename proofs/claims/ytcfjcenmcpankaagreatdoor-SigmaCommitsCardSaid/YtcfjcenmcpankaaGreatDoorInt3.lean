import Derived.Test.YtcfjcenmcpankaaGreatDoorInt2
set_option linter.unusedVariables false
set_option linter.unusedSimpArgs false
set_option maxRecDepth 100000
set_option maxHeartbeats 16000000
namespace Go.Proofs.YtcfjcenmcpankaaGreatDoor
open Go.RowKit
theorem add_made_same (x y:Int) (h:sg x=sg y):x+y=if sg x then -((x.natAbs+y.natAbs:Nat):Int) else ((x.natAbs+y.natAbs:Nat):Int):=by
 unfold sg at *;by_cases h1:x<0
 ·rw [decide_eq_true h1] at h ⊢;have:=of_decide_eq_true h.symm;simp;omega
 ·rw [decide_eq_false h1] at h ⊢;have:=of_decide_eq_false h.symm;simp;omega
theorem same_abs (x y:Int) (h:sg x=sg y):(x+y).natAbs=x.natAbs+y.natAbs:=by
 unfold sg at h;by_cases h1:x<0
 ·rw [decide_eq_true h1] at h;have:=of_decide_eq_true h.symm;omega
 ·rw [decide_eq_false h1] at h;have:=of_decide_eq_false h.symm;omega
theorem add_made_ge (x y:Int) (h:sg x≠sg y) (hg:y.natAbs≤x.natAbs):x+y=if sg x then -((x.natAbs-y.natAbs:Nat):Int) else ((x.natAbs-y.natAbs:Nat):Int):=by
 unfold sg at *;by_cases h1:x<0
 ·rw [decide_eq_true h1] at h ⊢;have h2:¬ y<0:=by intro h2;rw [decide_eq_true h2] at h;exact h rfl
  simp;omega
 ·rw [decide_eq_false h1] at h ⊢
  have h2:y<0:=by
   rcases Int.lt_or_le y 0 with h3 | h3
   ·exact h3
   ·rw [decide_eq_false (show ¬ y<0 by omega)] at h;exact absurd rfl h
  simp;omega
theorem add_made_lt (x y:Int) (h:sg x≠sg y) (hg:x.natAbs<y.natAbs):x+y=if sg y then -((y.natAbs-x.natAbs:Nat):Int) else ((y.natAbs-x.natAbs:Nat):Int):=by
 rw [Int.add_comm];exact add_made_ge y x (Ne.symm h) (by omega)
section
variable (x y:Int) (w:World)
theorem iadd_same (hx:x.natAbs<256^128) (hy:y.natAbs<256^128) (hsum:(x+y).natAbs<256^128) (hq:sg x=sg y) :
  Calls Tryz.prog 105 #[.agg #[.bool (sg (x)),.string (E (x).natAbs)],.agg #[.bool (sg (y)),.string (E (y).natAbs)]] w fun e w'=>e=.returned (.tuple #[.agg #[.bool (sg (x+y)),.string (E (x+y).natAbs)],.int .i64 0])∧Below w.heap.size w w':=by
 have HX:=Lib.hid hx;have HY:=Lib.hid hy;have HM:=Lib.hid (add_made_same x y hq)
 have HS:Hid (x.natAbs+y.natAbs<256^128):=by
  rw [same_abs x y hq] at hsum;exact hsum
 have hs:=sz _ HS.out;have hqb:(sg x==sg y)=true:=by rw [hq];simp
 clear hx hy hsum hq;have hA:=blk3a w #[Value.bool (sg x),Value.string (E x.natAbs)] #[Value.bool (sg y),Value.string (E y.natAbs)] #[Value.bool false,Value.string { data:=#[] }] 72 72 72;have hB:=blk3b w #[Value.bool (sg x),Value.string (E x.natAbs)] #[Value.bool (sg y),Value.string (E y.natAbs)] #[Value.bool false,Value.string { data:=#[] }] 72 72 72;have hC:=blk3c w #[Value.bool (sg x),Value.string (E x.natAbs)] #[Value.bool (sg y),Value.string (E y.natAbs)] #[Value.bool false,Value.string { data:=#[] }] 72 72 72;go_enter Tryz.func105,Tryz.ntmps105
 go_wp2_with fail
 refine (iboth_c x y _ HX.out HY.out).mono ?_;rintro e w1 ⟨rfl,hb1⟩;replace hA:=hA.after hb1;replace hB:=hB.after hb1;replace hC:=hC.after hb1;obtain ⟨hAc0,hAf0,hAc1,hAf1⟩:=hA.x2;obtain ⟨hBc0,hBf0,hBc1,hBf1⟩:=hB.x2;go_wp2_with fail
 refine (add_c x.natAbs y.natAbs _ HX.out HY.out HS.out).mono ?_;rintro e w2 ⟨rfl,hb2⟩;clear hAc0 hAf0 hAc1 hAf1;clear hBc0 hBf0 hBc1 hBf1;replace hA:=hA.after hb2;replace hC:=hC.after hb2;obtain ⟨hAc0,hAf0,hAc1,hAf1⟩:=hA.x2;go_wp2_with fail
 refine (made_c (sg x) (x.natAbs+y.natAbs) (x+y) _ (by omega) HM.out).mono ?_;rintro e w3 ⟨rfl,hb3⟩;clear hAc0 hAf0 hAc1 hAf1;replace hC:=hC.after hb3;obtain ⟨hCc0,hCf0,hCc1,hCf1⟩:=hC.x2;go_wp2;refine bodyPost_ret (v:=.tuple #[.agg #[.bool (sg (x+y)),.string (E (x+y).natAbs)],.int .i64 0]) ?_ rfl ⟨rfl,?_⟩
 ·simp [results,Tryz.results105,go_sem,hCc0,hCc1]
 ·exact ((bt (bt (bt (b3 _ _ _ _) hb1) hb2) hb3).setCell (by simp;omega) _).setCell (by simp;omega) _
theorem iadd_ge (hx:x.natAbs<256^128) (hy:y.natAbs<256^128) (hq:sg x≠sg y) (hg:y.natAbs≤x.natAbs) :
  Calls Tryz.prog 105 #[.agg #[.bool (sg (x)),.string (E (x).natAbs)],.agg #[.bool (sg (y)),.string (E (y).natAbs)]] w fun e w'=>e=.returned (.tuple #[.agg #[.bool (sg (x+y)),.string (E (x+y).natAbs)],.int .i64 0])∧Below w.heap.size w w':=by
 have HX:=Lib.hid hx;have HY:=Lib.hid hy;have HG:=Lib.hid hg;have HM:=Lib.hid (add_made_ge x y hq hg);have hs:(E (x.natAbs-y.natAbs)).size≤128:=sz _ (by omega);have hqb:(sg x==sg y)=false:=by rw [beq_eq_false_iff_ne];exact hq
 have hc:=cmp_nneg x.natAbs y.natAbs hg;clear hx hy hq hg;have hA:=blk3a w #[Value.bool (sg x),Value.string (E x.natAbs)] #[Value.bool (sg y),Value.string (E y.natAbs)] #[Value.bool false,Value.string { data:=#[] }] 72 72 72;have hB:=blk3b w #[Value.bool (sg x),Value.string (E x.natAbs)] #[Value.bool (sg y),Value.string (E y.natAbs)] #[Value.bool false,Value.string { data:=#[] }] 72 72 72;have hC:=blk3c w #[Value.bool (sg x),Value.string (E x.natAbs)] #[Value.bool (sg y),Value.string (E y.natAbs)] #[Value.bool false,Value.string { data:=#[] }] 72 72 72;go_enter Tryz.func105,Tryz.ntmps105
 go_wp2_with fail
 refine (iboth_c x y _ HX.out HY.out).mono ?_;rintro e w1 ⟨rfl,hb1⟩;replace hA:=hA.after hb1;replace hB:=hB.after hb1;replace hC:=hC.after hb1;obtain ⟨hAc0,hAf0,hAc1,hAf1⟩:=hA.x2;obtain ⟨hBc0,hBf0,hBc1,hBf1⟩:=hB.x2;go_wp2_with fail
 refine (cmp_c x.natAbs y.natAbs _ HX.out HY.out).mono ?_;rintro e w' ⟨rfl,rfl⟩;go_wp2_with fail
 refine (sub_c x.natAbs y.natAbs _ HX.out HG.out).mono ?_;rintro e w2 ⟨rfl,hb2⟩;clear hAc0 hAf0 hAc1 hAf1;clear hBc0 hBf0 hBc1 hBf1;replace hA:=hA.after hb2;replace hC:=hC.after hb2;obtain ⟨hAc0,hAf0,hAc1,hAf1⟩:=hA.x2;go_wp2_with fail
 refine (made_c (sg x) (x.natAbs-y.natAbs) (x+y) _ (by omega) HM.out).mono ?_;rintro e w3 ⟨rfl,hb3⟩;clear hAc0 hAf0 hAc1 hAf1;replace hC:=hC.after hb3;obtain ⟨hCc0,hCf0,hCc1,hCf1⟩:=hC.x2;go_wp2;refine bodyPost_ret (v:=.tuple #[.agg #[.bool (sg (x+y)),.string (E (x+y).natAbs)],.int .i64 0]) ?_ rfl ⟨rfl,?_⟩
 ·simp [results,Tryz.results105,go_sem,hCc0,hCc1]
 ·exact ((bt (bt (bt (b3 _ _ _ _) hb1) hb2) hb3).setCell (by simp;omega) _).setCell (by simp;omega) _
theorem iadd_lt (hx:x.natAbs<256^128) (hy:y.natAbs<256^128) (hq:sg x≠sg y) (hg:x.natAbs<y.natAbs) :
  Calls Tryz.prog 105 #[.agg #[.bool (sg (x)),.string (E (x).natAbs)],.agg #[.bool (sg (y)),.string (E (y).natAbs)]] w fun e w'=>e=.returned (.tuple #[.agg #[.bool (sg (x+y)),.string (E (x+y).natAbs)],.int .i64 0])∧Below w.heap.size w w':=by
 have HX:=Lib.hid hx;have HY:=Lib.hid hy;have HG:=Lib.hid hg;have HM:=Lib.hid (add_made_lt x y hq hg);have hs:(E (y.natAbs-x.natAbs)).size≤128:=sz _ (by omega);have hqb:(sg x==sg y)=false:=by rw [beq_eq_false_iff_ne];exact hq
 have hc:=cmp_neg x.natAbs y.natAbs hg;clear hx hy hq hg;have hA:=blk3a w #[Value.bool (sg x),Value.string (E x.natAbs)] #[Value.bool (sg y),Value.string (E y.natAbs)] #[Value.bool false,Value.string { data:=#[] }] 72 72 72;have hB:=blk3b w #[Value.bool (sg x),Value.string (E x.natAbs)] #[Value.bool (sg y),Value.string (E y.natAbs)] #[Value.bool false,Value.string { data:=#[] }] 72 72 72;have hC:=blk3c w #[Value.bool (sg x),Value.string (E x.natAbs)] #[Value.bool (sg y),Value.string (E y.natAbs)] #[Value.bool false,Value.string { data:=#[] }] 72 72 72;go_enter Tryz.func105,Tryz.ntmps105
 go_wp2_with fail
 refine (iboth_c x y _ HX.out HY.out).mono ?_;rintro e w1 ⟨rfl,hb1⟩;replace hA:=hA.after hb1;replace hB:=hB.after hb1;replace hC:=hC.after hb1;obtain ⟨hAc0,hAf0,hAc1,hAf1⟩:=hA.x2;obtain ⟨hBc0,hBf0,hBc1,hBf1⟩:=hB.x2;go_wp2_with fail
 refine (cmp_c x.natAbs y.natAbs _ HX.out HY.out).mono ?_;rintro e w' ⟨rfl,rfl⟩;go_wp2_with fail
 refine (sub_c y.natAbs x.natAbs _ HY.out (Nat.le_of_lt HG.out)).mono ?_;rintro e w2 ⟨rfl,hb2⟩;have hbs:=(((bt (b3 _ _ _ _) hb1).setCell (p:=⟨w.heap.size,0,none⟩) (Nat.le_refl _) (Value.bool (sg y))).setCell (p:=⟨w.heap.size,1,none⟩) (Nat.le_refl _) (Value.string (E y.natAbs))).setCell (p:=⟨w.heap.size+1,0,none⟩) (by simp) (Value.bool (sg x)) |>.setCell (p:=⟨w.heap.size+1,1,none⟩) (by simp) (Value.string (E x.natAbs));clear hAc0 hAf0 hAc1 hAf1;clear hBc0 hBf0 hBc1 hBf1;replace hA:=(((hA.set 0 (Value.bool (sg y))).set 1 (Value.string (E y.natAbs))).other ⟨w.heap.size+1,0,none⟩ (Value.bool (sg x)) (by simp)).other ⟨w.heap.size+1,1,none⟩ (Value.string (E x.natAbs)) (by simp);replace hC:=(((hC.other ⟨w.heap.size,0,none⟩ (Value.bool (sg y)) (by simp)).other ⟨w.heap.size,1,none⟩ (Value.string (E y.natAbs)) (by simp)).other ⟨w.heap.size+1,0,none⟩ (Value.bool (sg x)) (by simp)).other ⟨w.heap.size+1,1,none⟩ (Value.string (E x.natAbs)) (by simp);replace hA:=hA.after hb2;replace hC:=hC.after hb2;obtain ⟨hAc0,hAf0,hAc1,hAf1⟩:=hA.x2;go_wp2_with fail
 refine (made_c (sg y) (y.natAbs-x.natAbs) (x+y) _ (by omega) HM.out).mono ?_;rintro e w3 ⟨rfl,hb3⟩;clear hAc0 hAf0 hAc1 hAf1;replace hC:=hC.after hb3;obtain ⟨hCc0,hCf0,hCc1,hCf1⟩:=hC.x2;go_wp2;refine bodyPost_ret (v:=.tuple #[.agg #[.bool (sg (x+y)),.string (E (x+y).natAbs)],.int .i64 0]) ?_ rfl ⟨rfl,?_⟩
 ·simp [results,Tryz.results105,go_sem,hCc0,hCc1]
 ·exact ((bt (bt hbs hb2) hb3).setCell (by simp;omega) _).setCell (by simp;omega) _
theorem iadd_c (hx:x.natAbs<256^128) (hy:y.natAbs<256^128) (hsum:(x+y).natAbs<256^128) :
  Calls Tryz.prog 105 #[.agg #[.bool (sg (x)),.string (E (x).natAbs)],.agg #[.bool (sg (y)),.string (E (y).natAbs)]] w fun e w'=>e=.returned (.tuple #[.agg #[.bool (sg (x+y)),.string (E (x+y).natAbs)],.int .i64 0])∧Below w.heap.size w w':=by
 by_cases hq:sg x=sg y
 ·exact iadd_same x y w hx hy hsum hq
 ·rcases Nat.lt_or_ge x.natAbs y.natAbs with h | h
  ·exact iadd_lt x y w hx hy hq h
  ·exact iadd_ge x y w hx hy hq h
end
end Go.Proofs.YtcfjcenmcpankaaGreatDoor
