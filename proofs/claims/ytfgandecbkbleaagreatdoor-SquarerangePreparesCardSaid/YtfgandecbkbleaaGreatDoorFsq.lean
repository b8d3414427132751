/- foursquares: the searches,as plain functions. -/
import Derived.Test.YtfgandecbkbleaaGreatDoorInt2
import Derived.Deep.RegionHeld3
set_option linter.unusedVariables false
set_option linter.unusedSimpArgs false
set_option maxRecDepth 100000
set_option maxHeartbeats 16000000
namespace Go.Proofs.YtfgandecbkbleaaGreatDoor
section
open Go.RowKit
theorem add_made_same (x y:Int) (h:sg x=sg y):x+y=if sg x then -((x.natAbs+y.natAbs:Nat):Int) else ((x.natAbs+y.natAbs:Nat):Int):=by
 unfold sg at *;by_cases h1:x<0
 ·rw [decide_eq_true h1] at h ⊢;have:=of_decide_eq_true h.symm;simp;omega
 ·rw [decide_eq_false h1] at h ⊢;have:=of_decide_eq_false h.symm;simp;omega
theorem same_abs (x y:Int) (h:sg x=sg y):(x+y).natAbs=x.natAbs+y.natAbs:=by
 unfold sg at h;by_cases h1:x<0
 ·rw [decide_eq_true h1] at h;have:=of_decide_eq_true h.symm;omega
 ·rw [decide_eq_false h1] at h;have:=of_decide_eq_false h.symm;omega
theorem add_made_ge (x y:Int) (h:sg x≠sg y) (hg:y.natAbs≤x.natAbs):x+y=if sg x then -((x.natAbs-y.natAbs:Nat):Int) else ((x.natAbs-y.natAbs:Nat):Int):=by
 unfold sg at *;by_cases h1:x<0
 ·rw [decide_eq_true h1] at h ⊢;have h2:¬ y<0:=by intro h2;rw [decide_eq_true h2] at h;exact h rfl
  simp;omega
 ·rw [decide_eq_false h1] at h ⊢
  have h2:y<0:=by
   rcases Int.lt_or_le y 0 with h3 | h3
   ·exact h3
   ·rw [decide_eq_false (show ¬ y<0 by omega)] at h;exact absurd rfl h
  simp;omega
theorem add_made_lt (x y:Int) (h:sg x≠sg y) (hg:x.natAbs<y.natAbs):x+y=if sg y then -((y.natAbs-x.natAbs:Nat):Int) else ((y.natAbs-x.natAbs:Nat):Int):=by
 rw [Int.add_comm];exact add_made_ge y x (Ne.symm h) (by omega)
section
variable (x y:Int) (w:World)
theorem iadd_same (hx:x.natAbs<256^128) (hy:y.natAbs<256^128) (hsum:(x+y).natAbs<256^128) (hq:sg x=sg y) :
  Calls Tryz.prog 93 #[.agg #[.bool (sg (x)),.string (E (x).natAbs)],.agg #[.bool (sg (y)),.string (E (y).natAbs)]] w fun e w'=>e=.returned (.tuple #[.agg #[.bool (sg (x+y)),.string (E (x+y).natAbs)],.int .i64 0])∧Below w.heap.size w w':=by
 have HX:=Lib.hid hx;have HY:=Lib.hid hy;have HM:=Lib.hid (add_made_same x y hq)
 have HS:Hid (x.natAbs+y.natAbs<256^128):=by
  rw [same_abs x y hq] at hsum;exact hsum
 have hs:=sz _ HS.out;have hqb:(sg x==sg y)=true:=by rw [hq];simp
 clear hx hy hsum hq;have hA:=blk3a w #[Value.bool (sg x),Value.string (E x.natAbs)] #[Value.bool (sg y),Value.string (E y.natAbs)] #[Value.bool false,Value.string { data:=#[] }] 28 28 28;have hB:=blk3b w #[Value.bool (sg x),Value.string (E x.natAbs)] #[Value.bool (sg y),Value.string (E y.natAbs)] #[Value.bool false,Value.string { data:=#[] }] 28 28 28;have hC:=blk3c w #[Value.bool (sg x),Value.string (E x.natAbs)] #[Value.bool (sg y),Value.string (E y.natAbs)] #[Value.bool false,Value.string { data:=#[] }] 28 28 28;go_enter Tryz.func93,Tryz.ntmps93
 go_wp2_with fail
 refine (iboth_c x y _ HX.out HY.out).mono ?_;rintro e w1 ⟨rfl,hb1⟩;replace hA:=hA.after hb1;replace hB:=hB.after hb1;replace hC:=hC.after hb1;obtain ⟨hAc0,hAf0,hAc1,hAf1⟩:=hA.x2;obtain ⟨hBc0,hBf0,hBc1,hBf1⟩:=hB.x2;go_wp2_with fail
 refine (add_c x.natAbs y.natAbs _ HX.out HY.out HS.out).mono ?_;rintro e w2 ⟨rfl,hb2⟩;clear hAc0 hAf0 hAc1 hAf1;clear hBc0 hBf0 hBc1 hBf1;replace hA:=hA.after hb2;replace hC:=hC.after hb2;obtain ⟨hAc0,hAf0,hAc1,hAf1⟩:=hA.x2;go_wp2_with fail
 refine (made_c (sg x) (x.natAbs+y.natAbs) (x+y) _ (by omega) HM.out).mono ?_;rintro e w3 ⟨rfl,hb3⟩;clear hAc0 hAf0 hAc1 hAf1;replace hC:=hC.after hb3;obtain ⟨hCc0,hCf0,hCc1,hCf1⟩:=hC.x2;go_wp2;refine bodyPost_ret (v:=.tuple #[.agg #[.bool (sg (x+y)),.string (E (x+y).natAbs)],.int .i64 0]) ?_ rfl ⟨rfl,?_⟩
 ·simp [results,Tryz.results93,go_sem,hCc0,hCc1]
 ·exact ((bt (bt (bt (b3 _ _ _ _) hb1) hb2) hb3).setCell (by simp;omega) _).setCell (by simp;omega) _
theorem iadd_ge (hx:x.natAbs<256^128) (hy:y.natAbs<256^128) (hq:sg x≠sg y) (hg:y.natAbs≤x.natAbs) :
  Calls Tryz.prog 93 #[.agg #[.bool (sg (x)),.string (E (x).natAbs)],.agg #[.bool (sg (y)),.string (E (y).natAbs)]] w fun e w'=>e=.returned (.tuple #[.agg #[.bool (sg (x+y)),.string (E (x+y).natAbs)],.int .i64 0])∧Below w.heap.size w w':=by
 have HX:=Lib.hid hx;have HY:=Lib.hid hy;have HG:=Lib.hid hg;have HM:=Lib.hid (add_made_ge x y hq hg);have hs:(E (x.natAbs-y.natAbs)).size≤128:=sz _ (by omega);have hqb:(sg x==sg y)=false:=by rw [beq_eq_false_iff_ne];exact hq
 have hc:=cmp_nneg x.natAbs y.natAbs hg;clear hx hy hq hg;have hA:=blk3a w #[Value.bool (sg x),Value.string (E x.natAbs)] #[Value.bool (sg y),Value.string (E y.natAbs)] #[Value.bool false,Value.string { data:=#[] }] 28 28 28;have hB:=blk3b w #[Value.bool (sg x),Value.string (E x.natAbs)] #[Value.bool (sg y),Value.string (E y.natAbs)] #[Value.bool false,Value.string { data:=#[] }] 28 28 28;have hC:=blk3c w #[Value.bool (sg x),Value.string (E x.natAbs)] #[Value.bool (sg y),Value.string (E y.natAbs)] #[Value.bool false,Value.string { data:=#[] }] 28 28 28;go_enter Tryz.func93,Tryz.ntmps93
 go_wp2_with fail
 refine (iboth_c x y _ HX.out HY.out).mono ?_;rintro e w1 ⟨rfl,hb1⟩;replace hA:=hA.after hb1;replace hB:=hB.after hb1;replace hC:=hC.after hb1;obtain ⟨hAc0,hAf0,hAc1,hAf1⟩:=hA.x2;obtain ⟨hBc0,hBf0,hBc1,hBf1⟩:=hB.x2;go_wp2_with fail
 refine (cmp_c x.natAbs y.natAbs _ HX.out HY.out).mono ?_;rintro e w' ⟨rfl,rfl⟩;go_wp2_with fail
 refine (sub_c x.natAbs y.natAbs _ HX.out HG.out).mono ?_;rintro e w2 ⟨rfl,hb2⟩;clear hAc0 hAf0 hAc1 hAf1;clear hBc0 hBf0 hBc1 hBf1;replace hA:=hA.after hb2;replace hC:=hC.after hb2;obtain ⟨hAc0,hAf0,hAc1,hAf1⟩:=hA.x2;go_wp2_with fail
 refine (made_c (sg x) (x.natAbs-y.natAbs) (x+y) _ (by omega) HM.out).mono ?_;rintro e w3 ⟨rfl,hb3⟩;clear hAc0 hAf0 hAc1 hAf1;replace hC:=hC.after hb3;obtain ⟨hCc0,hCf0,hCc1,hCf1⟩:=hC.x2;go_wp2;refine bodyPost_ret (v:=.tuple #[.agg #[.bool (sg (x+y)),.string (E (x+y).natAbs)],.int .i64 0]) ?_ rfl ⟨rfl,?_⟩
 ·simp [results,Tryz.results93,go_sem,hCc0,hCc1]
 ·exact ((bt (bt (bt (b3 _ _ _ _) hb1) hb2) hb3).setCell (by simp;omega) _).setCell (by simp;omega) _
theorem iadd_lt (hx:x.natAbs<256^128) (hy:y.natAbs<256^128) (hq:sg x≠sg y) (hg:x.natAbs<y.natAbs) :
  Calls Tryz.prog 93 #[.agg #[.bool (sg (x)),.string (E (x).natAbs)],.agg #[.bool (sg (y)),.string (E (y).natAbs)]] w fun e w'=>e=.returned (.tuple #[.agg #[.bool (sg (x+y)),.string (E (x+y).natAbs)],.int .i64 0])∧Below w.heap.size w w':=by
 have HX:=Lib.hid hx;have HY:=Lib.hid hy;have HG:=Lib.hid hg;have HM:=Lib.hid (add_made_lt x y hq hg);have hs:(E (y.natAbs-x.natAbs)).size≤128:=sz _ (by omega);have hqb:(sg x==sg y)=false:=by rw [beq_eq_false_iff_ne];exact hq
 have hc:=cmp_neg x.natAbs y.natAbs hg;clear hx hy hq hg;have hA:=blk3a w #[Value.bool (sg x),Value.string (E x.natAbs)] #[Value.bool (sg y),Value.string (E y.natAbs)] #[Value.bool false,Value.string { data:=#[] }] 28 28 28;have hB:=blk3b w #[Value.bool (sg x),Value.string (E x.natAbs)] #[Value.bool (sg y),Value.string (E y.natAbs)] #[Value.bool false,Value.string { data:=#[] }] 28 28 28;have hC:=blk3c w #[Value.bool (sg x),Value.string (E x.natAbs)] #[Value.bool (sg y),Value.string (E y.natAbs)] #[Value.bool false,Value.string { data:=#[] }] 28 28 28;go_enter Tryz.func93,Tryz.ntmps93
 go_wp2_with fail
 refine (iboth_c x y _ HX.out HY.out).mono ?_;rintro e w1 ⟨rfl,hb1⟩;replace hA:=hA.after hb1;replace hB:=hB.after hb1;replace hC:=hC.after hb1;obtain ⟨hAc0,hAf0,hAc1,hAf1⟩:=hA.x2;obtain ⟨hBc0,hBf0,hBc1,hBf1⟩:=hB.x2;go_wp2_with fail
 refine (cmp_c x.natAbs y.natAbs _ HX.out HY.out).mono ?_;rintro e w' ⟨rfl,rfl⟩;go_wp2_with fail
 refine (sub_c y.natAbs x.natAbs _ HY.out (Nat.le_of_lt HG.out)).mono ?_;rintro e w2 ⟨rfl,hb2⟩;have hbs:=(((bt (b3 _ _ _ _) hb1).setCell (p:=⟨w.heap.size,0,none⟩) (Nat.le_refl _) (Value.bool (sg y))).setCell (p:=⟨w.heap.size,1,none⟩) (Nat.le_refl _) (Value.string (E y.natAbs))).setCell (p:=⟨w.heap.size+1,0,none⟩) (by simp) (Value.bool (sg x)) |>.setCell (p:=⟨w.heap.size+1,1,none⟩) (by simp) (Value.string (E x.natAbs));clear hAc0 hAf0 hAc1 hAf1;clear hBc0 hBf0 hBc1 hBf1;replace hA:=(((hA.set 0 (Value.bool (sg y))).set 1 (Value.string (E y.natAbs))).other ⟨w.heap.size+1,0,none⟩ (Value.bool (sg x)) (by simp)).other ⟨w.heap.size+1,1,none⟩ (Value.string (E x.natAbs)) (by simp);replace hC:=(((hC.other ⟨w.heap.size,0,none⟩ (Value.bool (sg y)) (by simp)).other ⟨w.heap.size,1,none⟩ (Value.string (E y.natAbs)) (by simp)).other ⟨w.heap.size+1,0,none⟩ (Value.bool (sg x)) (by simp)).other ⟨w.heap.size+1,1,none⟩ (Value.string (E x.natAbs)) (by simp);replace hA:=hA.after hb2;replace hC:=hC.after hb2;obtain ⟨hAc0,hAf0,hAc1,hAf1⟩:=hA.x2;go_wp2_with fail
 refine (made_c (sg y) (y.natAbs-x.natAbs) (x+y) _ (by omega) HM.out).mono ?_;rintro e w3 ⟨rfl,hb3⟩;clear hAc0 hAf0 hAc1 hAf1;replace hC:=hC.after hb3;obtain ⟨hCc0,hCf0,hCc1,hCf1⟩:=hC.x2;go_wp2;refine bodyPost_ret (v:=.tuple #[.agg #[.bool (sg (x+y)),.string (E (x+y).natAbs)],.int .i64 0]) ?_ rfl ⟨rfl,?_⟩
 ·simp [results,Tryz.results93,go_sem,hCc0,hCc1]
 ·exact ((bt (bt hbs hb2) hb3).setCell (by simp;omega) _).setCell (by simp;omega) _
theorem iadd_c (hx:x.natAbs<256^128) (hy:y.natAbs<256^128) (hsum:(x+y).natAbs<256^128) :
  Calls Tryz.prog 93 #[.agg #[.bool (sg (x)),.string (E (x).natAbs)],.agg #[.bool (sg (y)),.string (E (y).natAbs)]] w fun e w'=>e=.returned (.tuple #[.agg #[.bool (sg (x+y)),.string (E (x+y).natAbs)],.int .i64 0])∧Below w.heap.size w w':=by
 by_cases hq:sg x=sg y
 ·exact iadd_same x y w hx hy hsum hq
 ·rcases Nat.lt_or_ge x.natAbs y.natAbs with h | h
  ·exact iadd_lt x y w hx hy hq h
  ·exact iadd_ge x y w hx hy hq h
end
end
section
open Go.RowKit
theorem Blk.drew {w:World} {g:Nat} {T:TypeId} {cs:List Value} (h:Blk w g T cs):Blk w.drew g T cs:=h
theorem Blk.drewN {w:World} {g:Nat} {T:TypeId} {cs:List Value} (h:Blk w g T cs) (n:Nat):Blk (w.drewN n) g T cs:=h
section
variable (x y:Int) (w:World)
theorem inegS_c (z:Int) (w:World) (hz:z.natAbs<256^128) :
  Calls Tryz.prog 61 #[.agg #[.bool (sg (z)),.string (E (z).natAbs)]] w fun e w'=>e=.returned (.agg #[.bool (sg (-z)),.string (E z.natAbs)])∧Below w.heap.size w w':=by
 have:=ineg_c z w hz;rwa [Int.natAbs_neg] at this
theorem iaddN_c (hx:x.natAbs<256^128) (hy:y.natAbs<256^128) (hd:(x-y).natAbs<256^128) :
  Calls Tryz.prog 93 #[.agg #[.bool (sg (x)),.string (E (x).natAbs)],.agg #[.bool (sg (-y)),.string (E y.natAbs)]] w fun e w'=>e=.returned (.tuple #[.agg #[.bool (sg (x-y)),.string (E (x-y).natAbs)],.int .i64 0])∧Below w.heap.size w w':=by
 have:=iadd_c x (-y) w hx (by rw [Int.natAbs_neg];exact hy) (by rw [←Int.sub_eq_add_neg];exact hd);rwa [Int.natAbs_neg,←Int.sub_eq_add_neg] at this
theorem isub_c (hx:x.natAbs<256^128) (hy:y.natAbs<256^128) (hd:(x-y).natAbs<256^128) :
  Calls Tryz.prog 42 #[.agg #[.bool (sg (x)),.string (E (x).natAbs)],.agg #[.bool (sg (y)),.string (E (y).natAbs)]] w fun e w'=>e=.returned (.tuple #[.agg #[.bool (sg (x-y)),.string (E (x-y).natAbs)],.int .i64 0])∧Below w.heap.size w w':=by
 have HX:=Lib.hid hx;have HY:=Lib.hid hy;have HY2:Hid ((-y).natAbs<256^128):=by unfold Hid;rw [Int.natAbs_neg];exact hy
 have HD:=Lib.hid hd;clear hx hy hd;have hA:=blk3a w #[Value.bool (sg x),Value.string (E x.natAbs)] #[Value.bool (sg y),Value.string (E y.natAbs)] #[Value.bool false,Value.string { data:=#[] }] 28 28 28;have hB:=blk3b w #[Value.bool (sg x),Value.string (E x.natAbs)] #[Value.bool (sg y),Value.string (E y.natAbs)] #[Value.bool false,Value.string { data:=#[] }] 28 28 28;have hC:=blk3c w #[Value.bool (sg x),Value.string (E x.natAbs)] #[Value.bool (sg y),Value.string (E y.natAbs)] #[Value.bool false,Value.string { data:=#[] }] 28 28 28;go_enter Tryz.func42,Tryz.ntmps42
 go_wp2_with fail
 refine (iboth_c x y _ HX.out HY.out).mono ?_;rintro e w1 ⟨rfl,hb1⟩;replace hA:=hA.after hb1;replace hB:=hB.after hb1;replace hC:=hC.after hb1;obtain ⟨hAc0,hAf0,hAc1,hAf1⟩:=hA.x2;obtain ⟨hBc0,hBf0,hBc1,hBf1⟩:=hB.x2;obtain ⟨hCc0,hCf0,hCc1,hCf1⟩:=hC.x2;go_wp2_with fail
 go_region_with (first | (go_at_call 61;refine (inegS_c y _ HY.out).mono ?_;rintro e w2 ⟨rfl,hb2⟩;have hA2:=hA.drew.after hb2;have hC2:=hC.drew.after hb2;have c0:=hA2.cell 0;have c1:=hA2.cell 1) | (go_at_call 93;refine (iaddN_c x y _ HX.out HY.out HD.out).mono ?_;rintro e w3 ⟨rfl,hb3⟩;have hC3:=hC2.after hb3;have d0:=hC3.cell 0;have d1:=hC3.cell 1;have g0:=hC3.free 0;have g1:=hC3.free 1))
 all_goals go_wp2
 all_goals
  refine bodyPost_ret (v:=.tuple #[.agg #[.bool (sg (x-y)),.string (E (x-y).natAbs)],.int .i64 0]) ?_ rfl ⟨rfl,?_⟩
  ·simp [results,Tryz.results42,go_sem,d0,d1]
  ·exact ((bt (bt (bt (b3 _ _ _ _) hb1).drew hb2) hb3).setCell (by simp;omega) _).setCell (by simp;omega) _
end
theorem emod_neg (z:Int) (m:Nat) (h:z<0) (hr:z.natAbs%m≠0) (hm:0<m):(z%(m:Int)).toNat=m-z.natAbs%m:=by
 have e:z=-(z.natAbs:Int):=by omega
 have h1:(z.natAbs%m:Nat)<m:=Nat.mod_lt _ hm
 have h2:(z.natAbs:Int)=(m:Int)*(z.natAbs / m:Nat)+(z.natAbs%m:Nat):=by
  have:=Nat.div_add_mod z.natAbs m;omega
 have h3:z=((m-z.natAbs%m:Nat):Int)+(m:Int)*(-(z.natAbs / m:Nat)-1):=by
  rw [Int.mul_sub,Int.mul_neg,Int.mul_one];omega
 have h4:z%(m:Int)=((m-z.natAbs%m:Nat):Int):=by
  conv=>lhs;rw [h3]
  rw [Int.add_mul_emod_self_left,Int.emod_eq_of_lt (by omega) (by omega)]
 rw [h4];omega
theorem emod_neg0 (z:Int) (m:Nat) (h:z<0) (hr:z.natAbs%m=0):(z%(m:Int)).toNat=0:=by
 have h1:(m:Int)∣z:=by
  rw [Int.ofNat_dvd_left];exact Nat.dvd_of_mod_eq_zero hr
 rw [Int.emod_eq_zero_of_dvd h1];rfl
theorem emod_pos (z:Int) (m:Nat) (h:0≤z):(z%(m:Int)).toNat=z.natAbs%m:=by
 have e:z=(z.natAbs:Int):=by omega
 conv=>lhs;rw [e]
 rw [←Int.natCast_emod];omega
theorem ivalidT_c (b:Bool) (n:Nat) (w:World) (hn:n<256^128) (h:ivB b (E n)=true) :
  Calls Tryz.prog 87 #[.agg #[.bool b,.string (E n)]] w fun e w'=>e=.returned (.bool true)∧Below w.heap.size w w':=by
 have:=ivalid_c b (E n) w (by have:=sz n hn;omega);rw [h] at this;exact this
theorem emod_if (z:Int) (m:Nat) (hm:0<m):(z%(m:Int)).toNat=if sg z=true∧z.natAbs%m≠0 then m-z.natAbs%m else z.natAbs%m:=by
 by_cases h:z<0
 ·rw [sg_of_neg h];by_cases hr:z.natAbs%m=0
  ·rw [emod_neg0 z m h hr,if_neg (fun h=>h.2 hr),hr]
  ·rw [emod_neg z m h hr hm,if_pos ⟨rfl,hr⟩]
 ·rw [sg_of_nonneg (by omega),emod_pos z m (by omega),if_neg (fun h=>Bool.noConfusion h.1)]
end
section
open Go.RowKit Go.Shelf
def rt:Nat→Nat
 | 0=>0
 | n+1=>if (rt n+1)*(rt n+1)≤n+1 then rt n+1 else rt n
theorem rt_spec (n:Nat):rt n*rt n≤n∧n<(rt n+1)*(rt n+1):=by
 induction n with
 | zero=>exact ⟨Nat.le_refl _,Nat.one_pos⟩
 | succ n ih =>
  unfold rt;split
  ·rename_i h;refine ⟨h,?_⟩
   have h2:(rt n+1+1)*(rt n+1+1)=(rt n+1)*(rt n+1)+2*(rt n+1)+1:=by
    simp only [Nat.add_mul,Nat.mul_add,Nat.mul_one,Nat.one_mul];omega
   omega
  ·omega
theorem rt_uniq {n r:Nat} (h1:r*r≤n) (h2:n<(r+1)*(r+1)):r=rt n:=by
 obtain ⟨h3,h4⟩:=rt_spec n;rcases Nat.lt_trichotomy r (rt n) with h | h | h
 ·have:=Nat.mul_le_mul (show r+1≤rt n by omega) (show r+1≤rt n by omega);omega
 ·exact h
 ·have:=Nat.mul_le_mul (show rt n+1≤r by omega) (show rt n+1≤r by omega);omega
theorem rt_lt {n k:Nat} (h:n<k*k):rt n<k:=by
 apply Classical.byContradiction
 intro h1;have h2:=Nat.mul_le_mul (show k≤rt n by omega) (show k≤rt n by omega);have:=(rt_spec n).1;omega
def twoF (n:Nat):Nat→Option (Nat × Nat)
 | 0=>if 0<n then none else some (0,0)
 | x+1=>if 2*(x+1)*(x+1)<n then none else if rt (n-(x+1)*(x+1))*rt (n-(x+1)*(x+1))=n-(x+1)*(x+1)∧rt (n-(x+1)*(x+1))≤x+1 then some (x+1,rt (n-(x+1)*(x+1))) else twoF n x
def threeF (n:Nat):Nat→Option (Nat × Nat × Nat)
 | 0=>if 0<n then none else some (0,0,0)
 | x+1=>if 3*(x+1)*(x+1)<n then none else match twoF (n-(x+1)*(x+1)) (min (rt (n-(x+1)*(x+1))) (x+1)) with
  | some (y,z)=>some (x+1,y,z)
  | none=>threeF n x
def sevF:Nat→Nat→Bool
 | 0,n=>n%8==7
 | k+1,n=>if 0<n∧n%4=0 then sevF k (n / 4) else n%8==7
theorem fsroot_c (n:Nat) (w:World) (hn:n<4294967296) :
  Calls Tryz.prog 96 #[.int .u64 (n:Int)] w fun e w'=>e=.returned (.int .u64 (rt n:Nat))∧w=w':=by
 have HN:=Lib.hid hn;clear hn;go_enter Tryz.func96,Tryz.ntmps96
 go_wp2;go_loop [3,4] (fun x b=>∃(r p c:Nat),x=.int .u64 r∧b=.int .u64 c∧c=p / 2∧1≤p∧r+p≤131072∧Hid (r*r≤n∧n<(r+p)*(r+p))∧(p=1∨p%2=0)∧Hid (∃j,p=2^j)) (fun _ b=>(intOf b).toNat)
 case atStart=>exact ⟨0,131072,65536,rfl,rfl,rfl,by omega,by omega,⟨by omega,by have:=HN.out;omega⟩,by omega,⟨17,rfl⟩⟩
 case round =>
  obtain ⟨r,p,b,rfl,rfl,hb,hp1,hrp,HR,hp2,HJ⟩:=hrel;by_cases h1:p=1
  ·have HE:Hid (r=rt n):=rt_uniq HR.out.1 (by rw [←h1];exact HR.out.2);have hb0:¬ 0<b:=by omega
   have hb1:¬ (0:Int)<(b:Int):=by omega
   clear hb h1 hp2 HJ HR hrp hp1;obtain ⟨q,hq⟩:∃q,q=rt n:=⟨_,rfl⟩;rw [←hq] at HE;have HQ:=Lib.hid hq;obtain rfl:r=q:=HE.out;clear hq HE;go_wp2;go_ret
   exact ⟨by rw [←HQ.out];rfl,rfl⟩
  ·have hpb:p=2*b:=by omega
   have hb0:0<b:=by omega
   have HJ2:Hid (∃j,b=2^j):=by
    obtain ⟨j,hj⟩:=HJ.out;cases j with
    | zero=>exact absurd hj h1
    | succ j=>exact ⟨j,by rw [Nat.pow_succ] at hj;omega⟩
   have hb2:b=1∨b%2=0:=by
    obtain ⟨j,hj⟩:=HJ2.out;cases j with
    | zero=>left;simpa using hj
    | succ j=>right;rw [Nat.pow_succ] at hj;omega
   clear hb h1 hp2 HJ;subst hpb;obtain ⟨y,hy⟩:∃y,y=r+b:=⟨_,rfl⟩;have hy2:y≤131072:=by omega
   obtain ⟨z,hz⟩:∃z,z=y*y:=⟨_,rfl⟩;have hz2:z≤131072*131072:=by rw [hz];exact Nat.mul_le_mul hy2 hy2
   have c1:IntKind.u64.wrap ((r:Int)+(b:Int))=(y:Int):=by rw [IntKind.wrap_u64];omega
   have c2:IntKind.u64.wrap ((y:Int)*(y:Int))=(z:Int):=by rw [show (y:Int)*(y:Int)=(z:Int) by rw [hz];exact (Int.natCast_mul y y).symm,IntKind.wrap_u64];omega
   have c3:IntKind.u64.wrap ((b:Int).tdiv 2)=((b / 2:Nat):Int):=by rw [Int.tdiv_eq_ediv_of_nonneg (by omega),IntKind.wrap_u64];omega
   have HYY:=Lib.hid hy;have HZZ:=Lib.hid hz;clear hy hz;by_cases h2:z≤n
   ·have HX:Hid (y*y≤n∧n<(y+b)*(y+b)):=⟨by rw [←HZZ.out];exact h2,by have:=HR.out.2;rwa [show r+2*b=y+b by have:=HYY.out;omega] at this⟩;go_wp2;go_round
    case rel=>exact ⟨y,b,b / 2,rfl,rfl,rfl,by omega,by have:=HYY.out;omega,HX,hb2,HJ2⟩
    case measure=>simp [intOf];omega
   ·have HX:Hid (r*r≤n∧n<(r+b)*(r+b)):=⟨HR.out.1,by rw [←HYY.out,←HZZ.out];omega⟩;go_wp2;go_round
    case rel=>exact ⟨r,b,b / 2,rfl,rfl,rfl,by omega,by omega,HX,hb2,HJ2⟩
    case measure=>simp [intOf];omega
def oneB (n most:Nat):Bool:=decide (rt n*rt n=n)&&decide (rt n≤most)
theorem fsone_c (n most:Nat) (w:World) (hn:n<4294967296) :
  Calls Tryz.prog 164 #[.int .u64 (n:Int),.int .u64 (most:Int)] w fun e w'=>e=.returned (.tuple #[.int .u64 (rt n:Nat),.bool (oneB n most)])∧w=w':=by
 have h1:=fsroot_c n w hn;have h2:=rt_lt (k:=65536) (show n<65536*65536 by omega);have HB:Hid (oneB n most=(decide (rt n*rt n=n)&&decide (rt n≤most))):=rfl;generalize rt n=r at h1 h2 HB ⊢;generalize oneB n most=bo at HB ⊢;have HR:=Lib.hid h1;obtain ⟨z,hz⟩:∃z,z=r*r:=⟨_,rfl⟩;rw [←hz] at HB;have hz2:z≤65536*65536:=by rw [hz];exact Nat.mul_le_mul (by omega) (by omega)
 have c2:IntKind.u64.wrap ((r:Int)*(r:Int))=(z:Int):=by rw [show (r:Int)*(r:Int)=(z:Int) by rw [hz];exact (Int.natCast_mul r r).symm,IntKind.wrap_u64];omega
 clear h1 hz hz2;go_enter Tryz.func164,Tryz.ntmps164
 go_wp2_with fail
 refine HR.out.mono ?_;rintro e w' ⟨rfl,rfl⟩;by_cases h3:z=n
 ·have e1:((z:Int)==(n:Int))=true:=by rw [h3];simp
  by_cases h4:r≤most
  ·have HX:Hid (bo=true):=by rw [Hid,HB.out,decide_eq_true h3,decide_eq_true h4];rfl
   clear HB;go_wp2;go_ret2
   exact ⟨r2 rfl (congrArg Value.bool HX.out.symm),rfl⟩
  ·have HX:Hid (bo=false):=by rw [Hid,HB.out,decide_eq_true h3,decide_eq_false h4];rfl
   clear HB;go_wp2;go_ret2
   exact ⟨r2 rfl (congrArg Value.bool HX.out.symm),rfl⟩
 ·have e1:((z:Int)==(n:Int))=false:=by rw [beq_eq_false_iff_ne];omega
  have HX:Hid (bo=false):=by rw [Hid,HB.out,decide_eq_false h3];rfl
  clear HB;go_wp2;go_ret2
  exact ⟨r2 rfl (congrArg Value.bool HX.out.symm),rfl⟩
theorem sev_eq (m:Nat):((m:Int)%8==7)=(m%8==7):=by
 rw [Bool.eq_iff_iff];simp only [beq_iff_eq];omega
theorem sev_stop {k m:Nat} (h:¬ (0<m∧m%4=0)):sevF k m=(m%8==7):=by
 cases k with
 | zero=>rfl
 | succ k=>rw [sevF,if_neg h]
theorem fsseven_c (n:Nat) (w:World) (hn:n<4294967296) :
  Calls Tryz.prog 97 #[.int .u64 (n:Int)] w fun e w'=>e=.returned (.bool (sevF 16 n))∧w=w':=by
 obtain ⟨b,hb⟩:∃b,b=sevF 16 n:=⟨_,rfl⟩;have HB:=Lib.hid hb;rw [←hb];clear hb;have HN:Hid (n<4^16):=hn;go_enter Tryz.func97,Tryz.ntmps97
 go_wp2;go_loop [0] (fun x=>∃(k m:Nat),x=.int .u64 m∧m<4294967296∧Hid (m<4^k)∧Hid (b=sevF k m)) (fun x=>(intOf x).toNat)
 case atStart=>exact ⟨16,n,rfl,hn,HN,HB⟩
 case round =>
  obtain ⟨k,m,rfl,hm,HK,HS⟩:=hrel;clear HB HN;have c1:IntKind.u64.wrap ((m:Int).tmod 4)=((m%4:Nat):Int):=by rw [Int.tmod_eq_emod_of_nonneg (by omega),IntKind.wrap_u64];omega
  have c2:IntKind.u64.wrap ((m:Int).tdiv 4)=((m / 4:Nat):Int):=by rw [Int.tdiv_eq_ediv_of_nonneg (by omega),IntKind.wrap_u64];omega
  have c3:IntKind.u64.wrap ((m:Int).tmod 8)=((m%8:Nat):Int):=by rw [Int.tmod_eq_emod_of_nonneg (by omega),IntKind.wrap_u64];omega
  by_cases h1:0<m∧m%4=0
  ·obtain ⟨h0,h4⟩:=h1
   have HX:Hid (∃j,m / 4<4^j∧b=sevF j (m / 4)):=by
    have hk:=HK.out;cases k with
    | zero=>omega
    | succ j=>exact ⟨j,by rw [Nat.pow_succ] at hk;omega,by rw [HS.out,sevF,if_pos ⟨h0,h4⟩]⟩
   obtain ⟨j,hj1,hj2⟩:=HX.out;have HJ1:=Lib.hid hj1;have HJ2:=Lib.hid hj2;clear hj1 hj2 HX HK HS c3;have h5:(0:Int)<(m:Int):=by omega
   have h6:(((m%4:Nat):Int)==0)=true:=by rw [h4];rfl
   go_wp2;go_round
   case rel=>exact ⟨j,m / 4,rfl,by omega,HJ1,HJ2⟩
   case measure=>simp [intOf];omega
  ·have HX:Hid (b=(m%8==7)):=HS.out.trans (sev_stop h1);clear HS HK;by_cases h0:0<m
   ·have h4:¬ m%4=0:=fun h=>h1 ⟨h0,h⟩
    clear h1;go_wp2;go_ret
    exact ⟨congrArg (fun b=>Ending.returned (Value.bool b)) ((sev_eq m).trans HX.out.symm),rfl⟩
   ·clear h1;go_wp2;go_ret
    exact ⟨congrArg (fun b=>Ending.returned (Value.bool b)) ((sev_eq m).trans HX.out.symm),rfl⟩
theorem two_step (n x:Nat):twoF n x=if 2*x*x<n then none else if oneB (n-x*x) x=true then some (x,rt (n-x*x)) else if x=0 then none else twoF n (x-1):=by
 unfold oneB;cases x with
 | zero =>
  rw [twoF];by_cases h:0<n
  ·rw [if_pos h,if_pos (by simpa using h)]
  ·have:n=0:=by omega
   subst this;rfl
 | succ x =>
  rw [twoF];simp only [Bool.and_eq_true,decide_eq_true_eq,Nat.add_sub_cancel,Nat.succ_ne_zero,if_false,Nat.add_eq_zero_iff,Nat.one_ne_zero,and_false]
def tw1:Option (Nat × Nat)→Nat | some (a,_)=>a | none=>0
def tw2:Option (Nat × Nat)→Nat | some (_,b)=>b | none=>0
theorem fstwo_c (n most:Nat) (w:World) (hn:n<4294967296) (hm:most<4294967296) :
  Calls Tryz.prog 135 #[.int .u64 (n:Int),.int .u64 (most:Int)] w fun e w'=>e=.returned (.tuple #[.agg #[.int .u64 (tw1 (twoF n (min (rt n) most)):Nat),.int .u64 (tw2 (twoF n (min (rt n) most)):Nat)],.bool (twoF n (min (rt n) most)).isSome])∧Below w.heap.size w w':=by
 have h1:=fsroot_c n w hn;have h2:=rt_lt (k:=65536) (show n<65536*65536 by omega);have h3:=(rt_spec n).1;obtain ⟨x0,hx0⟩:∃x,x=min (rt n) most:=⟨_,rfl⟩;have hx1:x0≤rt n:=by omega
 have hxx:x0*x0≤n:=Nat.le_trans (Nat.mul_le_mul hx1 hx1) h3;have hx2:x0<65536:=by omega
 obtain ⟨R,hR⟩:∃R,R=twoF n x0:=⟨_,rfl⟩;rw [←hx0,←hR];have HR:=Lib.hid hR;have HX:=Lib.hid hx0;have HXR:Hid (True):=trivial;have HXX:=Lib.hid hxx;obtain ⟨r,hr⟩:∃r,r=rt n:=⟨_,rfl⟩;rw [←hr] at HX;have HRR:=Lib.hid hr;have hrb:min (r:Int) (most:Int)=(x0:Int):=by have:=HX.out;omega
 have HRT:Hid (∀w,Calls Tryz.prog 96 #[.int .u64 (n:Int)] w fun e w'=>e=.returned (.int .u64 (r:Nat))∧w=w'):=fun w=>by rw [HRR.out];exact fsroot_c n w hn
 have hA:=Blk.new w #[.int .u64 0,.int .u64 0] 178;have hBW:=b1 w (.cells #[.int .u64 0,.int .u64 0] 178);clear h1 h2 h3 hx1 hxx hR hx0 hr HRR HXR;go_enter Tryz.func135,Tryz.ntmps135
 go_wp2_with fail
 refine (HRT.out _).mono ?_;rintro e w' ⟨rfl,rfl⟩;go_wp2;generalize w.alloc (.cells #[.int .u64 0,.int .u64 0] 178)=w1 at hA hBW ⊢;obtain ⟨g,hg⟩:∃g,w.heap.size=g:=⟨_,rfl⟩;rw [hg] at hA ⊢;have HG:=Lib.hid hg;clear hg;replace hA:Blk w1 g 178 [.int .u64 0,.int .u64 0]:=hA;have hAl:=hA.lt;go_loop [6] (fun v=>∃x:Nat,v=.int .u64 x∧x<65536∧Hid (x*x≤n)∧Hid (R=twoF n x)) (fun v=>(intOf v).toNat)
 case atStart=>exact ⟨x0,rfl,hx2,HXX,HR⟩
 case round =>
  clear HR HXX hrb HX hx2;obtain ⟨x,rfl,hx,HXX,HR⟩:=hrel;have HS:=Lib.hid (HR.out.trans (two_step n x));clear HR;obtain ⟨q,hq⟩:∃q,q=x*x:=⟨_,rfl⟩;have hq2:q≤65536*65536:=by rw [hq];exact Nat.mul_le_mul (by omega) (by omega)
  have hqn:q≤n:=by rw [hq];exact HXX.out
  have hz:2*x*x=2*q:=by rw [hq,Nat.mul_assoc]
  rw [hz,←hq] at HS;have c1:IntKind.u64.wrap (2*(x:Int))=2*(x:Int):=by rw [IntKind.wrap_u64];omega
  have c2:IntKind.u64.wrap (2*(x:Int)*(x:Int))=((2*q:Nat):Int):=by
   rw [show 2*(x:Int)*(x:Int)=((2*q:Nat):Int) by rw [←hz];simp only [Int.natCast_mul];rfl,IntKind.wrap_u64];omega
  have c3:IntKind.u64.wrap ((x:Int)*(x:Int))=(q:Int):=by rw [show (x:Int)*(x:Int)=(q:Int) by rw [hq];exact (Int.natCast_mul x x).symm,IntKind.wrap_u64];omega
  have c4:IntKind.u64.wrap ((n:Int)-(q:Int))=((n-q:Nat):Int):=by rw [IntKind.wrap_u64];omega
  have hN:=hn;clear hq hz;by_cases h1:2*q<n
  ·have HX:Hid (R=none):=HS.out.trans (if_pos h1);have h1':¬ n≤2*q:=by omega
   have h1i:¬ (n:Int)≤((2*q:Nat):Int):=by omega
   clear HS;obtain ⟨hAc0,hAf0,hAc1,hAf1⟩:=hA.x2;go_wp2;refine bodyPost_ret (v:=.tuple #[.agg #[.int .u64 0,.int .u64 0],.bool false]) ?_ rfl ?_
   ·simp [results,Tryz.results135,go_sem,hAc0,hAc1,hAl]
   ·rw [HX.out];exact ⟨rfl,(hBW.setCell (Nat.le_of_eq HG.out) _).setCell (Nat.le_of_eq HG.out) _⟩
  ·have h1':n≤2*q:=by omega
   replace HS:=Lib.hid (HS.out.trans (if_neg h1));obtain ⟨d,hd⟩:∃d,d=n-q:=⟨_,rfl⟩;rw [←hd] at HS c4;have hd2:d<4294967296:=by omega
   obtain ⟨bo,hbo⟩:∃b,b=oneB d x:=⟨_,rfl⟩;obtain ⟨r2,hr2⟩:∃r,r=rt d:=⟨_,rfl⟩;have HON:Hid (∀w,Calls Tryz.prog 164 #[.int .u64 (d:Int),.int .u64 (x:Int)] w fun e w'=>e=.returned (.tuple #[.int .u64 (r2:Nat),.bool bo])∧w=w'):=fun w=>by rw [hr2,hbo];exact fsone_c d x w hd2
   rw [←hbo,←hr2] at HS;clear h1 hd hbo hr2 hd2;go_wp2_with fail
   refine (HON.out _).mono ?_;rintro e w' ⟨rfl,rfl⟩;cases bo
   ·replace HS:=Lib.hid (HS.out.trans (if_neg (by decide)));by_cases hx0:x=0
    ·have HX:Hid (R=none):=HS.out.trans (if_pos hx0);have hxe:((x:Int)==0)=true:=by rw [hx0];rfl
     clear HS;obtain ⟨hAc0,hAf0,hAc1,hAf1⟩:=hA.x2;go_wp2;refine bodyPost_ret (v:=.tuple #[.agg #[.int .u64 0,.int .u64 0],.bool false]) ?_ rfl ?_
     ·simp [results,Tryz.results135,go_sem,hAc0,hAc1,hAl]
     ·rw [HX.out];exact ⟨rfl,(hBW.setCell (Nat.le_of_eq HG.out) _).setCell (Nat.le_of_eq HG.out) _⟩
    ·have HX:Hid (R=twoF n (x-1)):=HS.out.trans (if_neg hx0);have hxe:((x:Int)==0)=false:=by rw [beq_eq_false_iff_ne];omega
     have c5:IntKind.u64.wrap ((x:Int)-1)=((x-1:Nat):Int):=by rw [IntKind.wrap_u64];omega
     have HQ2:Hid ((x-1)*(x-1)≤n):=Nat.le_trans (Nat.mul_le_mul (show x-1≤x by omega) (show x-1≤x by omega)) HXX.out;clear HS HXX;go_wp2;go_round
     case rel=>exact ⟨x-1,rfl,by omega,HQ2,HX⟩
     case measure=>simp [intOf];omega
   ·have HX:Hid (R=some (x,r2)):=HS.out.trans (if_pos rfl);clear HS HXX;obtain ⟨hAc0,hAf0,hAc1,hAf1⟩:=hA.x2;go_wp2;refine bodyPost_ret (v:=.tuple #[.agg #[.int .u64 (x:Int),.int .u64 (r2:Int)],.bool true]) ?_ rfl ?_
    ·simp [results,Tryz.results135,go_sem,hAc0,hAc1,hAf0,hAf1,hAl]
    ·rw [HX.out];exact ⟨rfl,(hBW.setCell (Nat.le_of_eq HG.out) _).setCell (Nat.le_of_eq HG.out) _⟩
theorem three_step (n x:Nat):threeF n x=if 3*x*x<n then none else match twoF (n-x*x) (min (rt (n-x*x)) x) with
  | some (y,z)=>some (x,y,z)
  | none=>if x=0 then none else threeF n (x-1):=by
 cases x with
 | zero =>
  rw [threeF];by_cases h:0<n
  ·rw [if_pos h,if_pos (by simpa using h)]
  ·have:n=0:=by omega
   subst this;rfl
 | succ x =>
  rw [threeF];simp only [Nat.add_sub_cancel,Nat.succ_ne_zero,if_false,Nat.add_eq_zero_iff,Nat.one_ne_zero,and_false]
def th1:Option (Nat × Nat × Nat)→Nat | some (a,_,_)=>a | none=>0
def th2:Option (Nat × Nat × Nat)→Nat | some (_,b,_)=>b | none=>0
def th3:Option (Nat × Nat × Nat)→Nat | some (_,_,c)=>c | none=>0
def thM (x:Nat) (r:Option (Nat × Nat × Nat)):Option (Nat × Nat)→Option (Nat × Nat × Nat) | some (y,z)=>some (x,y,z) | none=>r
theorem fsthree_c (n most:Nat) (w:World) (hn:n<4294967296) (hm:most<4294967296) :
  Calls Tryz.prog 98 #[.int .u64 (n:Int),.int .u64 (most:Int)] w fun e w'=>e=.returned (.tuple #[.agg #[.int .u64 (th1 (threeF n (min (rt n) most)):Nat),.int .u64 (th2 (threeF n (min (rt n) most)):Nat),.int .u64 (th3 (threeF n (min (rt n) most)):Nat)],.bool (threeF n (min (rt n) most)).isSome])∧Below w.heap.size w w':=by
 have h1:=fsroot_c n w hn;have h2:=rt_lt (k:=65536) (show n<65536*65536 by omega);have h3:=(rt_spec n).1;obtain ⟨x0,hx0⟩:∃x,x=min (rt n) most:=⟨_,rfl⟩;have hx1:x0≤rt n:=by omega
 have hxx:x0*x0≤n:=Nat.le_trans (Nat.mul_le_mul hx1 hx1) h3;have hx2:x0<65536:=by omega
 obtain ⟨R,hR⟩:∃R,R=threeF n x0:=⟨_,rfl⟩;rw [←hx0,←hR];have HR:=Lib.hid hR;have HX:=Lib.hid hx0;have HXX:=Lib.hid hxx;obtain ⟨r,hr⟩:∃r,r=rt n:=⟨_,rfl⟩;rw [←hr] at HX;have HRR:=Lib.hid hr;have hrb:min (r:Int) (most:Int)=(x0:Int):=by have:=HX.out;omega
 have HRT:Hid (∀w,Calls Tryz.prog 96 #[.int .u64 (n:Int)] w fun e w'=>e=.returned (.int .u64 (r:Nat))∧w=w'):=fun w=>by rw [HRR.out];exact fsroot_c n w hn
 have hA:=Blk.new w #[.int .u64 0,.int .u64 0,.int .u64 0] 144;have hBW:=b1 w (.cells #[.int .u64 0,.int .u64 0,.int .u64 0] 144);clear h1 h2 h3 hx1 hxx hR hx0 hr HRR;go_enter Tryz.func98,Tryz.ntmps98
 go_wp2_with fail
 refine (HRT.out _).mono ?_;rintro e w' ⟨rfl,rfl⟩;go_wp2;generalize w.alloc (.cells #[.int .u64 0,.int .u64 0,.int .u64 0] 144)=w1 at hA hBW ⊢;obtain ⟨g,hg⟩:∃g,w.heap.size=g:=⟨_,rfl⟩;rw [hg] at hA ⊢;have HG:=Lib.hid hg;clear hg;replace hA:Blk w1 g 144 [.int .u64 0,.int .u64 0,.int .u64 0]:=hA;go_loopw [6] (fun v wr=>∃x:Nat,v=.int .u64 x∧x<65536∧Hid (x*x≤n)∧Hid (R=threeF n x)∧Below w1.heap.size w1 wr) (fun v _=>(intOf v).toNat)
 case atStart=>exact ⟨x0,rfl,hx2,HXX,HR,Below.refl _ _⟩
 case round =>
  clear HR HXX hrb HX hx2;obtain ⟨x,rfl,hx,HXX,HR,hbr⟩:=hrel;obtain ⟨wp,hwp⟩:∃wp,wp=wr:=⟨_,rfl⟩;subst hwp;have hAp:=hA.after hbr;have hbp:=bt hBW hbr;have hAl:=hAp.lt;obtain ⟨q,hq⟩:∃q,q=x*x:=⟨_,rfl⟩;have hq2:q≤65536*65536:=by rw [hq];exact Nat.mul_le_mul (by omega) (by omega)
  have hqn:q≤n:=by rw [hq];exact HXX.out
  have hz:3*x*x=3*q:=by rw [hq,Nat.mul_assoc]
  obtain ⟨d,hd⟩:∃d,d=n-q:=⟨_,rfl⟩;have hd2:d<4294967296:=by omega
  have HTW:=fstwo_c d x;obtain ⟨T2,hT2⟩:∃t,t=twoF d (min (rt d) x):=⟨_,rfl⟩
  have HS:Hid (R=if 3*q<n then none else thM x (if x=0 then none else threeF n (x-1)) T2):=by
   rw [Hid,HR.out,three_step n x,hz,←hq,←hd,←hT2];split <;> (cases T2 <;> rfl)
  rw [←hT2] at HTW;have HTT:Hid (∀w,Calls Tryz.prog 135 #[.int .u64 (d:Int),.int .u64 (x:Int)] w fun e w'=>e=.returned (.tuple #[.agg #[.int .u64 (tw1 T2:Nat),.int .u64 (tw2 T2:Nat)],.bool T2.isSome])∧Below w.heap.size w w'):=fun w=>HTW w hd2 (by omega)
  have c1:IntKind.u64.wrap (3*(x:Int))=3*(x:Int):=by rw [IntKind.wrap_u64];omega
  have c2:IntKind.u64.wrap (3*(x:Int)*(x:Int))=((3*q:Nat):Int):=by
   rw [show 3*(x:Int)*(x:Int)=((3*q:Nat):Int) by rw [←hz];simp only [Int.natCast_mul];rfl,IntKind.wrap_u64];omega
  have c3:IntKind.u64.wrap ((x:Int)*(x:Int))=(q:Int):=by rw [show (x:Int)*(x:Int)=(q:Int) by rw [hq];exact (Int.natCast_mul x x).symm,IntKind.wrap_u64];omega
  have c4:IntKind.u64.wrap ((n:Int)-(q:Int))=(d:Int):=by rw [IntKind.wrap_u64];omega
  clear hq hz hT2 HTW HR hd hd2;by_cases h1:3*q<n
  ·have HX:Hid (R=none):=HS.out.trans (if_pos h1);have h1':¬ n≤3*q:=by omega
   have h1i:¬ (n:Int)≤((3*q:Nat):Int):=by omega
   clear HS HTT;obtain ⟨hApc0,hApf0,hApc1,hApf1,hApc2,hApf2⟩:=hAp.x3;go_wp2;refine bodyPost_ret (v:=.tuple #[.agg #[.int .u64 0,.int .u64 0,.int .u64 0],.bool false]) ?_ rfl ?_
   ·simp [results,Tryz.results98,go_sem,hApc0,hApc1,hApc2,hAl]
   ·rw [HX.out];exact ⟨rfl,((hbp.setCell (Nat.le_of_eq HG.out) _).setCell (Nat.le_of_eq HG.out) _).setCell (Nat.le_of_eq HG.out) _⟩
  ·have h1':n≤3*q:=by omega
   replace HS:=Lib.hid (HS.out.trans (if_neg h1));clear h1;go_wp2_with fail
   refine (HTT.out _).mono ?_;rintro e w2 ⟨rfl,hb2⟩;clear HTT;cases T2 with
   | none =>
    replace HS:Hid (R=if x=0 then none else threeF n (x-1)):=HS;simp only [tw1,tw2,Option.isSome_none];have hA2:=hAp.after hb2;have hb3:=bt hbp hb2;by_cases hx0:x=0
    ·have HX:Hid (R=none):=HS.out.trans (if_pos hx0);have hxe:((x:Int)==0)=true:=by rw [hx0];rfl
     have hA3:=hA2.alloc (.cells #[.int .u64 0,.int .u64 0] 178);have hb4:=ba hb3 (.cells #[.int .u64 0,.int .u64 0] 178);have hA3l:=hA3.lt;clear HS;obtain ⟨hA3c0,hA3f0,hA3c1,hA3f1,hA3c2,hA3f2⟩:=hA3.x3;go_wp2;refine bodyPost_ret (v:=.tuple #[.agg #[.int .u64 0,.int .u64 0,.int .u64 0],.bool false]) ?_ rfl ?_
     ·simp [results,Tryz.results98,go_sem,hA3c0,hA3c1,hA3c2,hA3l]
     ·rw [HX.out];exact ⟨rfl,((hb4.setCell (Nat.le_of_eq HG.out) _).setCell (Nat.le_of_eq HG.out) _).setCell (Nat.le_of_eq HG.out) _⟩
    ·have HX:Hid (R=threeF n (x-1)):=HS.out.trans (if_neg hx0);have hxe:((x:Int)==0)=false:=by rw [beq_eq_false_iff_ne];omega
     have c5:IntKind.u64.wrap ((x:Int)-1)=((x-1:Nat):Int):=by rw [IntKind.wrap_u64];omega
     have HQ2:Hid ((x-1)*(x-1)≤n):=Nat.le_trans (Nat.mul_le_mul (show x-1≤x by omega) (show x-1≤x by omega)) HXX.out;have hbn:=ba (bt hbr hb2) (.cells #[.int .u64 0,.int .u64 0] 178);clear HS HXX;go_wp2;go_roundw
     case rel=>exact ⟨x-1,rfl,by omega,HQ2,HX,hbn⟩
     case measure=>simp [intOf];omega
   | some yz =>
    obtain ⟨y,z⟩:=yz;have HX:Hid (R=some (x,y,z)):=HS;clear HS;simp only [tw1,tw2,Option.isSome_some];have hA2:=(hAp.after hb2).alloc (.cells #[.int .u64 (y:Int),.int .u64 (z:Int)] 178);have hC2:=Blk.new w2 #[.int .u64 (y:Int),.int .u64 (z:Int)] 178;have hb3:=ba (bt hbp hb2) (.cells #[.int .u64 (y:Int),.int .u64 (z:Int)] 178);have hA2l:=hA2.lt;have hC2l:=hC2.lt;have hne:¬ w2.heap.size=g:=by have:=(hAp.after hb2).lt;omega
    obtain ⟨hA2c0,hA2f0,hA2c1,hA2f1,hA2c2,hA2f2⟩:=hA2.x3;obtain ⟨hC2c0,hC2f0,hC2c1,hC2f1⟩:=hC2.x2;go_wp2;refine bodyPost_ret (v:=.tuple #[.agg #[.int .u64 (x:Int),.int .u64 (y:Int),.int .u64 (z:Int)],.bool true]) ?_ rfl ?_
    ·simp [results,Tryz.results98,go_sem,hA2c0,hA2c1,hA2c2,hA2f0,hA2f1,hA2f2,hA2l]
    ·rw [HX.out];exact ⟨rfl,((hb3.setCell (Nat.le_of_eq HG.out) _).setCell (Nat.le_of_eq HG.out) _).setCell (Nat.le_of_eq HG.out) _⟩
end
end Go.Proofs.YtfgandecbkbleaaGreatDoor
