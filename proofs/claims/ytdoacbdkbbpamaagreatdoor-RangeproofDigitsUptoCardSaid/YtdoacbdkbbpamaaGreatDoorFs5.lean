/- The two Four at a number from 2^32 on. -/
import Derived.Test.YtdoacbdkbbpamaaGreatDoorInt2
import Derived.Deep.RegionHeld3
import Derived.Test.YtdoacbdkbbpamaaGreatDoorRef5
import Derived.Test.YtdoacbdkbbpamaaGreatDoorDivN
import Derived.WalkMore
import Derived.Deep.CutRange
set_option linter.unusedVariables false
set_option linter.unusedSimpArgs false
set_option maxRecDepth 100000
set_option maxHeartbeats 16000000
namespace Go.Proofs.YtdoacbdkbbpamaaGreatDoor
section
open Go.RowKit
theorem add_made_same (x y:Int) (h:sg x=sg y):x+y=if sg x then -((x.natAbs+y.natAbs:Nat):Int) else ((x.natAbs+y.natAbs:Nat):Int):=by
 unfold sg at *;by_cases h1:x<0
 ·rw [decide_eq_true h1] at h ⊢;have:=of_decide_eq_true h.symm;simp;omega
 ·rw [decide_eq_false h1] at h ⊢;have:=of_decide_eq_false h.symm;simp;omega
theorem same_abs (x y:Int) (h:sg x=sg y):(x+y).natAbs=x.natAbs+y.natAbs:=by
 unfold sg at h;by_cases h1:x<0
 ·rw [decide_eq_true h1] at h;have:=of_decide_eq_true h.symm;omega
 ·rw [decide_eq_false h1] at h;have:=of_decide_eq_false h.symm;omega
theorem add_made_ge (x y:Int) (h:sg x≠sg y) (hg:y.natAbs≤x.natAbs):x+y=if sg x then -((x.natAbs-y.natAbs:Nat):Int) else ((x.natAbs-y.natAbs:Nat):Int):=by
 unfold sg at *;by_cases h1:x<0
 ·rw [decide_eq_true h1] at h ⊢;have h2:¬ y<0:=by intro h2;rw [decide_eq_true h2] at h;exact h rfl
  simp;omega
 ·rw [decide_eq_false h1] at h ⊢
  have h2:y<0:=by
   rcases Int.lt_or_le y 0 with h3 | h3
   ·exact h3
   ·rw [decide_eq_false (show ¬ y<0 by omega)] at h;exact absurd rfl h
  simp;omega
theorem add_made_lt (x y:Int) (h:sg x≠sg y) (hg:x.natAbs<y.natAbs):x+y=if sg y then -((y.natAbs-x.natAbs:Nat):Int) else ((y.natAbs-x.natAbs:Nat):Int):=by
 rw [Int.add_comm];exact add_made_ge y x (Ne.symm h) (by omega)
section
variable (x y:Int) (w:World)
theorem iadd_same (hx:x.natAbs<256^128) (hy:y.natAbs<256^128) (hsum:(x+y).natAbs<256^128) (hq:sg x=sg y) :
  Calls Tryz.prog 162 #[.agg #[.bool (sg (x)),.string (E (x).natAbs)],.agg #[.bool (sg (y)),.string (E (y).natAbs)]] w fun e w'=>e=.returned (.tuple #[.agg #[.bool (sg (x+y)),.string (E (x+y).natAbs)],.int .i64 0])∧Below w.heap.size w w':=by
 have HX:=Lib.hid hx;have HY:=Lib.hid hy;have HM:=Lib.hid (add_made_same x y hq)
 have HS:Hid (x.natAbs+y.natAbs<256^128):=by
  rw [same_abs x y hq] at hsum;exact hsum
 have hs:=sz _ HS.out;have hqb:(sg x==sg y)=true:=by rw [hq];simp
 clear hx hy hsum hq;have hA:=blk3a w #[Value.bool (sg x),Value.string (E x.natAbs)] #[Value.bool (sg y),Value.string (E y.natAbs)] #[Value.bool false,Value.string { data:=#[] }] 37 37 37;have hB:=blk3b w #[Value.bool (sg x),Value.string (E x.natAbs)] #[Value.bool (sg y),Value.string (E y.natAbs)] #[Value.bool false,Value.string { data:=#[] }] 37 37 37;have hC:=blk3c w #[Value.bool (sg x),Value.string (E x.natAbs)] #[Value.bool (sg y),Value.string (E y.natAbs)] #[Value.bool false,Value.string { data:=#[] }] 37 37 37;go_enter Tryz.func162,Tryz.ntmps162
 go_wp2_with fail
 refine (iboth_c x y _ HX.out HY.out).mono ?_;rintro e w1 ⟨rfl,hb1⟩;replace hA:=hA.after hb1;replace hB:=hB.after hb1;replace hC:=hC.after hb1;obtain ⟨hAc0,hAf0,hAc1,hAf1⟩:=hA.x2;obtain ⟨hBc0,hBf0,hBc1,hBf1⟩:=hB.x2;go_wp2_with fail
 refine (add_c x.natAbs y.natAbs _ HX.out HY.out HS.out).mono ?_;rintro e w2 ⟨rfl,hb2⟩;clear hAc0 hAf0 hAc1 hAf1;clear hBc0 hBf0 hBc1 hBf1;replace hA:=hA.after hb2;replace hC:=hC.after hb2;obtain ⟨hAc0,hAf0,hAc1,hAf1⟩:=hA.x2;go_wp2_with fail
 refine (made_c (sg x) (x.natAbs+y.natAbs) (x+y) _ (by omega) HM.out).mono ?_;rintro e w3 ⟨rfl,hb3⟩;clear hAc0 hAf0 hAc1 hAf1;replace hC:=hC.after hb3;obtain ⟨hCc0,hCf0,hCc1,hCf1⟩:=hC.x2;go_wp2;refine bodyPost_ret (v:=.tuple #[.agg #[.bool (sg (x+y)),.string (E (x+y).natAbs)],.int .i64 0]) ?_ rfl ⟨rfl,?_⟩
 ·simp [results,Tryz.results162,go_sem,hCc0,hCc1]
 ·exact ((bt (bt (bt (b3 _ _ _ _) hb1) hb2) hb3).setCell (by simp;omega) _).setCell (by simp;omega) _
theorem iadd_ge (hx:x.natAbs<256^128) (hy:y.natAbs<256^128) (hq:sg x≠sg y) (hg:y.natAbs≤x.natAbs) :
  Calls Tryz.prog 162 #[.agg #[.bool (sg (x)),.string (E (x).natAbs)],.agg #[.bool (sg (y)),.string (E (y).natAbs)]] w fun e w'=>e=.returned (.tuple #[.agg #[.bool (sg (x+y)),.string (E (x+y).natAbs)],.int .i64 0])∧Below w.heap.size w w':=by
 have HX:=Lib.hid hx;have HY:=Lib.hid hy;have HG:=Lib.hid hg;have HM:=Lib.hid (add_made_ge x y hq hg);have hs:(E (x.natAbs-y.natAbs)).size≤128:=sz _ (by omega);have hqb:(sg x==sg y)=false:=by rw [beq_eq_false_iff_ne];exact hq
 have hc:=cmp_nneg x.natAbs y.natAbs hg;clear hx hy hq hg;have hA:=blk3a w #[Value.bool (sg x),Value.string (E x.natAbs)] #[Value.bool (sg y),Value.string (E y.natAbs)] #[Value.bool false,Value.string { data:=#[] }] 37 37 37;have hB:=blk3b w #[Value.bool (sg x),Value.string (E x.natAbs)] #[Value.bool (sg y),Value.string (E y.natAbs)] #[Value.bool false,Value.string { data:=#[] }] 37 37 37;have hC:=blk3c w #[Value.bool (sg x),Value.string (E x.natAbs)] #[Value.bool (sg y),Value.string (E y.natAbs)] #[Value.bool false,Value.string { data:=#[] }] 37 37 37;go_enter Tryz.func162,Tryz.ntmps162
 go_wp2_with fail
 refine (iboth_c x y _ HX.out HY.out).mono ?_;rintro e w1 ⟨rfl,hb1⟩;replace hA:=hA.after hb1;replace hB:=hB.after hb1;replace hC:=hC.after hb1;obtain ⟨hAc0,hAf0,hAc1,hAf1⟩:=hA.x2;obtain ⟨hBc0,hBf0,hBc1,hBf1⟩:=hB.x2;go_wp2_with fail
 refine (cmp_c x.natAbs y.natAbs _ HX.out HY.out).mono ?_;rintro e w' ⟨rfl,rfl⟩;go_wp2_with fail
 refine (sub_c x.natAbs y.natAbs _ HX.out HG.out).mono ?_;rintro e w2 ⟨rfl,hb2⟩;clear hAc0 hAf0 hAc1 hAf1;clear hBc0 hBf0 hBc1 hBf1;replace hA:=hA.after hb2;replace hC:=hC.after hb2;obtain ⟨hAc0,hAf0,hAc1,hAf1⟩:=hA.x2;go_wp2_with fail
 refine (made_c (sg x) (x.natAbs-y.natAbs) (x+y) _ (by omega) HM.out).mono ?_;rintro e w3 ⟨rfl,hb3⟩;clear hAc0 hAf0 hAc1 hAf1;replace hC:=hC.after hb3;obtain ⟨hCc0,hCf0,hCc1,hCf1⟩:=hC.x2;go_wp2;refine bodyPost_ret (v:=.tuple #[.agg #[.bool (sg (x+y)),.string (E (x+y).natAbs)],.int .i64 0]) ?_ rfl ⟨rfl,?_⟩
 ·simp [results,Tryz.results162,go_sem,hCc0,hCc1]
 ·exact ((bt (bt (bt (b3 _ _ _ _) hb1) hb2) hb3).setCell (by simp;omega) _).setCell (by simp;omega) _
theorem iadd_lt (hx:x.natAbs<256^128) (hy:y.natAbs<256^128) (hq:sg x≠sg y) (hg:x.natAbs<y.natAbs) :
  Calls Tryz.prog 162 #[.agg #[.bool (sg (x)),.string (E (x).natAbs)],.agg #[.bool (sg (y)),.string (E (y).natAbs)]] w fun e w'=>e=.returned (.tuple #[.agg #[.bool (sg (x+y)),.string (E (x+y).natAbs)],.int .i64 0])∧Below w.heap.size w w':=by
 have HX:=Lib.hid hx;have HY:=Lib.hid hy;have HG:=Lib.hid hg;have HM:=Lib.hid (add_made_lt x y hq hg);have hs:(E (y.natAbs-x.natAbs)).size≤128:=sz _ (by omega);have hqb:(sg x==sg y)=false:=by rw [beq_eq_false_iff_ne];exact hq
 have hc:=cmp_neg x.natAbs y.natAbs hg;clear hx hy hq hg;have hA:=blk3a w #[Value.bool (sg x),Value.string (E x.natAbs)] #[Value.bool (sg y),Value.string (E y.natAbs)] #[Value.bool false,Value.string { data:=#[] }] 37 37 37;have hB:=blk3b w #[Value.bool (sg x),Value.string (E x.natAbs)] #[Value.bool (sg y),Value.string (E y.natAbs)] #[Value.bool false,Value.string { data:=#[] }] 37 37 37;have hC:=blk3c w #[Value.bool (sg x),Value.string (E x.natAbs)] #[Value.bool (sg y),Value.string (E y.natAbs)] #[Value.bool false,Value.string { data:=#[] }] 37 37 37;go_enter Tryz.func162,Tryz.ntmps162
 go_wp2_with fail
 refine (iboth_c x y _ HX.out HY.out).mono ?_;rintro e w1 ⟨rfl,hb1⟩;replace hA:=hA.after hb1;replace hB:=hB.after hb1;replace hC:=hC.after hb1;obtain ⟨hAc0,hAf0,hAc1,hAf1⟩:=hA.x2;obtain ⟨hBc0,hBf0,hBc1,hBf1⟩:=hB.x2;go_wp2_with fail
 refine (cmp_c x.natAbs y.natAbs _ HX.out HY.out).mono ?_;rintro e w' ⟨rfl,rfl⟩;go_wp2_with fail
 refine (sub_c y.natAbs x.natAbs _ HY.out (Nat.le_of_lt HG.out)).mono ?_;rintro e w2 ⟨rfl,hb2⟩;have hbs:=(((bt (b3 _ _ _ _) hb1).setCell (p:=⟨w.heap.size,0,none⟩) (Nat.le_refl _) (Value.bool (sg y))).setCell (p:=⟨w.heap.size,1,none⟩) (Nat.le_refl _) (Value.string (E y.natAbs))).setCell (p:=⟨w.heap.size+1,0,none⟩) (by simp) (Value.bool (sg x)) |>.setCell (p:=⟨w.heap.size+1,1,none⟩) (by simp) (Value.string (E x.natAbs));clear hAc0 hAf0 hAc1 hAf1;clear hBc0 hBf0 hBc1 hBf1;replace hA:=(((hA.set 0 (Value.bool (sg y))).set 1 (Value.string (E y.natAbs))).other ⟨w.heap.size+1,0,none⟩ (Value.bool (sg x)) (by simp)).other ⟨w.heap.size+1,1,none⟩ (Value.string (E x.natAbs)) (by simp);replace hC:=(((hC.other ⟨w.heap.size,0,none⟩ (Value.bool (sg y)) (by simp)).other ⟨w.heap.size,1,none⟩ (Value.string (E y.natAbs)) (by simp)).other ⟨w.heap.size+1,0,none⟩ (Value.bool (sg x)) (by simp)).other ⟨w.heap.size+1,1,none⟩ (Value.string (E x.natAbs)) (by simp);replace hA:=hA.after hb2;replace hC:=hC.after hb2;obtain ⟨hAc0,hAf0,hAc1,hAf1⟩:=hA.x2;go_wp2_with fail
 refine (made_c (sg y) (y.natAbs-x.natAbs) (x+y) _ (by omega) HM.out).mono ?_;rintro e w3 ⟨rfl,hb3⟩;clear hAc0 hAf0 hAc1 hAf1;replace hC:=hC.after hb3;obtain ⟨hCc0,hCf0,hCc1,hCf1⟩:=hC.x2;go_wp2;refine bodyPost_ret (v:=.tuple #[.agg #[.bool (sg (x+y)),.string (E (x+y).natAbs)],.int .i64 0]) ?_ rfl ⟨rfl,?_⟩
 ·simp [results,Tryz.results162,go_sem,hCc0,hCc1]
 ·exact ((bt (bt hbs hb2) hb3).setCell (by simp;omega) _).setCell (by simp;omega) _
theorem iadd_c (hx:x.natAbs<256^128) (hy:y.natAbs<256^128) (hsum:(x+y).natAbs<256^128) :
  Calls Tryz.prog 162 #[.agg #[.bool (sg (x)),.string (E (x).natAbs)],.agg #[.bool (sg (y)),.string (E (y).natAbs)]] w fun e w'=>e=.returned (.tuple #[.agg #[.bool (sg (x+y)),.string (E (x+y).natAbs)],.int .i64 0])∧Below w.heap.size w w':=by
 by_cases hq:sg x=sg y
 ·exact iadd_same x y w hx hy hsum hq
 ·rcases Nat.lt_or_ge x.natAbs y.natAbs with h | h
  ·exact iadd_lt x y w hx hy hq h
  ·exact iadd_ge x y w hx hy hq h
end
end
section
open Go.RowKit
theorem Blk.drew {w:World} {g:Nat} {T:TypeId} {cs:List Value} (h:Blk w g T cs):Blk w.drew g T cs:=h
theorem Blk.drewN {w:World} {g:Nat} {T:TypeId} {cs:List Value} (h:Blk w g T cs) (n:Nat):Blk (w.drewN n) g T cs:=h
section
variable (x y:Int) (w:World)
theorem inegS_c (z:Int) (w:World) (hz:z.natAbs<256^128) :
  Calls Tryz.prog 53 #[.agg #[.bool (sg (z)),.string (E (z).natAbs)]] w fun e w'=>e=.returned (.agg #[.bool (sg (-z)),.string (E z.natAbs)])∧Below w.heap.size w w':=by
 have:=ineg_c z w hz;rwa [Int.natAbs_neg] at this
theorem iaddN_c (hx:x.natAbs<256^128) (hy:y.natAbs<256^128) (hd:(x-y).natAbs<256^128) :
  Calls Tryz.prog 162 #[.agg #[.bool (sg (x)),.string (E (x).natAbs)],.agg #[.bool (sg (-y)),.string (E y.natAbs)]] w fun e w'=>e=.returned (.tuple #[.agg #[.bool (sg (x-y)),.string (E (x-y).natAbs)],.int .i64 0])∧Below w.heap.size w w':=by
 have:=iadd_c x (-y) w hx (by rw [Int.natAbs_neg];exact hy) (by rw [←Int.sub_eq_add_neg];exact hd);rwa [Int.natAbs_neg,←Int.sub_eq_add_neg] at this
theorem isub_c (hx:x.natAbs<256^128) (hy:y.natAbs<256^128) (hd:(x-y).natAbs<256^128) :
  Calls Tryz.prog 161 #[.agg #[.bool (sg (x)),.string (E (x).natAbs)],.agg #[.bool (sg (y)),.string (E (y).natAbs)]] w fun e w'=>e=.returned (.tuple #[.agg #[.bool (sg (x-y)),.string (E (x-y).natAbs)],.int .i64 0])∧Below w.heap.size w w':=by
 have HX:=Lib.hid hx;have HY:=Lib.hid hy;have HY2:Hid ((-y).natAbs<256^128):=by unfold Hid;rw [Int.natAbs_neg];exact hy
 have HD:=Lib.hid hd;clear hx hy hd;have hA:=blk3a w #[Value.bool (sg x),Value.string (E x.natAbs)] #[Value.bool (sg y),Value.string (E y.natAbs)] #[Value.bool false,Value.string { data:=#[] }] 37 37 37;have hB:=blk3b w #[Value.bool (sg x),Value.string (E x.natAbs)] #[Value.bool (sg y),Value.string (E y.natAbs)] #[Value.bool false,Value.string { data:=#[] }] 37 37 37;have hC:=blk3c w #[Value.bool (sg x),Value.string (E x.natAbs)] #[Value.bool (sg y),Value.string (E y.natAbs)] #[Value.bool false,Value.string { data:=#[] }] 37 37 37;go_enter Tryz.func161,Tryz.ntmps161
 go_wp2_with fail
 refine (iboth_c x y _ HX.out HY.out).mono ?_;rintro e w1 ⟨rfl,hb1⟩;replace hA:=hA.after hb1;replace hB:=hB.after hb1;replace hC:=hC.after hb1;obtain ⟨hAc0,hAf0,hAc1,hAf1⟩:=hA.x2;obtain ⟨hBc0,hBf0,hBc1,hBf1⟩:=hB.x2;obtain ⟨hCc0,hCf0,hCc1,hCf1⟩:=hC.x2;go_wp2_with fail
 go_region_with (first | (go_at_call 53;refine (inegS_c y _ HY.out).mono ?_;rintro e w2 ⟨rfl,hb2⟩;have hA2:=hA.drew.after hb2;have hC2:=hC.drew.after hb2;have c0:=hA2.cell 0;have c1:=hA2.cell 1) | (go_at_call 162;refine (iaddN_c x y _ HX.out HY.out HD.out).mono ?_;rintro e w3 ⟨rfl,hb3⟩;have hC3:=hC2.after hb3;have d0:=hC3.cell 0;have d1:=hC3.cell 1;have g0:=hC3.free 0;have g1:=hC3.free 1))
 all_goals go_wp2
 all_goals
  refine bodyPost_ret (v:=.tuple #[.agg #[.bool (sg (x-y)),.string (E (x-y).natAbs)],.int .i64 0]) ?_ rfl ⟨rfl,?_⟩
  ·simp [results,Tryz.results161,go_sem,d0,d1]
  ·exact ((bt (bt (bt (b3 _ _ _ _) hb1).drew hb2) hb3).setCell (by simp;omega) _).setCell (by simp;omega) _
end
theorem emod_neg (z:Int) (m:Nat) (h:z<0) (hr:z.natAbs%m≠0) (hm:0<m):(z%(m:Int)).toNat=m-z.natAbs%m:=by
 have e:z=-(z.natAbs:Int):=by omega
 have h1:(z.natAbs%m:Nat)<m:=Nat.mod_lt _ hm
 have h2:(z.natAbs:Int)=(m:Int)*(z.natAbs / m:Nat)+(z.natAbs%m:Nat):=by
  have:=Nat.div_add_mod z.natAbs m;omega
 have h3:z=((m-z.natAbs%m:Nat):Int)+(m:Int)*(-(z.natAbs / m:Nat)-1):=by
  rw [Int.mul_sub,Int.mul_neg,Int.mul_one];omega
 have h4:z%(m:Int)=((m-z.natAbs%m:Nat):Int):=by
  conv=>lhs;rw [h3]
  rw [Int.add_mul_emod_self_left,Int.emod_eq_of_lt (by omega) (by omega)]
 rw [h4];omega
theorem emod_neg0 (z:Int) (m:Nat) (h:z<0) (hr:z.natAbs%m=0):(z%(m:Int)).toNat=0:=by
 have h1:(m:Int)∣z:=by
  rw [Int.ofNat_dvd_left];exact Nat.dvd_of_mod_eq_zero hr
 rw [Int.emod_eq_zero_of_dvd h1];rfl
theorem emod_pos (z:Int) (m:Nat) (h:0≤z):(z%(m:Int)).toNat=z.natAbs%m:=by
 have e:z=(z.natAbs:Int):=by omega
 conv=>lhs;rw [e]
 rw [←Int.natCast_emod];omega
theorem ivalidT_c (b:Bool) (n:Nat) (w:World) (hn:n<256^128) (h:ivB b (E n)=true) :
  Calls Tryz.prog 58 #[.agg #[.bool b,.string (E n)]] w fun e w'=>e=.returned (.bool true)∧Below w.heap.size w w':=by
 have:=ivalid_c b (E n) w (by have:=sz n hn;omega);rw [h] at this;exact this
theorem imod_aux (b:Bool) (n m:Nat) (w:World) (hn:n<256^8) (hm:m<256^128) (h0:0<m) (hv:ivB b (E n)=true) (r:Nat) (hr:r=if b=true∧n%m≠0 then m-n%m else n%m) :
  Calls Tryz.prog 62 #[.agg #[.bool b,.string (E n)],.string (E m)] w fun e w'=>e=.returned (.tuple #[.string (E r),.int .i64 0])∧Below w.heap.size w w':=by
 have HN:=Lib.hid hn;have HM:=Lib.hid hm;have H0:=Lib.hid h0;have HV:=Lib.hid hv;have hz0:=nzE h0;have hA:=Blk.new w #[Value.bool b,Value.string (E n)] 37;have HLT:=Lib.hid (Nat.mod_lt n h0);clear hn hm h0 hv;cases b
 ·have HR:Hid (r=n%m):=by rw [Hid,hr];simp
  clear hr;go_enter Tryz.func62,Tryz.ntmps62
  go_wp2_with fail
  refine (ivalidT_c false n _ (lt128 HN.out) HV.out).mono ?_;rintro e w1 ⟨rfl,hb1⟩;replace hA:=hA.after hb1;obtain ⟨hAc0,hAf0,hAc1,hAf1⟩:=hA.x2;go_wp2_with fail
  refine (validE_c m _ HM.out).mono ?_;rintro e w' ⟨rfl,rfl⟩;go_wp2_with fail
  refine (divmod_c n m _ HN.out HM.out H0.out).mono ?_;rintro e w2 ⟨rfl,hb2⟩;clear hAc0 hAf0 hAc1 hAf1;replace hA:=hA.after hb2;obtain ⟨hAc0,hAf0,hAc1,hAf1⟩:=hA.x2;go_wp2;go_ret2
  exact ⟨r2 (vE HR.out.symm) rfl,bt (bt (b1 _ _) hb1) hb2⟩
 ·by_cases hz:n%m=0
  ·have HR:Hid (r=n%m):=by rw [Hid,hr];simp [hz]
   have hzr:=zE hz;clear hr hz;go_enter Tryz.func62,Tryz.ntmps62
   go_wp2_with fail
   refine (ivalidT_c true n _ (lt128 HN.out) HV.out).mono ?_;rintro e w1 ⟨rfl,hb1⟩;replace hA:=hA.after hb1;obtain ⟨hAc0,hAf0,hAc1,hAf1⟩:=hA.x2;go_wp2_with fail
   refine (validE_c m _ HM.out).mono ?_;rintro e w' ⟨rfl,rfl⟩;go_wp2_with fail
   refine (divmod_c n m _ HN.out HM.out H0.out).mono ?_;rintro e w2 ⟨rfl,hb2⟩;clear hAc0 hAf0 hAc1 hAf1;replace hA:=hA.after hb2;obtain ⟨hAc0,hAf0,hAc1,hAf1⟩:=hA.x2;go_wp2;go_ret2
   exact ⟨r2 (vE HR.out.symm) rfl,bt (bt (b1 _ _) hb1) hb2⟩
  ·have HR:Hid (r=m-n%m):=by rw [Hid,hr];simp [hz]
   have hzr:=nzE (Nat.pos_of_ne_zero hz);clear hr hz;go_enter Tryz.func62,Tryz.ntmps62
   go_wp2_with fail
   refine (ivalidT_c true n _ (lt128 HN.out) HV.out).mono ?_;rintro e w1 ⟨rfl,hb1⟩;replace hA:=hA.after hb1;obtain ⟨hAc0,hAf0,hAc1,hAf1⟩:=hA.x2;go_wp2_with fail
   refine (validE_c m _ HM.out).mono ?_;rintro e w' ⟨rfl,rfl⟩;go_wp2_with fail
   refine (divmod_c n m _ HN.out HM.out H0.out).mono ?_;rintro e w2 ⟨rfl,hb2⟩;clear hAc0 hAf0 hAc1 hAf1;replace hA:=hA.after hb2;obtain ⟨hAc0,hAf0,hAc1,hAf1⟩:=hA.x2;go_wp2_with fail
   refine (sub_c m (n%m) _ HM.out (Nat.le_of_lt HLT.out)).mono ?_;rintro e w3 ⟨rfl,hb3⟩;go_wp2;go_ret2
   exact ⟨r2 (vE HR.out.symm) rfl,bt (bt (bt (b1 _ _) hb1) hb2) hb3⟩
theorem emod_if (z:Int) (m:Nat) (hm:0<m):(z%(m:Int)).toNat=if sg z=true∧z.natAbs%m≠0 then m-z.natAbs%m else z.natAbs%m:=by
 by_cases h:z<0
 ·rw [sg_of_neg h];by_cases hr:z.natAbs%m=0
  ·rw [emod_neg0 z m h hr,if_neg (fun h=>h.2 hr),hr]
  ·rw [emod_neg z m h hr hm,if_pos ⟨rfl,hr⟩]
 ·rw [sg_of_nonneg (by omega),emod_pos z m (by omega),if_neg (fun h=>Bool.noConfusion h.1)]
theorem imod_c (z:Int) (m:Nat) (w:World) (hz:z.natAbs<256^8) (hm:m<256^128) (h0:0<m) :
  Calls Tryz.prog 62 #[.agg #[.bool (sg (z)),.string (E (z).natAbs)],.string (E m)] w fun e w'=>e=.returned (.tuple #[.string (E (z%(m:Int)).toNat),.int .i64 0])∧Below w.heap.size w w':=
 imod_aux (sg z) z.natAbs m w hz hm h0 (ivB_I z (lt128 hz)) _ (emod_if z m h0)
end
section
/- foursquares: the searches,as plain functions. -/
open Go.RowKit Go.Shelf
end
section
/- ref25: the searches of the reference,as the same plain functions. -/
open Go.RowKit Go.Shelf
theorem wi64 {x:Int} (h1:-9223372036854775808≤x) (h2:x≤9223372036854775807):IntKind.i64.wrap x=x:=by
 simp [IntKind.wrap,IntKind.signed,IntKind.bits];omega
end
section
/- foursquares.Four. -/
open Go.RowKit Go.Shelf
theorem small_long (n:Nat) (w:World) (h:256^8≤n) (h2:n<256^128) :
  Calls Tryz.prog 65 #[.string (E n)] w fun e w'=>e=.returned (.tuple #[.int .u64 0,.bool false])∧w=w':=by
 have h1:8<(E n).size:=by
  apply Classical.byContradiction
  intro hn;have:=(E_size_le n 8).1 (by omega);omega
 have HV:Hid (∀w,Calls Tryz.prog 59 #[.string (E n)] w fun e w'=>e=.returned (.bool true)∧w=w'):=fun w=>validE_c n w h2
 have h3:(8:Int)<((E n).size:Int):=by omega
 clear h h2;go_enter Tryz.func65,Tryz.ntmps65
 go_wp2_with fail
 refine (HV.out _).mono ?_;rintro e w' ⟨rfl,rfl⟩;go_wp2;go_ret2
 exact ⟨rfl,rfl⟩
end
section
/- ref25.Four. -/
open Go.RowKit Go.Shelf
end
section
open Go.RowKit Go.Shelf
end
end Go.Proofs.YtdoacbdkbbpamaaGreatDoor
