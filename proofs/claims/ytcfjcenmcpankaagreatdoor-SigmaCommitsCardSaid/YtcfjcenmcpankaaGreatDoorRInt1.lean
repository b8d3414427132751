import Derived.Test.YtcfjcenmcpankaaGreatDoorInt4
import Derived.Test.YtcfjcenmcpankaaGreatDoorRef7
set_option linter.unusedVariables false
set_option linter.unusedSimpArgs false
set_option maxRecDepth 100000
set_option maxHeartbeats 16000000
namespace Go.Proofs.YtcfjcenmcpankaaGreatDoor
open Go.RowKit
theorem rmake_c (b:Bool) (n:Nat) (z:Int) (w:World) (hm:(E n).size≤4611686018427387904) (hz:z=if b then -(n:Int) else (n:Int)) :
  Calls Tryz.prog 76 #[.bool b,.string (E n)] w fun e w'=>e=.returned (.agg #[.bool (sg (z)),.string (E (z).natAbs)])∧Below w.heap.size w w':=by
 have H:=made_val b n;rw [←hz] at H;have HM:=Lib.hid H;clear H hz;cases b
 all_goals
  go_enter Tryz.func76,Tryz.ntmps76
  go_wp2;refine bodyPost_ret (v:=.agg #[.bool (sg (z)),.string (E (z).natAbs)]) (by rw [←HM.out];simp [results,Tryz.results76,go_sem]) rfl ⟨rfl,b1 _ _⟩
theorem rivalid_c (b:Bool) (s:ByteArray) (w:World) (hm:s.size≤4611686018427387904) :
  Calls Tryz.prog 77 #[.agg #[.bool b,.string s]] w fun e w'=>e=.returned (.bool (ivB b s))∧Below w.heap.size w w':=by
 have HI:=Lib.hid (show ivB b s=(vldB s&&!(b&&s.toList.isEmpty)) from rfl);generalize ivB b s=r at HI;cases hv:vldB s
 ·rw [hv] at HI;go_enter Tryz.func77,Tryz.ntmps77
  go_wp2_with fail
  refine (rvalid_c s _ (by omega)).mono ?_;rintro e w' ⟨rfl,rfl⟩;rw [hv];go_wp2;go_ret
  exact ⟨rb (by rw [HI.out];rfl),b1 _ _⟩
 ·rw [hv] at HI;cases b
  ·go_enter Tryz.func77,Tryz.ntmps77
   go_wp2_with fail
   refine (rvalid_c s _ (by omega)).mono ?_;rintro e w' ⟨rfl,rfl⟩;rw [hv];go_wp2;go_ret
   exact ⟨rb (by rw [HI.out];rfl),b1 _ _⟩
  ·cases he:s.toList.isEmpty
   all_goals
    rw [he] at HI;go_enter Tryz.func77,Tryz.ntmps77
    go_wp2_with fail
    refine (rvalid_c s _ (by omega)).mono ?_;rintro e w' ⟨rfl,rfl⟩;rw [hv];go_wp2;go_ret
    exact ⟨rb (by rw [HI.out];rfl),b1 _ _⟩
theorem rivalidI_c (z:Int) (w:World) (h:z.natAbs<256^128) :
  Calls Tryz.prog 77 #[.agg #[.bool (sg (z)),.string (E (z).natAbs)]] w fun e w'=>e=.returned (.bool true)∧Below w.heap.size w w':=by
 have:=rivalid_c (sg z) (E z.natAbs) w (by have:=sz z.natAbs h;omega);rw [ivB_I z h] at this;exact this
theorem riof_c (z:Int) (w:World) (h1:-9223372036854775808≤z) (h2:z≤9223372036854775807) :
  Calls Tryz.prog 31 #[.int .i64 z] w fun e w'=>e=.returned (.agg #[.bool (sg (z)),.string (E (z).natAbs)])∧Below w.heap.size w w':=by
 have HN:Hid (z.natAbs<256^8):=by unfold Hid;rw [←u64_as_pow];omega
 have hs:=(E_size_le z.natAbs 8).2 HN.out;have hB:=Blk.new w #[Value.bool false,Value.string { data:=#[] }] 72;by_cases h:z<0
 ·have HZ:Hid (z=if true then -(z.natAbs:Int) else (z.natAbs:Int)):=by unfold Hid;simp;omega
  go_enter Tryz.func31,Tryz.ntmps31
  go_wp2_with fail
  have hof:=rof_c z.natAbs (w.alloc (Obj.cells #[Value.bool false,Value.string { data:=#[] }] 72)) HN.out;rw [show (z.natAbs:Int)=-(z+1)+1 by omega] at hof;refine hof.mono ?_;clear hof;rintro e w1 ⟨rfl,hb1⟩;replace hB:=hB.after hb1;go_wp2_with fail
  refine (rmake_c true z.natAbs z _ (by omega) HZ.out).mono ?_;rintro e w2 ⟨rfl,hb2⟩;replace hB:=hB.after hb2;obtain ⟨hBc0,hBf0,hBc1,hBf1⟩:=hB.x2;go_wp2;refine bodyPost_ret (v:=.agg #[.bool (sg (z)),.string (E (z).natAbs)]) ?_ rfl ⟨rfl,?_⟩
  ·simp [results,Tryz.results31,go_sem,hBc0,hBc1]
  ·exact ((bt (bt (b1 _ _) hb1) hb2).setCell (Nat.le_refl _) _).setCell (Nat.le_refl _) _
 ·have HZ:Hid (z=if false then -(z.natAbs:Int) else (z.natAbs:Int)):=by unfold Hid;simp;omega
  have HZ2:Hid (z=(z.natAbs:Int)):=by unfold Hid;omega
  have h0:0≤z:=by omega
  go_enter Tryz.func31,Tryz.ntmps31
  go_wp2_with fail
  have hof:=rof_c z.natAbs (w.alloc (Obj.cells #[Value.bool false,Value.string { data:=#[] }] 72)) HN.out;rw [←HZ2.out] at hof;refine hof.mono ?_;clear hof;rintro e w1 ⟨rfl,hb1⟩;replace hB:=hB.after hb1;go_wp2_with fail
  refine (rmake_c false z.natAbs z _ (by omega) HZ.out).mono ?_;rintro e w2 ⟨rfl,hb2⟩;replace hB:=hB.after hb2;obtain ⟨hBc0,hBf0,hBc1,hBf1⟩:=hB.x2;go_wp2;refine bodyPost_ret (v:=.agg #[.bool (sg (z)),.string (E (z).natAbs)]) ?_ rfl ⟨rfl,?_⟩
  ·simp [results,Tryz.results31,go_sem,hBc0,hBc1]
  ·exact ((bt (bt (b1 _ _) hb1) hb2).setCell (Nat.le_refl _) _).setCell (Nat.le_refl _) _
theorem rifrom_c (n:Nat) (w:World) (hn:n<256^128) :
  Calls Tryz.prog 141 #[.string (E n)] w fun e w'=>e=.returned (.agg #[.bool (sg ((n:Int))),.string (E ((n:Int)).natAbs)])∧Below w.heap.size w w':=by
 have hs:=sz n hn;have HN:=Lib.hid hn;clear hn;have HZ:Hid ((n:Int)=if false then -(n:Int) else (n:Int)):=by simp [Hid]
 have hB:=Blk.new w #[Value.bool false,Value.string { data:=#[] }] 72;go_enter Tryz.func141,Tryz.ntmps141
 go_wp2_with fail
 refine (rvalidE_c n _ HN.out).mono ?_;rintro e w' ⟨rfl,rfl⟩;go_wp2_with fail
 refine (rmake_c false n (n:Int) _ (by omega) HZ.out).mono ?_;rintro e w1 ⟨rfl,hb1⟩;replace hB:=hB.after hb1;obtain ⟨hBc0,hBf0,hBc1,hBf1⟩:=hB.x2;go_wp2;refine bodyPost_ret (v:=.agg #[.bool (sg ((n:Int))),.string (E ((n:Int)).natAbs)]) ?_ rfl ⟨rfl,?_⟩
 ·simp [results,Tryz.results141,go_sem,hBc0,hBc1]
 ·exact ((bt (b1 _ _) hb1).setCell (Nat.le_refl _) _).setCell (Nat.le_refl _) _
theorem rineg_c (z:Int) (w:World) (hz:z.natAbs<256^128) :
  Calls Tryz.prog 82 #[.agg #[.bool (sg (z)),.string (E (z).natAbs)]] w fun e w'=>e=.returned (.agg #[.bool (sg (-z)),.string (E (-z).natAbs)])∧Below w.heap.size w w':=by
 have HZ:=Lib.hid hz;have hs:=szI z hz;clear hz;have hA:=blk2a w #[Value.bool (sg z),Value.string (E z.natAbs)] #[Value.bool false,Value.string { data:=#[] }] 72 72;have hB:=blk2b w #[Value.bool (sg z),Value.string (E z.natAbs)] #[Value.bool false,Value.string { data:=#[] }] 72 72;have HM:=Lib.hid (neg_made z);go_enter Tryz.func82,Tryz.ntmps82
 go_wp2_with fail
 refine (rivalidI_c z _ HZ.out).mono ?_;rintro e w1 ⟨rfl,hb1⟩;replace hA:=hA.after hb1;replace hB:=hB.after hb1;obtain ⟨hAc0,hAf0,hAc1,hAf1⟩:=hA.x2;go_wp2_with fail
 refine (rmake_c (!sg z) z.natAbs (-z) _ (by omega) HM.out).mono ?_;rintro e w2 ⟨rfl,hb2⟩;replace hB:=hB.after hb2;obtain ⟨hBc0,hBf0,hBc1,hBf1⟩:=hB.x2;go_wp2;refine bodyPost_ret (v:=.agg #[.bool (sg (-z)),.string (E (-z).natAbs)]) ?_ rfl ⟨rfl,?_⟩
 ·simp [results,Tryz.results82,go_sem,hBc0,hBc1]
 ·exact ((bt (bt (b2 _ _ _) hb1) hb2).setCell (by simp) _).setCell (by simp) _
theorem rinegS_c (z:Int) (w:World) (hz:z.natAbs<256^128) :
  Calls Tryz.prog 82 #[.agg #[.bool (sg (z)),.string (E (z).natAbs)]] w fun e w'=>e=.returned (.agg #[.bool (sg (-z)),.string (E z.natAbs)])∧Below w.heap.size w w':=by
 have:=rineg_c z w hz;rwa [Int.natAbs_neg] at this
theorem rimul_c (x y:Int) (w:World) (hx:x.natAbs<256^128) (hy:y.natAbs<256^128) (hxy:x.natAbs*y.natAbs<256^128) :
  Calls Tryz.prog 36 #[.agg #[.bool (sg (x)),.string (E (x).natAbs)],.agg #[.bool (sg (y)),.string (E (y).natAbs)]] w fun e w'=>e=.returned (.tuple #[.agg #[.bool (sg (x*y)),.string (E (x*y).natAbs)],.int .i64 0])∧Below w.heap.size w w':=by
 have HX:=Lib.hid hx;have HY:=Lib.hid hy;have HXY:=Lib.hid hxy;have hs:=sz _ hxy;clear hx hy hxy;have HM:=Lib.hid (mul_made x y);have hA:=blk3a w #[Value.bool (sg x),Value.string (E x.natAbs)] #[Value.bool (sg y),Value.string (E y.natAbs)] #[Value.bool false,Value.string { data:=#[] }] 72 72 72;have hB:=blk3b w #[Value.bool (sg x),Value.string (E x.natAbs)] #[Value.bool (sg y),Value.string (E y.natAbs)] #[Value.bool false,Value.string { data:=#[] }] 72 72 72;have hC:=blk3c w #[Value.bool (sg x),Value.string (E x.natAbs)] #[Value.bool (sg y),Value.string (E y.natAbs)] #[Value.bool false,Value.string { data:=#[] }] 72 72 72;go_enter Tryz.func36,Tryz.ntmps36
 go_wp2_with fail
 refine (rivalidI_c x _ HX.out).mono ?_;rintro e w0 ⟨rfl,hb0⟩;replace hA:=hA.after hb0;replace hB:=hB.after hb0;replace hC:=hC.after hb0;obtain ⟨hAc0,hAf0,hAc1,hAf1⟩:=hA.x2;obtain ⟨hBc0,hBf0,hBc1,hBf1⟩:=hB.x2;go_wp2_with fail
 refine (rivalidI_c y _ HY.out).mono ?_;rintro e w1 ⟨rfl,hb1⟩;clear hAc0 hAf0 hAc1 hAf1;clear hBc0 hBf0 hBc1 hBf1;replace hA:=hA.after hb1;replace hB:=hB.after hb1;replace hC:=hC.after hb1;obtain ⟨hAc0,hAf0,hAc1,hAf1⟩:=hA.x2;obtain ⟨hBc0,hBf0,hBc1,hBf1⟩:=hB.x2;go_wp2_with fail
 refine (rmul_c x.natAbs y.natAbs _ HX.out HY.out HXY.out).mono ?_;rintro e w2 ⟨rfl,hb2⟩;clear hAc0 hAf0 hAc1 hAf1;clear hBc0 hBf0 hBc1 hBf1;replace hA:=hA.after hb2;replace hB:=hB.after hb2;replace hC:=hC.after hb2;obtain ⟨hAc0,hAf0,hAc1,hAf1⟩:=hA.x2;obtain ⟨hBc0,hBf0,hBc1,hBf1⟩:=hB.x2;go_wp2_with fail
 refine (rmake_c (sg x != sg y) (x.natAbs*y.natAbs) (x*y) _ (by omega) HM.out).mono ?_;rintro e w3 ⟨rfl,hb3⟩;clear hAc0 hAf0 hAc1 hAf1;clear hBc0 hBf0 hBc1 hBf1;replace hC:=hC.after hb3;obtain ⟨hCc0,hCf0,hCc1,hCf1⟩:=hC.x2;go_wp2;refine bodyPost_ret (v:=.tuple #[.agg #[.bool (sg (x*y)),.string (E (x*y).natAbs)],.int .i64 0]) ?_ rfl ⟨rfl,?_⟩
 ·simp [results,Tryz.results36,go_sem,hCc0,hCc1]
 ·exact ((bt (bt (bt (bt (b3 _ _ _ _) hb0) hb1) hb2) hb3).setCell (by simp;omega) _).setCell (by simp;omega) _
end Go.Proofs.YtcfjcenmcpankaaGreatDoor
