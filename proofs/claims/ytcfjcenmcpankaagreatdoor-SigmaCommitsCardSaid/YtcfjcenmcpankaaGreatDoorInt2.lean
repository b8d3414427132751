import Derived.Test.YtcfjcenmcpankaaGreatDoorInt1
import Derived.Test.YtcfjcenmcpankaaGreatDoorNat5
import Derived.Deep.RegionWith
set_option linter.unusedVariables false
set_option linter.unusedSimpArgs false
set_option maxRecDepth 100000
set_option maxHeartbeats 16000000
namespace Go.Proofs.YtcfjcenmcpankaaGreatDoor
open Go.RowKit
theorem szI (z:Int) (h:z.natAbs<256^128):(E z.natAbs).size≤128:=sz _ h
theorem blk2a (w:World) (X Y:Array Value) (T U:TypeId):Blk ((w.alloc (.cells X T)).alloc (.cells Y U)) w.heap.size T X.toList:=(Blk.new w X T).alloc _
theorem blk2b (w:World) (X Y:Array Value) (T U:TypeId):Blk ((w.alloc (.cells X T)).alloc (.cells Y U)) (w.heap.size+1) U Y.toList:=by
 have:=Blk.new (w.alloc (.cells X T)) Y U;simpa using this
theorem blk3a (w:World) (X Y Z:Array Value) (T U V:TypeId):Blk (((w.alloc (.cells X T)).alloc (.cells Y U)).alloc (.cells Z V)) w.heap.size T X.toList:=(blk2a w X Y T U).alloc _
theorem blk3b (w:World) (X Y Z:Array Value) (T U V:TypeId):Blk (((w.alloc (.cells X T)).alloc (.cells Y U)).alloc (.cells Z V)) (w.heap.size+1) U Y.toList:=(blk2b w X Y T U).alloc _
theorem blk3c (w:World) (X Y Z:Array Value) (T U V:TypeId):Blk (((w.alloc (.cells X T)).alloc (.cells Y U)).alloc (.cells Z V)) (w.heap.size+2) V Z.toList:=by
 have:=Blk.new ((w.alloc (.cells X T)).alloc (.cells Y U)) Z V;simpa using this
theorem ifrom_c (n:Nat) (w:World) (hn:n<256^128) :
  Calls Tryz.prog 64 #[.string (E n)] w fun e w'=>e=.returned (.agg #[.bool (sg ((n:Int))),.string (E ((n:Int)).natAbs)])∧Below w.heap.size w w':=by
 have hs:=sz n hn;have HN:=Lib.hid hn;clear hn;have HZ:Hid ((n:Int)=if false then -(n:Int) else (n:Int)):=by simp [Hid]
 have hB:=Blk.new w #[Value.bool false,Value.string { data:=#[] }] 72;go_enter Tryz.func64,Tryz.ntmps64
 go_wp2_with fail
 refine (validE_c n _ HN.out).mono ?_;rintro e w' ⟨rfl,rfl⟩;go_wp2_with fail
 refine (made_c false n (n:Int) _ (by omega) HZ.out).mono ?_;rintro e w1 ⟨rfl,hb1⟩;replace hB:=hB.after hb1;obtain ⟨hBc0,hBf0,hBc1,hBf1⟩:=hB.x2;go_wp2;refine bodyPost_ret (v:=.agg #[.bool (sg ((n:Int))),.string (E ((n:Int)).natAbs)]) ?_ rfl ⟨rfl,?_⟩
 ·simp [results,Tryz.results64,go_sem,hBc0,hBc1]
 ·exact ((bt (b1 _ _) hb1).setCell (Nat.le_refl _) _).setCell (Nat.le_refl _) _
theorem iboth_c (x y:Int) (w:World) (hx:x.natAbs<256^128) (hy:y.natAbs<256^128) :
  Calls Tryz.prog 150 #[.agg #[.bool (sg (x)),.string (E (x).natAbs)],.agg #[.bool (sg (y)),.string (E (y).natAbs)]] w fun e w'=>e=.returned (.bool true)∧Below w.heap.size w w':=by
 have HX:=Lib.hid hx;have HY:=Lib.hid hy;clear hx hy;have hB:=blk2b w #[Value.bool (sg x),Value.string (E x.natAbs)] #[Value.bool (sg y),Value.string (E y.natAbs)] 72 72;go_enter Tryz.func150,Tryz.ntmps150
 go_wp2_with fail
 refine (ivalidI_c x _ HX.out).mono ?_;rintro e w1 ⟨rfl,hb1⟩;replace hB:=hB.after hb1;obtain ⟨hBc0,hBf0,hBc1,hBf1⟩:=hB.x2;go_wp2_with fail
 refine (ivalidI_c y _ HY.out).mono ?_;rintro e w2 ⟨rfl,hb2⟩;go_wp2;go_ret
 exact ⟨rfl,bt (bt (b2 _ _ _) hb1) hb2⟩
theorem neg_made (z:Int):-z=if (!sg z) then -(z.natAbs:Int) else (z.natAbs:Int):=by
 unfold sg;by_cases h:z<0
 ·rw [decide_eq_true h];simp;omega
 ·rw [decide_eq_false h];simp;omega
theorem ineg_c (z:Int) (w:World) (hz:z.natAbs<256^128) :
  Calls Tryz.prog 209 #[.agg #[.bool (sg (z)),.string (E (z).natAbs)]] w fun e w'=>e=.returned (.agg #[.bool (sg (-z)),.string (E (-z).natAbs)])∧Below w.heap.size w w':=by
 have HZ:=Lib.hid hz;have hs:=szI z hz;clear hz;have hA:=blk2a w #[Value.bool (sg z),Value.string (E z.natAbs)] #[Value.bool false,Value.string { data:=#[] }] 72 72;have hB:=blk2b w #[Value.bool (sg z),Value.string (E z.natAbs)] #[Value.bool false,Value.string { data:=#[] }] 72 72;have HM:=Lib.hid (neg_made z);go_enter Tryz.func209,Tryz.ntmps209
 go_wp2_with fail
 refine (ivalidI_c z _ HZ.out).mono ?_;rintro e w1 ⟨rfl,hb1⟩;replace hA:=hA.after hb1;replace hB:=hB.after hb1;obtain ⟨hAc0,hAf0,hAc1,hAf1⟩:=hA.x2;go_wp2_with fail
 refine (made_c (!sg z) z.natAbs (-z) _ (by omega) HM.out).mono ?_;rintro e w2 ⟨rfl,hb2⟩;replace hB:=hB.after hb2;obtain ⟨hBc0,hBf0,hBc1,hBf1⟩:=hB.x2;go_wp2;refine bodyPost_ret (v:=.agg #[.bool (sg (-z)),.string (E (-z).natAbs)]) ?_ rfl ⟨rfl,?_⟩
 ·simp [results,Tryz.results209,go_sem,hBc0,hBc1]
 ·exact ((bt (bt (b2 _ _ _) hb1) hb2).setCell (by simp) _).setCell (by simp) _
theorem mul_made (x y:Int):x*y=if (sg x != sg y) then -((x.natAbs*y.natAbs:Nat):Int) else ((x.natAbs*y.natAbs:Nat):Int):=by
 unfold sg;rw [Int.natCast_mul];by_cases h:x<0 <;> by_cases h2:y<0
 ·rw [decide_eq_true h,decide_eq_true h2];have e1:(x.natAbs:Int)=-x:=by omega
  have e2:(y.natAbs:Int)=-y:=by omega
  rw [e1,e2,Int.neg_mul_neg];simp
 ·rw [decide_eq_true h,decide_eq_false h2];have e1:(x.natAbs:Int)=-x:=by omega
  have e2:(y.natAbs:Int)=y:=by omega
  rw [e1,e2,Int.neg_mul];simp
 ·rw [decide_eq_false h,decide_eq_true h2];have e1:(x.natAbs:Int)=x:=by omega
  have e2:(y.natAbs:Int)=-y:=by omega
  rw [e1,e2,Int.mul_neg];simp
 ·rw [decide_eq_false h,decide_eq_false h2];have e1:(x.natAbs:Int)=x:=by omega
  have e2:(y.natAbs:Int)=y:=by omega
  rw [e1,e2];simp
theorem imul_small (x y:Int) (w:World) (hx:x.natAbs<256^8) (hy:y.natAbs<256^8) (hxy:x.natAbs*y.natAbs<256^8) :
  Calls Tryz.prog 103 #[.agg #[.bool (sg (x)),.string (E (x).natAbs)],.agg #[.bool (sg (y)),.string (E (y).natAbs)]] w fun e w'=>e=.returned (.tuple #[.agg #[.bool (sg (x*y)),.string (E (x*y).natAbs)],.int .i64 0])∧Below w.heap.size w w':=by
 have HX:=Lib.hid hx;have HY:=Lib.hid hy;have HXY:=Lib.hid hxy;have hs:=(E_size_le _ 8).2 hxy;clear hx hy hxy;have HM:=Lib.hid (mul_made x y);have hA:=blk3a w #[Value.bool (sg x),Value.string (E x.natAbs)] #[Value.bool (sg y),Value.string (E y.natAbs)] #[Value.bool false,Value.string { data:=#[] }] 72 72 72;have hB:=blk3b w #[Value.bool (sg x),Value.string (E x.natAbs)] #[Value.bool (sg y),Value.string (E y.natAbs)] #[Value.bool false,Value.string { data:=#[] }] 72 72 72;have hC:=blk3c w #[Value.bool (sg x),Value.string (E x.natAbs)] #[Value.bool (sg y),Value.string (E y.natAbs)] #[Value.bool false,Value.string { data:=#[] }] 72 72 72;go_enter Tryz.func103,Tryz.ntmps103
 go_wp2_with fail
 refine (iboth_c x y _ (lt128 HX.out) (lt128 HY.out)).mono ?_;rintro e w1 ⟨rfl,hb1⟩;replace hA:=hA.after hb1;replace hB:=hB.after hb1;replace hC:=hC.after hb1;obtain ⟨hAc0,hAf0,hAc1,hAf1⟩:=hA.x2;obtain ⟨hBc0,hBf0,hBc1,hBf1⟩:=hB.x2;go_wp2_with fail
 refine (mul_small x.natAbs y.natAbs _ HX.out HY.out HXY.out).mono ?_;rintro e w2 ⟨rfl,hb2⟩;clear hAc0 hAf0 hAc1 hAf1;clear hBc0 hBf0 hBc1 hBf1;replace hA:=hA.after hb2;replace hB:=hB.after hb2;replace hC:=hC.after hb2;obtain ⟨hAc0,hAf0,hAc1,hAf1⟩:=hA.x2;obtain ⟨hBc0,hBf0,hBc1,hBf1⟩:=hB.x2;go_wp2_with fail
 refine (made_c (sg x != sg y) (x.natAbs*y.natAbs) (x*y) _ (by omega) HM.out).mono ?_;rintro e w3 ⟨rfl,hb3⟩;clear hAc0 hAf0 hAc1 hAf1;clear hBc0 hBf0 hBc1 hBf1;replace hC:=hC.after hb3;obtain ⟨hCc0,hCf0,hCc1,hCf1⟩:=hC.x2;go_wp2;refine bodyPost_ret (v:=.tuple #[.agg #[.bool (sg (x*y)),.string (E (x*y).natAbs)],.int .i64 0]) ?_ rfl ⟨rfl,?_⟩
 ·simp [results,Tryz.results103,go_sem,hCc0,hCc1]
 ·exact ((bt (bt (bt (b3 _ _ _ _) hb1) hb2) hb3).setCell (by simp;omega) _).setCell (by simp;omega) _
end Go.Proofs.YtcfjcenmcpankaaGreatDoor
