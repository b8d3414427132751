import Derived.Test.YtdgddpnjkinciaaGreatDoorWsum
import Derived.Deep.RegionWith
import Derived.Deep.RegionHeld3
set_option linter.all false
set_option maxRecDepth 100000
set_option maxHeartbeats 16000000
namespace Go.Proofs.YtdgddpnjkinciaaGreatDoor
section
open Go.RowKit
theorem szI (z:Int) (h:z.natAbs<256^128):(E z.natAbs).size≤128:=sz _ h
theorem blk2a (w:World) (X Y:Array Value) (T U:TypeId):Blk ((w.alloc (.cells X T)).alloc (.cells Y U)) w.heap.size T X.toList:=(Blk.new w X T).alloc _
theorem blk2b (w:World) (X Y:Array Value) (T U:TypeId):Blk ((w.alloc (.cells X T)).alloc (.cells Y U)) (w.heap.size+1) U Y.toList:=by
 have:=Blk.new (w.alloc (.cells X T)) Y U;simpa using this
theorem blk3a (w:World) (X Y Z:Array Value) (T U V:TypeId):Blk (((w.alloc (.cells X T)).alloc (.cells Y U)).alloc (.cells Z V)) w.heap.size T X.toList:=(blk2a w X Y T U).alloc _
theorem blk3b (w:World) (X Y Z:Array Value) (T U V:TypeId):Blk (((w.alloc (.cells X T)).alloc (.cells Y U)).alloc (.cells Z V)) (w.heap.size+1) U Y.toList:=(blk2b w X Y T U).alloc _
theorem blk3c (w:World) (X Y Z:Array Value) (T U V:TypeId):Blk (((w.alloc (.cells X T)).alloc (.cells Y U)).alloc (.cells Z V)) (w.heap.size+2) V Z.toList:=by
 have:=Blk.new ((w.alloc (.cells X T)).alloc (.cells Y U)) Z V;simpa using this
theorem ifrom_c (n:Nat) (w:World) (hn:n<256^128) :
  Calls Tryz.prog 42 #[.string (E n)] w fun e w'=>e=.returned (.agg #[.bool (sg ((n:Int))),.string (E ((n:Int)).natAbs)])∧Bw w w':=by
 have hs:=sz n hn;have HN:=Kh hn;clear hn;have HZ:Hid ((n:Int)=if false then -(n:Int) else (n:Int)):=by simp[Hid]
 have hB:=Blk.new w #[Value.bool false,Value.string { data:=#[] }] 28;go_enter Tryz.func42,Tryz.ntmps42
 go_wp2_with fail
 refine (validE_c n _ HN.out).mono ?_;rintro e w' ⟨rfl,rfl⟩;go_wp2_with fail
 refine (made_c false n (n:Int) _ (by omega) HZ.out).mono ?_;rintro e w1 ⟨rfl,hd⟩;replace hB:=hB.after hd;obtain⟨hb,he,hc,hf⟩:=hB.x2;go_wp2;refine bodyPost_ret (v:=.agg #[.bool (sg ((n:Int))),.string (E ((n:Int)).natAbs)]) ?_ rfl ⟨rfl,?_⟩
 ·simp[results,Tryz.results42,go_sem,hb,hc]
 ·exact ((bt (b1 _ _) hd).setCell (Nat.le_refl _) _).setCell (Nat.le_refl _) _
theorem iboth_c (x y:Int) (w:World) (hx:x.natAbs<256^128) (hy:y.natAbs<256^128) :
  Calls Tryz.prog 93 #[.agg #[.bool (sg (x)),.string (E (x).natAbs)],.agg #[.bool (sg (y)),.string (E (y).natAbs)]] w fun e w'=>e=.returned (.bool true)∧Bw w w':=by
 have HX:=Kh hx;have HY:=Kh hy;clear hx hy;have hB:=blk2b w #[Value.bool (sg x),Value.string (E x.natAbs)] #[Value.bool (sg y),Value.string (E y.natAbs)] 28 28;go_enter Tryz.func93,Tryz.ntmps93
 go_wp2_with fail
 refine (ivalidI_c x _ HX.out).mono ?_;rintro e w1 ⟨rfl,hb⟩;replace hB:=hB.after hb;obtain⟨hc,hd,he,hf⟩:=hB.x2;go_wp2_with fail
 refine (ivalidI_c y _ HY.out).mono ?_;rintro e w2 ⟨rfl,hg⟩;go_wp2;go_ret
 exact⟨rfl,bt (bt (b2 _ _ _) hb) hg⟩
theorem neg_made (z:Int):-z=if (!sg z) then -(z.natAbs:Int) else (z.natAbs:Int):=by
 unfold sg;by_cases h:z<0
 ·rw[Dt h];simp;omega
 ·rw[decide_eq_false h];simp;omega
theorem ineg_c (z:Int) (w:World) (hz:z.natAbs<256^128) :
  Calls Tryz.prog 63 #[.agg #[.bool (sg (z)),.string (E (z).natAbs)]] w fun e w'=>e=.returned (.agg #[.bool (sg (-z)),.string (E (-z).natAbs)])∧Bw w w':=by
 have HZ:=Kh hz;have hs:=szI z hz;clear hz;have hA:=blk2a w #[Value.bool (sg z),Value.string (E z.natAbs)] #[Value.bool false,Value.string { data:=#[] }] 28 28;have hB:=blk2b w #[Value.bool (sg z),Value.string (E z.natAbs)] #[Value.bool false,Value.string { data:=#[] }] 28 28;have HM:=Kh (neg_made z);go_enter Tryz.func63,Tryz.ntmps63
 go_wp2_with fail
 refine (ivalidI_c z _ HZ.out).mono ?_;rintro e w1 ⟨rfl,hb⟩;replace hA:=hA.after hb;replace hB:=hB.after hb;obtain⟨hf,hg,hh,hi⟩:=hA.x2;go_wp2_with fail
 refine (made_c (!sg z) z.natAbs (-z) _ (by omega) HM.out).mono ?_;rintro e w2 ⟨rfl,he⟩;replace hB:=hB.after he;obtain⟨hc,hj,hd,hk⟩:=hB.x2;go_wp2;refine bodyPost_ret (v:=.agg #[.bool (sg (-z)),.string (E (-z).natAbs)]) ?_ rfl ⟨rfl,?_⟩
 ·simp[results,Tryz.results63,go_sem,hc,hd]
 ·exact ((bt (bt (b2 _ _ _) hb) he).setCell (by simp) _).setCell (by simp) _
theorem mul_made (x y:Int):x*y=if (sg x != sg y) then -((x.natAbs*y.natAbs:Nat):Int) else ((x.natAbs*y.natAbs:Nat):Int):=by
 unfold sg;rw[Int.natCast_mul];by_cases h:x<0 <;> by_cases h2:y<0
 ·rw[Dt h,Dt h2];have e1:(x.natAbs:Int)=-x:=by omega
  have e2:(y.natAbs:Int)=-y:=by omega
  rw[e1,e2,Int.neg_mul_neg];simp
 ·rw[Dt h,decide_eq_false h2];have e1:(x.natAbs:Int)=-x:=by omega
  have e2:(y.natAbs:Int)=y:=by omega
  rw[e1,e2,Int.neg_mul];simp
 ·rw[decide_eq_false h,Dt h2];have e1:(x.natAbs:Int)=x:=by omega
  have e2:(y.natAbs:Int)=-y:=by omega
  rw[e1,e2,Int.mul_neg];simp
 ·rw[decide_eq_false h,decide_eq_false h2];have e1:(x.natAbs:Int)=x:=by omega
  have e2:(y.natAbs:Int)=y:=by omega
  rw[e1,e2];simp
theorem imul_small (x y:Int) (w:World) (hx:x.natAbs<256^8) (hy:y.natAbs<256^8) (hl:x.natAbs*y.natAbs<256^8) :
  Calls Tryz.prog 54 #[.agg #[.bool (sg (x)),.string (E (x).natAbs)],.agg #[.bool (sg (y)),.string (E (y).natAbs)]] w fun e w'=>e=.returned (.tuple #[.agg #[.bool (sg (x*y)),.string (E (x*y).natAbs)],.int .i64 0])∧Bw w w':=by
 have HX:=Kh hx;have HY:=Kh hy;have hp:=Kh hl;have hs:=(E_size_le _ 8).2 hl;clear hx hy hl;have HM:=Kh (mul_made x y);have hA:=blk3a w #[Value.bool (sg x),Value.string (E x.natAbs)] #[Value.bool (sg y),Value.string (E y.natAbs)] #[Value.bool false,Value.string { data:=#[] }] 28 28 28;have hB:=blk3b w #[Value.bool (sg x),Value.string (E x.natAbs)] #[Value.bool (sg y),Value.string (E y.natAbs)] #[Value.bool false,Value.string { data:=#[] }] 28 28 28;have hC:=blk3c w #[Value.bool (sg x),Value.string (E x.natAbs)] #[Value.bool (sg y),Value.string (E y.natAbs)] #[Value.bool false,Value.string { data:=#[] }] 28 28 28;go_enter Tryz.func54,Tryz.ntmps54
 go_wp2_with fail
 refine (iboth_c x y _ (lt128 HX.out) (lt128 HY.out)).mono ?_;rintro e w1 ⟨rfl,hj⟩;replace hA:=hA.after hj;replace hB:=hB.after hj;replace hC:=hC.after hj;obtain⟨hb,hc,hd,he⟩:=hA.x2;obtain⟨hf,hg,hh,hi⟩:=hB.x2;go_wp2_with fail
 refine (mul_small x.natAbs y.natAbs _ HX.out HY.out hp.out).mono ?_;rintro e w2 ⟨rfl,hk⟩;clear hb hc hd he;clear hf hg hh hi;replace hA:=hA.after hk;replace hB:=hB.after hk;replace hC:=hC.after hk;obtain⟨hb,hc,hd,he⟩:=hA.x2;obtain⟨hf,hg,hh,hi⟩:=hB.x2;go_wp2_with fail
 refine (made_c (sg x != sg y) (x.natAbs*y.natAbs) (x*y) _ (by omega) HM.out).mono ?_;rintro e w3 ⟨rfl,ho⟩;clear hb hc hd he;clear hf hg hh hi;replace hC:=hC.after ho;obtain⟨hm,hq,hn,hr⟩:=hC.x2;go_wp2;refine bodyPost_ret (v:=.tuple #[.agg #[.bool (sg (x*y)),.string (E (x*y).natAbs)],.int .i64 0]) ?_ rfl ⟨rfl,?_⟩
 ·simp[results,Tryz.results54,go_sem,hm,hn]
 ·exact ((bt (bt (bt (b3 _ _ _ _) hj) hk) ho).setCell (by simp;omega) _).setCell (by simp;omega) _
theorem blk1 (w:World) (X:Array Value) (T:TypeId):Blk (w.alloc (.cells X T)) w.heap.size T X.toList∧Bw w (w.alloc (.cells X T)):=⟨Blk.new w X T,b1 w _⟩
theorem blk2 (w:World) (X Y:Array Value) (T U:TypeId):Blk ((w.alloc (.cells X T)).alloc (.cells Y U)) w.heap.size T X.toList∧Blk ((w.alloc (.cells X T)).alloc (.cells Y U)) (w.heap.size+1) U Y.toList∧Bw w ((w.alloc (.cells X T)).alloc (.cells Y U)):=⟨blk2a w X Y T U,blk2b w X Y T U,b2 w _ _⟩
theorem blk3 (w:World) (X Y Z:Array Value) (T U V:TypeId):Blk (((w.alloc (.cells X T)).alloc (.cells Y U)).alloc (.cells Z V)) w.heap.size T X.toList∧Blk (((w.alloc (.cells X T)).alloc (.cells Y U)).alloc (.cells Z V)) (w.heap.size+1) U Y.toList∧Blk (((w.alloc (.cells X T)).alloc (.cells Y U)).alloc (.cells Z V)) (w.heap.size+2) V Z.toList∧Bw w (((w.alloc (.cells X T)).alloc (.cells Y U)).alloc (.cells Z V)):=⟨blk3a w X Y Z T U V,blk3b w X Y Z T U V,blk3c w X Y Z T U V,b3 w _ _ _⟩
end
section
open Go.RowKit
theorem add_made_same (x y:Int) (h:sg x=sg y):x+y=if sg x then -((x.natAbs+y.natAbs:Nat):Int) else ((x.natAbs+y.natAbs:Nat):Int):=by
 unfold sg at *;by_cases h1:x<0
 ·rw[Dt h1]at h ⊢;have:=of_decide_eq_true h.symm;simp;omega
 ·rw[decide_eq_false h1]at h ⊢;have:=of_decide_eq_false h.symm;simp;omega
theorem same_abs (x y:Int) (h:sg x=sg y):(x+y).natAbs=x.natAbs+y.natAbs:=by
 unfold sg at h;by_cases h1:x<0
 ·rw[Dt h1]at h;have:=of_decide_eq_true h.symm;omega
 ·rw[decide_eq_false h1]at h;have:=of_decide_eq_false h.symm;omega
theorem add_made_ge (x y:Int) (h:sg x≠sg y) (hg:y.natAbs≤x.natAbs):x+y=if sg x then -((x.natAbs-y.natAbs:Nat):Int) else ((x.natAbs-y.natAbs:Nat):Int):=by
 unfold sg at *;by_cases h1:x<0
 ·rw[Dt h1]at h ⊢;have h2:¬ y<0:=by intro h2;rw[Dt h2]at h;exact h rfl
  simp;omega
 ·rw[decide_eq_false h1]at h ⊢
  have h2:y<0:=by
   rcases Int.lt_or_le y 0 with h3 | h3
   ·exact h3
   ·rw[decide_eq_false (show ¬ y<0 by omega)]at h;exact absurd rfl h
  simp;omega
theorem add_made_lt (x y:Int) (h:sg x≠sg y) (hg:x.natAbs<y.natAbs):x+y=if sg y then -((y.natAbs-x.natAbs:Nat):Int) else ((y.natAbs-x.natAbs:Nat):Int):=by
 rw[Int.add_comm];exact add_made_ge y x (Ne.symm h) (by omega)
section
variable (x y:Int) (w:World)
theorem iadd_same (hx:x.natAbs<256^128) (hy:y.natAbs<256^128) (hb:(x+y).natAbs<256^128) (hq:sg x=sg y) :
  Calls Tryz.prog 82 #[.agg #[.bool (sg (x)),.string (E (x).natAbs)],.agg #[.bool (sg (y)),.string (E (y).natAbs)]] w fun e w'=>e=.returned (.tuple #[.agg #[.bool (sg (x+y)),.string (E (x+y).natAbs)],.int .i64 0])∧Bw w w':=by
 have HX:=Kh hx;have HY:=Kh hy;have HM:=Kh (add_made_same x y hq)
 have HS:Hid (x.natAbs+y.natAbs<256^128):=by
  rw[same_abs x y hq]at hb;exact hb
 have hs:=sz _ HS.out;have ht:(sg x==sg y)=true:=by rw[hq];simp
 clear hx hy hb hq;have hA:=blk3a w #[Value.bool (sg x),Value.string (E x.natAbs)] #[Value.bool (sg y),Value.string (E y.natAbs)] #[Value.bool false,Value.string { data:=#[] }] 28 28 28;have hB:=blk3b w #[Value.bool (sg x),Value.string (E x.natAbs)] #[Value.bool (sg y),Value.string (E y.natAbs)] #[Value.bool false,Value.string { data:=#[] }] 28 28 28;have hC:=blk3c w #[Value.bool (sg x),Value.string (E x.natAbs)] #[Value.bool (sg y),Value.string (E y.natAbs)] #[Value.bool false,Value.string { data:=#[] }] 28 28 28;go_enter Tryz.func82,Tryz.ntmps82
 go_wp2_with fail
 refine (iboth_c x y _ HX.out HY.out).mono ?_;rintro e w1 ⟨rfl,hg⟩;replace hA:=hA.after hg;replace hB:=hB.after hg;replace hC:=hC.after hg;obtain⟨hc,hd,he,hf⟩:=hA.x2;obtain⟨hh,hi,hj,hk⟩:=hB.x2;go_wp2_with fail
 refine (add_c x.natAbs y.natAbs _ HX.out HY.out HS.out).mono ?_;rintro e w2 ⟨rfl,hl⟩;clear hc hd he hf;clear hh hi hj hk;replace hA:=hA.after hl;replace hC:=hC.after hl;obtain⟨hc,hd,he,hf⟩:=hA.x2;go_wp2_with fail
 refine (made_c (sg x) (x.natAbs+y.natAbs) (x+y) _ (by omega) HM.out).mono ?_;rintro e w3 ⟨rfl,ho⟩;clear hc hd he hf;replace hC:=hC.after ho;obtain⟨hm,hp,hn,hr⟩:=hC.x2;go_wp2;refine bodyPost_ret (v:=.tuple #[.agg #[.bool (sg (x+y)),.string (E (x+y).natAbs)],.int .i64 0]) ?_ rfl ⟨rfl,?_⟩
 ·simp[results,Tryz.results82,go_sem,hm,hn]
 ·exact ((bt (bt (bt (b3 _ _ _ _) hg) hl) ho).setCell (by simp;omega) _).setCell (by simp;omega) _
theorem iadd_ge (hx:x.natAbs<256^128) (hy:y.natAbs<256^128) (hq:sg x≠sg y) (hg:y.natAbs≤x.natAbs) :
  Calls Tryz.prog 82 #[.agg #[.bool (sg (x)),.string (E (x).natAbs)],.agg #[.bool (sg (y)),.string (E (y).natAbs)]] w fun e w'=>e=.returned (.tuple #[.agg #[.bool (sg (x+y)),.string (E (x+y).natAbs)],.int .i64 0])∧Bw w w':=by
 have HX:=Kh hx;have HY:=Kh hy;have HG:=Kh hg;have HM:=Kh (add_made_ge x y hq hg);have hs:(E (x.natAbs-y.natAbs)).size≤128:=sz _ (by omega);have hu:(sg x==sg y)=false:=by rw[beq_eq_false_iff_ne];exact hq
 have hc:=cmp_nneg x.natAbs y.natAbs hg;clear hx hy hq hg;have hA:=blk3a w #[Value.bool (sg x),Value.string (E x.natAbs)] #[Value.bool (sg y),Value.string (E y.natAbs)] #[Value.bool false,Value.string { data:=#[] }] 28 28 28;have hB:=blk3b w #[Value.bool (sg x),Value.string (E x.natAbs)] #[Value.bool (sg y),Value.string (E y.natAbs)] #[Value.bool false,Value.string { data:=#[] }] 28 28 28;have hC:=blk3c w #[Value.bool (sg x),Value.string (E x.natAbs)] #[Value.bool (sg y),Value.string (E y.natAbs)] #[Value.bool false,Value.string { data:=#[] }] 28 28 28;go_enter Tryz.func82,Tryz.ntmps82
 go_wp2_with fail
 refine (iboth_c x y _ HX.out HY.out).mono ?_;rintro e w1 ⟨rfl,hh⟩;replace hA:=hA.after hh;replace hB:=hB.after hh;replace hC:=hC.after hh;obtain⟨hb,hd,he,hf⟩:=hA.x2;obtain⟨hi,hj,hk,hl⟩:=hB.x2;go_wp2_with fail
 refine (cmp_c x.natAbs y.natAbs _ HX.out HY.out).mono ?_;rintro e w' ⟨rfl,rfl⟩;go_wp2_with fail
 refine (sub_c x.natAbs y.natAbs _ HX.out HG.out).mono ?_;rintro e w2 ⟨rfl,hm⟩;clear hb hd he hf;clear hi hj hk hl;replace hA:=hA.after hm;replace hC:=hC.after hm;obtain⟨hb,hd,he,hf⟩:=hA.x2;go_wp2_with fail
 refine (made_c (sg x) (x.natAbs-y.natAbs) (x+y) _ (by omega) HM.out).mono ?_;rintro e w3 ⟨rfl,hp⟩;clear hb hd he hf;replace hC:=hC.after hp;obtain⟨hn,hr,ho,ht⟩:=hC.x2;go_wp2;refine bodyPost_ret (v:=.tuple #[.agg #[.bool (sg (x+y)),.string (E (x+y).natAbs)],.int .i64 0]) ?_ rfl ⟨rfl,?_⟩
 ·simp[results,Tryz.results82,go_sem,hn,ho]
 ·exact ((bt (bt (bt (b3 _ _ _ _) hh) hm) hp).setCell (by simp;omega) _).setCell (by simp;omega) _
theorem iadd_lt (hx:x.natAbs<256^128) (hy:y.natAbs<256^128) (hq:sg x≠sg y) (hg:x.natAbs<y.natAbs) :
  Calls Tryz.prog 82 #[.agg #[.bool (sg (x)),.string (E (x).natAbs)],.agg #[.bool (sg (y)),.string (E (y).natAbs)]] w fun e w'=>e=.returned (.tuple #[.agg #[.bool (sg (x+y)),.string (E (x+y).natAbs)],.int .i64 0])∧Bw w w':=by
 have HX:=Kh hx;have HY:=Kh hy;have HG:=Kh hg;have HM:=Kh (add_made_lt x y hq hg);have hs:(E (y.natAbs-x.natAbs)).size≤128:=sz _ (by omega);have hv:(sg x==sg y)=false:=by rw[beq_eq_false_iff_ne];exact hq
 have hc:=cmp_neg x.natAbs y.natAbs hg;clear hx hy hq hg;have hA:=blk3a w #[Value.bool (sg x),Value.string (E x.natAbs)] #[Value.bool (sg y),Value.string (E y.natAbs)] #[Value.bool false,Value.string { data:=#[] }] 28 28 28;have hB:=blk3b w #[Value.bool (sg x),Value.string (E x.natAbs)] #[Value.bool (sg y),Value.string (E y.natAbs)] #[Value.bool false,Value.string { data:=#[] }] 28 28 28;have hC:=blk3c w #[Value.bool (sg x),Value.string (E x.natAbs)] #[Value.bool (sg y),Value.string (E y.natAbs)] #[Value.bool false,Value.string { data:=#[] }] 28 28 28;go_enter Tryz.func82,Tryz.ntmps82
 go_wp2_with fail
 refine (iboth_c x y _ HX.out HY.out).mono ?_;rintro e w1 ⟨rfl,hh⟩;replace hA:=hA.after hh;replace hB:=hB.after hh;replace hC:=hC.after hh;obtain⟨hb,hd,he,hf⟩:=hA.x2;obtain⟨hi,hj,hk,hl⟩:=hB.x2;go_wp2_with fail
 refine (cmp_c x.natAbs y.natAbs _ HX.out HY.out).mono ?_;rintro e w' ⟨rfl,rfl⟩;go_wp2_with fail
 refine (sub_c y.natAbs x.natAbs _ HY.out (Nat.le_of_lt HG.out)).mono ?_;rintro e w2 ⟨rfl,hm⟩;have hr:=(((bt (b3 _ _ _ _) hh).setCell (p:=⟨w.heap.size,0,none⟩) (Nat.le_refl _) (Value.bool (sg y))).setCell (p:=⟨w.heap.size,1,none⟩) (Nat.le_refl _) (Value.string (E y.natAbs))).setCell (p:=⟨w.heap.size+1,0,none⟩) (by simp) (Value.bool (sg x)) |>.setCell (p:=⟨w.heap.size+1,1,none⟩) (by simp) (Value.string (E x.natAbs));clear hb hd he hf;clear hi hj hk hl;replace hA:=(((hA.set 0 (Value.bool (sg y))).set 1 (Value.string (E y.natAbs))).other ⟨w.heap.size+1,0,none⟩ (Value.bool (sg x)) (by simp)).other ⟨w.heap.size+1,1,none⟩ (Value.string (E x.natAbs)) (by simp);replace hC:=(((hC.other ⟨w.heap.size,0,none⟩ (Value.bool (sg y)) (by simp)).other ⟨w.heap.size,1,none⟩ (Value.string (E y.natAbs)) (by simp)).other ⟨w.heap.size+1,0,none⟩ (Value.bool (sg x)) (by simp)).other ⟨w.heap.size+1,1,none⟩ (Value.string (E x.natAbs)) (by simp);replace hA:=hA.after hm;replace hC:=hC.after hm;obtain⟨hb,hd,he,hf⟩:=hA.x2;go_wp2_with fail
 refine (made_c (sg y) (y.natAbs-x.natAbs) (x+y) _ (by omega) HM.out).mono ?_;rintro e w3 ⟨rfl,hp⟩;clear hb hd he hf;replace hC:=hC.after hp;obtain⟨hn,ht,ho,hu⟩:=hC.x2;go_wp2;refine bodyPost_ret (v:=.tuple #[.agg #[.bool (sg (x+y)),.string (E (x+y).natAbs)],.int .i64 0]) ?_ rfl ⟨rfl,?_⟩
 ·simp[results,Tryz.results82,go_sem,hn,ho]
 ·exact ((bt (bt hr hm) hp).setCell (by simp;omega) _).setCell (by simp;omega) _
theorem iadd_c (hx:x.natAbs<256^128) (hy:y.natAbs<256^128) (hb:(x+y).natAbs<256^128) :
  Calls Tryz.prog 82 #[.agg #[.bool (sg (x)),.string (E (x).natAbs)],.agg #[.bool (sg (y)),.string (E (y).natAbs)]] w fun e w'=>e=.returned (.tuple #[.agg #[.bool (sg (x+y)),.string (E (x+y).natAbs)],.int .i64 0])∧Bw w w':=by
 by_cases hq:sg x=sg y
 ·exact iadd_same x y w hx hy hb hq
 ·rcases Nat.lt_or_ge x.natAbs y.natAbs with h | h
  ·exact iadd_lt x y w hx hy hq h
  ·exact iadd_ge x y w hx hy hq h
end
end
section
open Go.RowKit
theorem Blk.drew {w:World} {g:Nat} {T:TypeId} {cs:List Value} (h:Blk w g T cs):Blk w.drew g T cs:=h
section
variable (x y:Int) (w:World)
theorem inegS_c (z:Int) (w:World) (hz:z.natAbs<256^128) :
  Calls Tryz.prog 63 #[.agg #[.bool (sg (z)),.string (E (z).natAbs)]] w fun e w'=>e=.returned (.agg #[.bool (sg (-z)),.string (E z.natAbs)])∧Bw w w':=by
 have:=ineg_c z w hz;rwa [Int.natAbs_neg]at this
theorem iaddN_c (hx:x.natAbs<256^128) (hy:y.natAbs<256^128) (hd:(x-y).natAbs<256^128) :
  Calls Tryz.prog 82 #[.agg #[.bool (sg (x)),.string (E (x).natAbs)],.agg #[.bool (sg (-y)),.string (E y.natAbs)]] w fun e w'=>e=.returned (.tuple #[.agg #[.bool (sg (x-y)),.string (E (x-y).natAbs)],.int .i64 0])∧Bw w w':=by
 have:=iadd_c x (-y) w hx (by rw[Int.natAbs_neg];exact hy) (by rw[←Int.sub_eq_add_neg];exact hd);rwa [Int.natAbs_neg,←Int.sub_eq_add_neg]at this
theorem isub_c (hx:x.natAbs<256^128) (hy:y.natAbs<256^128) (hd:(x-y).natAbs<256^128) :
  Calls Tryz.prog 48 #[.agg #[.bool (sg (x)),.string (E (x).natAbs)],.agg #[.bool (sg (y)),.string (E (y).natAbs)]] w fun e w'=>e=.returned (.tuple #[.agg #[.bool (sg (x-y)),.string (E (x-y).natAbs)],.int .i64 0])∧Bw w w':=by
 have HX:=Kh hx;have HY:=Kh hy;have hv:Hid ((-y).natAbs<256^128):=by unfold Hid;rw[Int.natAbs_neg];exact hy
 have HD:=Kh hd;clear hx hy hd;have hA:=blk3a w #[Value.bool (sg x),Value.string (E x.natAbs)] #[Value.bool (sg y),Value.string (E y.natAbs)] #[Value.bool false,Value.string { data:=#[] }] 28 28 28;have hB:=blk3b w #[Value.bool (sg x),Value.string (E x.natAbs)] #[Value.bool (sg y),Value.string (E y.natAbs)] #[Value.bool false,Value.string { data:=#[] }] 28 28 28;have hC:=blk3c w #[Value.bool (sg x),Value.string (E x.natAbs)] #[Value.bool (sg y),Value.string (E y.natAbs)] #[Value.bool false,Value.string { data:=#[] }] 28 28 28;go_enter Tryz.func48,Tryz.ntmps48
 go_wp2_with fail
 refine (iboth_c x y _ HX.out HY.out).mono ?_;rintro e w1 ⟨rfl,hb⟩;replace hA:=hA.after hb;replace hB:=hB.after hb;replace hC:=hC.after hb;obtain⟨hh,hi,hj,hk⟩:=hA.x2;obtain⟨hl,hm,hn,ho⟩:=hB.x2;obtain⟨hp,hq,hr,ht⟩:=hC.x2;go_wp2_with fail
 go_region_with (first | (go_at_call 63;refine (inegS_c y _ HY.out).mono ?_;rintro e w2 ⟨rfl,he⟩;have hf:=hA.drew.after he;have hu:=hC.drew.after he;have c0:=hf.cell 0;have c1:=hf.cell 1) | (go_at_call 82;refine (iaddN_c x y _ HX.out HY.out HD.out).mono ?_;rintro e w3 ⟨rfl,hg⟩;have hc:=hu.after hg;have d0:=hc.cell 0;have d1:=hc.cell 1;have g0:=hc.free 0;have g1:=hc.free 1))
 all_goals go_wp2
 all_goals
  refine bodyPost_ret (v:=.tuple #[.agg #[.bool (sg (x-y)),.string (E (x-y).natAbs)],.int .i64 0]) ?_ rfl ⟨rfl,?_⟩
  ·simp[results,Tryz.results48,go_sem,d0,d1]
  ·exact ((bt (bt (bt (b3 _ _ _ _) hb).drew he) hg).setCell (by simp;omega) _).setCell (by simp;omega) _
end
theorem emod_neg (z:Int) (m:Nat) (h:z<0) (hr:z.natAbs%m≠0) (hm:0<m):(z%(m:Int)).toNat=m-z.natAbs%m:=by
 have e:z=-(z.natAbs:Int):=by omega
 have h1:(z.natAbs%m:Nat)<m:=Nat.mod_lt _ hm
 have h2:(z.natAbs:Int)=(m:Int)*(z.natAbs / m:Nat)+(z.natAbs%m:Nat):=by
  have:=Nat.div_add_mod z.natAbs m;omega
 have h3:z=((m-z.natAbs%m:Nat):Int)+(m:Int)*(-(z.natAbs / m:Nat)-1):=by
  rw[Int.mul_sub,Int.mul_neg,Int.mul_one];omega
 have h4:z%(m:Int)=((m-z.natAbs%m:Nat):Int):=by
  conv=>lhs;rw[h3]
  rw[Int.add_mul_emod_self_left,Int.emod_eq_of_lt (by omega) (by omega)]
 rw[h4];omega
theorem emod_neg0 (z:Int) (m:Nat) (h:z<0) (hr:z.natAbs%m=0):(z%(m:Int)).toNat=0:=by
 have h1:(m:Int)∣z:=by
  rw[Int.ofNat_dvd_left];exact Nat.dvd_of_mod_eq_zero hr
 rw[Int.emod_eq_zero_of_dvd h1];rfl
theorem emod_pos (z:Int) (m:Nat) (h:0≤z):(z%(m:Int)).toNat=z.natAbs%m:=by
 have e:z=(z.natAbs:Int):=by omega
 conv=>lhs;rw[e]
 rw[←Int.natCast_emod];omega
theorem ivalidT_c (b:Bool) (n:Nat) (w:World) (hn:n<256^128) (h:ivB b (E n)=true) :
  Calls Tryz.prog 75 #[.agg #[.bool b,.string (E n)]] w fun e w'=>e=.returned (.bool true)∧Bw w w':=by
 have:=ivalid_c b (E n) w (by have:=sz n hn;omega);rw[h]at this;exact this
theorem emod_if (z:Int) (m:Nat) (hm:0<m):(z%(m:Int)).toNat=if sg z=true∧z.natAbs%m≠0 then m-z.natAbs%m else z.natAbs%m:=by
 by_cases h:z<0
 ·rw[sg_of_neg h];by_cases hr:z.natAbs%m=0
  ·rw[emod_neg0 z m h hr,if_neg (fun h=>h.2 hr),hr]
  ·rw[emod_neg z m h hr hm,if_pos ⟨rfl,hr⟩]
 ·rw[sg_of_nonneg (by omega),emod_pos z m (by omega),if_neg (fun h=>Bool.noConfusion h.1)]
end
end Go.Proofs.YtdgddpnjkinciaaGreatDoor
