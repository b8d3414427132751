/- dominoref14.Commit. -/
import Derived.Test.YtdoacbdkbbpamaaGreatDoorPpU24K
import Derived.Test.YtdoacbdkbbpamaaGreatDoorLck6
import Derived.Deep.RegionHeld3
import Derived.Deep.DrawnRows
import Derived.Test.YtdoacbdkbbpamaaGreatDoorRPed1
import Derived.Test.YtdoacbdkbbpamaaGreatDoorImg1
import Derived.Test.YtdoacbdkbbpamaaGreatDoorFwx24
set_option linter.unusedVariables false
set_option linter.unusedSimpArgs false
set_option maxRecDepth 100000
set_option maxHeartbeats 16000000
namespace Go.Proofs.YtdoacbdkbbpamaaGreatDoor
section
open Go.RowKit
theorem ints2x {w:World} {b:Nat} {x y:Int} {T:TypeId} (h:Blk w b T [.bool (sg x),.string (E x.natAbs),.bool (sg y),.string (E y.natAbs)]):IntsAt w b [x,y]:=by
 refine ⟨h.lt,fun j hj=>?_⟩;match j,hj with
 | 0,_=>exact ⟨h.cell 0,h.cell 1⟩
 | 1,_=>exact ⟨h.cell 2,h.cell 3⟩
theorem ivalX_c (n:Bool) (s:ByteArray) (b:Bool) (w:World) (hs:s.size≤1000) (h:ivB n s=b):Calls Tryz.prog 58 #[.agg #[.bool n,.string s]] w fun e w'=>e=.returned (.bool b)∧Below w.heap.size w w':=by
 rw [←h];exact ivalid_c n s w (by omega)
def opn (m r:Int):Value:=.agg #[.bool (sg m),.string (E m.natAbs),.bool (sg r),.string (E r.natAbs)]
theorem pvalidB_c (a b:Bool) (s t:ByteArray) (w:World) (hs:s.size≤1000) (ht:t.size≤1000) :
  Calls Tryz.prog 71 #[.agg #[.bool a,.string s,.bool b,.string t]] w fun e w'=>e=.returned (.bool (ivB a s&&ivB b t))∧Below w.heap.size w w':=by
 obtain ⟨r1,hr1⟩:∃r1,ivB a s=r1:=⟨_,rfl⟩;obtain ⟨r2,hr2⟩:∃r2,ivB b t=r2:=⟨_,rfl⟩;rw [hr1,hr2];have H1:Hid (∀w,Calls Tryz.prog 58 #[.agg #[.bool a,.string s]] w fun e w'=>e=.returned (.bool r1)∧Below w.heap.size w w'):=fun w=>ivalX_c a s r1 w hs hr1
 have H2:Hid (∀w,Calls Tryz.prog 58 #[.agg #[.bool b,.string t]] w fun e w'=>e=.returned (.bool r2)∧Below w.heap.size w w'):=fun w=>ivalX_c b t r2 w ht hr2
 have hB:=Blk.new w #[Value.bool a,Value.string s,Value.bool b,Value.string t] 39;have hBW:=b1 w (.cells #[Value.bool a,Value.string s,Value.bool b,Value.string t] 39);clear hs ht hr1 hr2;cases r1
 ·
  obtain ⟨hBc0,hBf0,hBc1,hBf1,hBc2,hBf2,hBc3,hBf3⟩:=hB.x4;go_enter Tryz.func71,Tryz.ntmps71
  go_wp2_with fail
  refine (H1.out _).mono ?_;rintro e w1 ⟨rfl,hb1⟩;go_wp2;go_ret
  exact ⟨rfl,bt hBW hb1⟩
 ·
  obtain ⟨hBc0,hBf0,hBc1,hBf1,hBc2,hBf2,hBc3,hBf3⟩:=hB.x4;go_enter Tryz.func71,Tryz.ntmps71
  go_wp2_with fail
  refine (H1.out _).mono ?_;rintro e w1 ⟨rfl,hb1⟩;clear hBc0 hBf0 hBc1 hBf1 hBc2 hBf2 hBc3 hBf3;replace hB:=hB.after hb1;replace hBW:=bt hBW hb1;obtain ⟨hBc0,hBf0,hBc1,hBf1,hBc2,hBf2,hBc3,hBf3⟩:=hB.x4;go_wp2_with fail
  refine (H2.out _).mono ?_;rintro e w2 ⟨rfl,hb2⟩;go_wp2;go_ret
  exact ⟨by cases r2 <;> rfl,bt hBW hb2⟩
theorem pvalidI_c (m r:Int) (w:World) (hm:m.natAbs<256^128) (hr:r.natAbs<256^128) :
  Calls Tryz.prog 71 #[opn m r] w fun e w'=>e=.returned (.bool true)∧Below w.heap.size w w':=by
 have:=pvalidB_c (sg m) (sg r) (E m.natAbs) (E r.natAbs) w (sz1000 hm) (sz1000 hr);rw [ivB_I m hm,ivB_I r hr] at this;exact this
def cmtN (p g h:Nat) (m r:Int):Nat:=pw (prs p [g,h] [m,r]) 0%p
theorem product3_c (p q g h:Nat) (m r:Int) (bl bz:Nat) (w:World) (hp:p<256^8) (hq:q<256^128) (he:grpE p q=0) (hg:hasB p q g=true) (hh:hasB p q h=true) (hm:m.natAbs<256^128) (hr:r.natAbs<256^128)
  (hL:Blk w bl 31 [.string (E g),.string (E h)]) (hZ:Blk w bz 37 [.bool (sg m),.string (E m.natAbs),.bool (sg r),.string (E r.natAbs)]) :
  Calls Tryz.prog 72 #[.agg #[.string (E p),.string (E q)],.slice (some ⟨bl,0,none⟩) 2 2,.slice (some ⟨bz,0,none⟩) 2 2] w fun e w'=>e=.returned (.tuple #[.string (E (cmtN p g h m r)),.int .i64 0])∧Below w.heap.size w w':=
 product_c p q bl bz 2 2 2 [g,h] [m,r] w hp hq he rfl rfl (by omega) (by omega) (by omega) (by omega) (by omega)
  (by intro x hx;simp at hx;rcases hx with rfl | rfl <;> assumption) (by intro y hy;simp at hy;rcases hy with rfl | rfl <;> assumption) (nats2 hL) (ints2x hZ)
theorem commit_c (p q g h:Nat) (m r:Int) (w:World) (hp:p<256^8) (hq:q<256^128) (hgb:g<256^128) (hhb:h<256^128) (hm:m.natAbs<256^128) (hr:r.natAbs<256^128)
  (he:pedE p q g h=0) (hg:hasB p q g=true) (hh:hasB p q h=true) :
  Calls Tryz.prog 38 #[.agg #[.string (E p),.string (E q),.string (E g),.string (E h)],opn m r] w fun e w'=>e=.returned (.tuple #[.string (E (cmtN p g h m r)),.int .i64 0])∧Below w.heap.size w w':=by
 unfold opn;have HF:=Lib.hid (fun w=>pformedV_c (E p) (E q) (E g) (E h) true w (sz1000 (lt128 hp)) (sz1000 hq) (sz1000 hgb) (sz1000 hhb) (vl4_E (lt128 hp) hq hgb hhb));have HPC:=Lib.hid (fun w=>pedcheckV_c p q g h 0 w hp hq hgb hhb he);have HV:Hid (∀w,Calls Tryz.prog 71 #[.agg #[.bool (sg m),.string (E m.natAbs),.bool (sg r),.string (E r.natAbs)]] w fun e w'=>e=.returned (.bool true)∧Below w.heap.size w w'):=fun w=>pvalidI_c m r w hm hr
 have HPR:=Lib.hid (fun bl bz w=>product3_c p q g h m r bl bz w hp hq (pedE_grp he) hg hh hm hr);have hB:=blk2a w #[Value.string (E p),Value.string (E q),Value.string (E g),Value.string (E h)] #[.bool (sg m),.string (E m.natAbs),.bool (sg r),.string (E r.natAbs)] 35 39;have hI:=blk2b w #[Value.string (E p),Value.string (E q),Value.string (E g),Value.string (E h)] #[.bool (sg m),.string (E m.natAbs),.bool (sg r),.string (E r.natAbs)] 35 39;have hBW:=b2 w (.cells #[Value.string (E p),Value.string (E q),Value.string (E g),Value.string (E h)] 35) (.cells #[.bool (sg m),.string (E m.natAbs),.bool (sg r),.string (E r.natAbs)] 39);clear hp hq hgb hhb hm hr he hg hh;obtain ⟨hBc0,hBf0,hBc1,hBf1,hBc2,hBf2,hBc3,hBf3⟩:=hB.x4;obtain ⟨hIc0,hIf0,hIc1,hIf1,hIc2,hIf2,hIc3,hIf3⟩:=hI.x4;go_enter Tryz.func38,Tryz.ntmps38
 go_wp2_with fail
 refine (HF.out _).mono ?_;rintro e w1 ⟨rfl,hb1⟩;clear hBc0 hBf0 hBc1 hBf1 hBc2 hBf2 hBc3 hBf3;clear hIc0 hIf0 hIc1 hIf1 hIc2 hIf2 hIc3 hIf3;replace hB:=hB.after hb1;replace hI:=hI.after hb1;replace hBW:=bt hBW hb1;obtain ⟨hBc0,hBf0,hBc1,hBf1,hBc2,hBf2,hBc3,hBf3⟩:=hB.x4;obtain ⟨hIc0,hIf0,hIc1,hIf1,hIc2,hIf2,hIc3,hIf3⟩:=hI.x4;go_wp2_with fail
 refine (HV.out _).mono ?_;rintro e w2 ⟨rfl,hb2⟩;clear hBc0 hBf0 hBc1 hBf1 hBc2 hBf2 hBc3 hBf3;clear hIc0 hIf0 hIc1 hIf1 hIc2 hIf2 hIc3 hIf3;replace hB:=hB.after hb2;replace hI:=hI.after hb2;replace hBW:=bt hBW hb2;obtain ⟨hBc0,hBf0,hBc1,hBf1,hBc2,hBf2,hBc3,hBf3⟩:=hB.x4;obtain ⟨hIc0,hIf0,hIc1,hIf1,hIc2,hIf2,hIc3,hIf3⟩:=hI.x4;go_wp2_with fail
 refine (HPC.out _).mono ?_;rintro e w3 ⟨rfl,hb3⟩;clear hBc0 hBf0 hBc1 hBf1 hBc2 hBf2 hBc3 hBf3;clear hIc0 hIf0 hIc1 hIf1 hIc2 hIf2 hIc3 hIf3;replace hB:=hB.after hb3;replace hI:=hI.after hb3;replace hBW:=bt hBW hb3;obtain ⟨hBc0,hBf0,hBc1,hBf1,hBc2,hBf2,hBc3,hBf3⟩:=hB.x4;obtain ⟨hIc0,hIf0,hIc1,hIf1,hIc2,hIf2,hIc3,hIf3⟩:=hI.x4;clear hb1 hb2 hb3;have hl3:w.heap.size<w3.heap.size:=hB.lt;have hl3':w.heap.size+1<w3.heap.size:=hI.lt;go_wp2_with fail
 refine (HPR.out _ _ _ (blk2a _ _ _ _ _) (blk2b _ _ _ _ _)).mono ?_;rintro e wd ⟨rfl,hbd⟩;go_wp2;go_ret2
 exact ⟨rfl,bt (ba (ba hBW _) _) hbd⟩
end
section
open Go.RowKit Go.Shelf
theorem r14validB_c (a b:Bool) (s t:ByteArray) (w:World) (hs:s.size≤1000) (ht:t.size≤1000) :
  Calls Tryz.prog 143 #[.agg #[.bool a,.string s,.bool b,.string t]] w fun e w'=>e=.returned (.bool (ivB a s&&ivB b t))∧Below w.heap.size w w':=by
 obtain ⟨r1,hr1⟩:∃r1,ivB a s=r1:=⟨_,rfl⟩;obtain ⟨r2,hr2⟩:∃r2,ivB b t=r2:=⟨_,rfl⟩;rw [hr1,hr2];have H1:Hid (∀w,Calls Tryz.prog 41 #[.agg #[.bool a,.string s]] w fun e w'=>e=.returned (.bool r1)∧Below w.heap.size w w'):=fun w=>rivalB_c a s r1 w hs hr1
 have H2:Hid (∀w,Calls Tryz.prog 41 #[.agg #[.bool b,.string t]] w fun e w'=>e=.returned (.bool r2)∧Below w.heap.size w w'):=fun w=>rivalB_c b t r2 w ht hr2
 have hB:=Blk.new w #[Value.bool a,Value.string s,Value.bool b,Value.string t] 39;have hBW:=b1 w (.cells #[Value.bool a,Value.string s,Value.bool b,Value.string t] 39);clear hs ht hr1 hr2;cases r1
 ·
  obtain ⟨hBc0,hBf0,hBc1,hBf1,hBc2,hBf2,hBc3,hBf3⟩:=hB.x4;go_enter Tryz.func143,Tryz.ntmps143
  go_wp2_with fail
  refine (H1.out _).mono ?_;rintro e w1 ⟨rfl,hb1⟩;go_wp2;go_ret
  exact ⟨rfl,bt hBW hb1⟩
 ·
  obtain ⟨hBc0,hBf0,hBc1,hBf1,hBc2,hBf2,hBc3,hBf3⟩:=hB.x4;go_enter Tryz.func143,Tryz.ntmps143
  go_wp2_with fail
  refine (H1.out _).mono ?_;rintro e w1 ⟨rfl,hb1⟩;clear hBc0 hBf0 hBc1 hBf1 hBc2 hBf2 hBc3 hBf3;replace hB:=hB.after hb1;replace hBW:=bt hBW hb1;obtain ⟨hBc0,hBf0,hBc1,hBf1,hBc2,hBf2,hBc3,hBf3⟩:=hB.x4;go_wp2_with fail
  refine (H2.out _).mono ?_;rintro e w2 ⟨rfl,hb2⟩;go_wp2;go_ret
  exact ⟨by cases r2 <;> rfl,bt hBW hb2⟩
theorem r14validI_c (m r:Int) (w:World) (hm:m.natAbs<256^128) (hr:r.natAbs<256^128) :
  Calls Tryz.prog 143 #[opn m r] w fun e w'=>e=.returned (.bool true)∧Below w.heap.size w w':=by
 have:=r14validB_c (sg m) (sg r) (E m.natAbs) (E r.natAbs) w (sz1000 hm) (sz1000 hr);rw [ivB_I m hm,ivB_I r hr] at this;exact this
theorem rproduct3_c (p q g h:Nat) (m r:Int) (bl bz:Nat) (w:World) (hp:p<256^8) (hq:q<256^128) (he:grpE p q=0) (hg:hasB p q g=true) (hh:hasB p q h=true) (hm:m.natAbs<256^128) (hr:r.natAbs<256^128)
  (hL:Blk w bl 31 [.string (E g),.string (E h)]) (hZ:Blk w bz 37 [.bool (sg m),.string (E m.natAbs),.bool (sg r),.string (E r.natAbs)]) :
  Calls Tryz.prog 144 #[.agg #[.string (E p),.string (E q)],.slice (some ⟨bl,0,none⟩) 2 2,.slice (some ⟨bz,0,none⟩) 2 2] w fun e w'=>e=.returned (.tuple #[.string (E (cmtN p g h m r)),.int .i64 0])∧Below w.heap.size w w':=
 rproduct_c p q [g,h] [m,r] _ _ w hp hq he rfl (by simp) (by intro x hx;simp at hx;rcases hx with rfl | rfl <;> assumption) (by intro y hy;simp at hy;rcases hy with rfl | rfl <;> assumption)
  (NOwn.ss (own_blk hL rfl (by decide))) (ZOwn.zs (own_blk hZ rfl (by decide)))
theorem r14commit_c (p q g h:Nat) (m r:Int) (w:World) (hp:p<256^8) (hq:q<256^128) (hgb:g<256^128) (hhb:h<256^128) (hm:m.natAbs<256^128) (hr:r.natAbs<256^128)
  (he:pedE p q g h=0) (hg:hasB p q g=true) (hh:hasB p q h=true) :
  Calls Tryz.prog 121 #[.agg #[.string (E p),.string (E q),.string (E g),.string (E h)],opn m r] w fun e w'=>e=.returned (.tuple #[.string (E (cmtN p g h m r)),.int .i64 0])∧Below w.heap.size w w':=by
 unfold opn;have HF:=Lib.hid (fun w=>rpformV_c (E p) (E q) (E g) (E h) true w (sz1000 (lt128 hp)) (sz1000 hq) (sz1000 hgb) (sz1000 hhb) (vl4_E (lt128 hp) hq hgb hhb));have HPC:=Lib.hid (fun w=>rpedcheckV_c p q g h 0 w hp hq hgb hhb he);have HV:Hid (∀w,Calls Tryz.prog 143 #[.agg #[.bool (sg m),.string (E m.natAbs),.bool (sg r),.string (E r.natAbs)]] w fun e w'=>e=.returned (.bool true)∧Below w.heap.size w w'):=fun w=>r14validI_c m r w hm hr
 have HPR:=Lib.hid (fun bl bz w=>rproduct3_c p q g h m r bl bz w hp hq (pedE_grp he) hg hh hm hr);have hB:=blk2a w #[Value.string (E p),Value.string (E q),Value.string (E g),Value.string (E h)] #[.bool (sg m),.string (E m.natAbs),.bool (sg r),.string (E r.natAbs)] 35 39;have hI:=blk2b w #[Value.string (E p),Value.string (E q),Value.string (E g),Value.string (E h)] #[.bool (sg m),.string (E m.natAbs),.bool (sg r),.string (E r.natAbs)] 35 39;have hBW:=b2 w (.cells #[Value.string (E p),Value.string (E q),Value.string (E g),Value.string (E h)] 35) (.cells #[.bool (sg m),.string (E m.natAbs),.bool (sg r),.string (E r.natAbs)] 39);clear hp hq hgb hhb hm hr he hg hh;obtain ⟨hBc0,hBf0,hBc1,hBf1,hBc2,hBf2,hBc3,hBf3⟩:=hB.x4;obtain ⟨hIc0,hIf0,hIc1,hIf1,hIc2,hIf2,hIc3,hIf3⟩:=hI.x4;go_enter Tryz.func121,Tryz.ntmps121
 go_wp2_with fail
 refine (HF.out _).mono ?_;rintro e w1 ⟨rfl,hb1⟩;clear hBc0 hBf0 hBc1 hBf1 hBc2 hBf2 hBc3 hBf3;clear hIc0 hIf0 hIc1 hIf1 hIc2 hIf2 hIc3 hIf3;replace hB:=hB.after hb1;replace hI:=hI.after hb1;replace hBW:=bt hBW hb1;obtain ⟨hBc0,hBf0,hBc1,hBf1,hBc2,hBf2,hBc3,hBf3⟩:=hB.x4;obtain ⟨hIc0,hIf0,hIc1,hIf1,hIc2,hIf2,hIc3,hIf3⟩:=hI.x4;go_wp2_with fail
 refine (HV.out _).mono ?_;rintro e w2 ⟨rfl,hb2⟩;clear hBc0 hBf0 hBc1 hBf1 hBc2 hBf2 hBc3 hBf3;clear hIc0 hIf0 hIc1 hIf1 hIc2 hIf2 hIc3 hIf3;replace hB:=hB.after hb2;replace hI:=hI.after hb2;replace hBW:=bt hBW hb2;obtain ⟨hBc0,hBf0,hBc1,hBf1,hBc2,hBf2,hBc3,hBf3⟩:=hB.x4;obtain ⟨hIc0,hIf0,hIc1,hIf1,hIc2,hIf2,hIc3,hIf3⟩:=hI.x4;go_wp2_with fail
 refine (HPC.out _).mono ?_;rintro e w3 ⟨rfl,hb3⟩;clear hBc0 hBf0 hBc1 hBf1 hBc2 hBf2 hBc3 hBf3;clear hIc0 hIf0 hIc1 hIf1 hIc2 hIf2 hIc3 hIf3;replace hB:=hB.after hb3;replace hI:=hI.after hb3;replace hBW:=bt hBW hb3;obtain ⟨hBc0,hBf0,hBc1,hBf1,hBc2,hBf2,hBc3,hBf3⟩:=hB.x4;obtain ⟨hIc0,hIf0,hIc1,hIf1,hIc2,hIf2,hIc3,hIf3⟩:=hI.x4;clear hb1 hb2 hb3;have hl3:w.heap.size<w3.heap.size:=hB.lt;have hl3':w.heap.size+1<w3.heap.size:=hI.lt;go_wp2_with fail
 refine (HPR.out _ _ _ (blk2a _ _ _ _ _) (blk2b _ _ _ _ _)).mono ?_;rintro e wd ⟨rfl,hbd⟩;go_wp2;go_ret2
 exact ⟨rfl,bt (ba (ba hBW _) _) hbd⟩
end
end Go.Proofs.YtdoacbdkbbpamaaGreatDoor
