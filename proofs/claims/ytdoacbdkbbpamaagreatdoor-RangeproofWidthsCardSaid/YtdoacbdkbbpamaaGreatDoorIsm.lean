/- integer.Small at any integer. -/
import Derived.Test.YtdoacbdkbbpamaaGreatDoorMod16
import Derived.Test.YtdoacbdkbbpamaaGreatDoorLck6
import Derived.Deep.RegionHeld3
import Derived.Deep.DrawnRows
import Derived.Test.YtdoacbdkbbpamaaGreatDoorSqr
import Derived.Test.YtdoacbdkbbpamaaGreatDoorRinc
import Derived.Test.YtdoacbdkbbpamaaGreatDoorFs5
set_option linter.unusedVariables false
set_option linter.unusedSimpArgs false
set_option maxRecDepth 100000
set_option maxHeartbeats 16000000
namespace Go.Proofs.YtdoacbdkbbpamaaGreatDoor
section
open Go.RowKit
theorem ints2x {w:World} {b:Nat} {x y:Int} {T:TypeId} (h:Blk w b T [.bool (sg x),.string (E x.natAbs),.bool (sg y),.string (E y.natAbs)]):IntsAt w b [x,y]:=by
 refine ⟨h.lt,fun j hj=>?_⟩;match j,hj with
 | 0,_=>exact ⟨h.cell 0,h.cell 1⟩
 | 1,_=>exact ⟨h.cell 2,h.cell 3⟩
theorem ivalX_c (n:Bool) (s:ByteArray) (b:Bool) (w:World) (hs:s.size≤1000) (h:ivB n s=b):Calls Tryz.prog 58 #[.agg #[.bool n,.string s]] w fun e w'=>e=.returned (.bool b)∧Below w.heap.size w w':=by
 rw [←h];exact ivalid_c n s w (by omega)
def opn (m r:Int):Value:=.agg #[.bool (sg m),.string (E m.natAbs),.bool (sg r),.string (E r.natAbs)]
theorem pvalidB_c (a b:Bool) (s t:ByteArray) (w:World) (hs:s.size≤1000) (ht:t.size≤1000) :
  Calls Tryz.prog 71 #[.agg #[.bool a,.string s,.bool b,.string t]] w fun e w'=>e=.returned (.bool (ivB a s&&ivB b t))∧Below w.heap.size w w':=by
 obtain ⟨r1,hr1⟩:∃r1,ivB a s=r1:=⟨_,rfl⟩;obtain ⟨r2,hr2⟩:∃r2,ivB b t=r2:=⟨_,rfl⟩;rw [hr1,hr2];have H1:Hid (∀w,Calls Tryz.prog 58 #[.agg #[.bool a,.string s]] w fun e w'=>e=.returned (.bool r1)∧Below w.heap.size w w'):=fun w=>ivalX_c a s r1 w hs hr1
 have H2:Hid (∀w,Calls Tryz.prog 58 #[.agg #[.bool b,.string t]] w fun e w'=>e=.returned (.bool r2)∧Below w.heap.size w w'):=fun w=>ivalX_c b t r2 w ht hr2
 have hB:=Blk.new w #[Value.bool a,Value.string s,Value.bool b,Value.string t] 39;have hBW:=b1 w (.cells #[Value.bool a,Value.string s,Value.bool b,Value.string t] 39);clear hs ht hr1 hr2;cases r1
 ·
  obtain ⟨hBc0,hBf0,hBc1,hBf1,hBc2,hBf2,hBc3,hBf3⟩:=hB.x4;go_enter Tryz.func71,Tryz.ntmps71
  go_wp2_with fail
  refine (H1.out _).mono ?_;rintro e w1 ⟨rfl,hb1⟩;go_wp2;go_ret
  exact ⟨rfl,bt hBW hb1⟩
 ·
  obtain ⟨hBc0,hBf0,hBc1,hBf1,hBc2,hBf2,hBc3,hBf3⟩:=hB.x4;go_enter Tryz.func71,Tryz.ntmps71
  go_wp2_with fail
  refine (H1.out _).mono ?_;rintro e w1 ⟨rfl,hb1⟩;clear hBc0 hBf0 hBc1 hBf1 hBc2 hBf2 hBc3 hBf3;replace hB:=hB.after hb1;replace hBW:=bt hBW hb1;obtain ⟨hBc0,hBf0,hBc1,hBf1,hBc2,hBf2,hBc3,hBf3⟩:=hB.x4;go_wp2_with fail
  refine (H2.out _).mono ?_;rintro e w2 ⟨rfl,hb2⟩;go_wp2;go_ret
  exact ⟨by cases r2 <;> rfl,bt hBW hb2⟩
theorem pvalidI_c (m r:Int) (w:World) (hm:m.natAbs<256^128) (hr:r.natAbs<256^128) :
  Calls Tryz.prog 71 #[opn m r] w fun e w'=>e=.returned (.bool true)∧Below w.heap.size w w':=by
 have:=pvalidB_c (sg m) (sg r) (E m.natAbs) (E r.natAbs) w (sz1000 hm) (sz1000 hr);rw [ivB_I m hm,ivB_I r hr] at this;exact this
def cmtN (p g h:Nat) (m r:Int):Nat:=pw (prs p [g,h] [m,r]) 0%p
theorem product3_c (p q g h:Nat) (m r:Int) (bl bz:Nat) (w:World) (hp:p<256^8) (hq:q<256^128) (he:grpE p q=0) (hg:hasB p q g=true) (hh:hasB p q h=true) (hm:m.natAbs<256^128) (hr:r.natAbs<256^128)
  (hL:Blk w bl 31 [.string (E g),.string (E h)]) (hZ:Blk w bz 37 [.bool (sg m),.string (E m.natAbs),.bool (sg r),.string (E r.natAbs)]) :
  Calls Tryz.prog 72 #[.agg #[.string (E p),.string (E q)],.slice (some ⟨bl,0,none⟩) 2 2,.slice (some ⟨bz,0,none⟩) 2 2] w fun e w'=>e=.returned (.tuple #[.string (E (cmtN p g h m r)),.int .i64 0])∧Below w.heap.size w w':=
 product_c p q bl bz 2 2 2 [g,h] [m,r] w hp hq he rfl rfl (by omega) (by omega) (by omega) (by omega) (by omega)
  (by intro x hx;simp at hx;rcases hx with rfl | rfl <;> assumption) (by intro y hy;simp at hy;rcases hy with rfl | rfl <;> assumption) (nats2 hL) (ints2x hZ)
theorem commit_c (p q g h:Nat) (m r:Int) (w:World) (hp:p<256^8) (hq:q<256^128) (hgb:g<256^128) (hhb:h<256^128) (hm:m.natAbs<256^128) (hr:r.natAbs<256^128)
  (he:pedE p q g h=0) (hg:hasB p q g=true) (hh:hasB p q h=true) :
  Calls Tryz.prog 38 #[.agg #[.string (E p),.string (E q),.string (E g),.string (E h)],opn m r] w fun e w'=>e=.returned (.tuple #[.string (E (cmtN p g h m r)),.int .i64 0])∧Below w.heap.size w w':=by
 unfold opn;have HF:=Lib.hid (fun w=>pformedV_c (E p) (E q) (E g) (E h) true w (sz1000 (lt128 hp)) (sz1000 hq) (sz1000 hgb) (sz1000 hhb) (vl4_E (lt128 hp) hq hgb hhb));have HPC:=Lib.hid (fun w=>pedcheckV_c p q g h 0 w hp hq hgb hhb he);have HV:Hid (∀w,Calls Tryz.prog 71 #[.agg #[.bool (sg m),.string (E m.natAbs),.bool (sg r),.string (E r.natAbs)]] w fun e w'=>e=.returned (.bool true)∧Below w.heap.size w w'):=fun w=>pvalidI_c m r w hm hr
 have HPR:=Lib.hid (fun bl bz w=>product3_c p q g h m r bl bz w hp hq (pedE_grp he) hg hh hm hr);have hB:=blk2a w #[Value.string (E p),Value.string (E q),Value.string (E g),Value.string (E h)] #[.bool (sg m),.string (E m.natAbs),.bool (sg r),.string (E r.natAbs)] 35 39;have hI:=blk2b w #[Value.string (E p),Value.string (E q),Value.string (E g),Value.string (E h)] #[.bool (sg m),.string (E m.natAbs),.bool (sg r),.string (E r.natAbs)] 35 39;have hBW:=b2 w (.cells #[Value.string (E p),Value.string (E q),Value.string (E g),Value.string (E h)] 35) (.cells #[.bool (sg m),.string (E m.natAbs),.bool (sg r),.string (E r.natAbs)] 39);clear hp hq hgb hhb hm hr he hg hh;obtain ⟨hBc0,hBf0,hBc1,hBf1,hBc2,hBf2,hBc3,hBf3⟩:=hB.x4;obtain ⟨hIc0,hIf0,hIc1,hIf1,hIc2,hIf2,hIc3,hIf3⟩:=hI.x4;go_enter Tryz.func38,Tryz.ntmps38
 go_wp2_with fail
 refine (HF.out _).mono ?_;rintro e w1 ⟨rfl,hb1⟩;clear hBc0 hBf0 hBc1 hBf1 hBc2 hBf2 hBc3 hBf3;clear hIc0 hIf0 hIc1 hIf1 hIc2 hIf2 hIc3 hIf3;replace hB:=hB.after hb1;replace hI:=hI.after hb1;replace hBW:=bt hBW hb1;obtain ⟨hBc0,hBf0,hBc1,hBf1,hBc2,hBf2,hBc3,hBf3⟩:=hB.x4;obtain ⟨hIc0,hIf0,hIc1,hIf1,hIc2,hIf2,hIc3,hIf3⟩:=hI.x4;go_wp2_with fail
 refine (HV.out _).mono ?_;rintro e w2 ⟨rfl,hb2⟩;clear hBc0 hBf0 hBc1 hBf1 hBc2 hBf2 hBc3 hBf3;clear hIc0 hIf0 hIc1 hIf1 hIc2 hIf2 hIc3 hIf3;replace hB:=hB.after hb2;replace hI:=hI.after hb2;replace hBW:=bt hBW hb2;obtain ⟨hBc0,hBf0,hBc1,hBf1,hBc2,hBf2,hBc3,hBf3⟩:=hB.x4;obtain ⟨hIc0,hIf0,hIc1,hIf1,hIc2,hIf2,hIc3,hIf3⟩:=hI.x4;go_wp2_with fail
 refine (HPC.out _).mono ?_;rintro e w3 ⟨rfl,hb3⟩;clear hBc0 hBf0 hBc1 hBf1 hBc2 hBf2 hBc3 hBf3;clear hIc0 hIf0 hIc1 hIf1 hIc2 hIf2 hIc3 hIf3;replace hB:=hB.after hb3;replace hI:=hI.after hb3;replace hBW:=bt hBW hb3;obtain ⟨hBc0,hBf0,hBc1,hBf1,hBc2,hBf2,hBc3,hBf3⟩:=hB.x4;obtain ⟨hIc0,hIf0,hIc1,hIf1,hIc2,hIf2,hIc3,hIf3⟩:=hI.x4;clear hb1 hb2 hb3;have hl3:w.heap.size<w3.heap.size:=hB.lt;have hl3':w.heap.size+1<w3.heap.size:=hI.lt;go_wp2_with fail
 refine (HPR.out _ _ _ (blk2a _ _ _ _ _) (blk2b _ _ _ _ _)).mono ?_;rintro e wd ⟨rfl,hbd⟩;go_wp2;go_ret2
 exact ⟨rfl,bt (ba (ba hBW _) _) hbd⟩
theorem commit_13 (p q g h:Nat) (m r:Int) (w:World) (hp:p<256^8) (hq:q<256^128) (hgb:g<256^128) (hhb:h<256^128) (hm:m.natAbs<256^128) (hr:r.natAbs<256^128)
  (he:pedE p q g h=13) :
  Calls Tryz.prog 38 #[.agg #[.string (E p),.string (E q),.string (E g),.string (E h)],opn m r] w fun e w'=>e=.returned (.tuple #[.string (E 0),.int .i64 13])∧Below w.heap.size w w':=by
 unfold opn;rw [show (E 0)=(⟨#[]⟩:ByteArray) from rfl];have HF:=Lib.hid (fun w=>pformedV_c (E p) (E q) (E g) (E h) true w (sz1000 (lt128 hp)) (sz1000 hq) (sz1000 hgb) (sz1000 hhb) (vl4_E (lt128 hp) hq hgb hhb));have HPC:=Lib.hid (fun w=>pedcheckV_c p q g h 13 w hp hq hgb hhb he);have HV:Hid (∀w,Calls Tryz.prog 71 #[.agg #[.bool (sg m),.string (E m.natAbs),.bool (sg r),.string (E r.natAbs)]] w fun e w'=>e=.returned (.bool true)∧Below w.heap.size w w'):=fun w=>pvalidI_c m r w hm hr
 have hB:=blk2a w #[Value.string (E p),Value.string (E q),Value.string (E g),Value.string (E h)] #[.bool (sg m),.string (E m.natAbs),.bool (sg r),.string (E r.natAbs)] 35 39;have hI:=blk2b w #[Value.string (E p),Value.string (E q),Value.string (E g),Value.string (E h)] #[.bool (sg m),.string (E m.natAbs),.bool (sg r),.string (E r.natAbs)] 35 39;have hBW:=b2 w (.cells #[Value.string (E p),Value.string (E q),Value.string (E g),Value.string (E h)] 35) (.cells #[.bool (sg m),.string (E m.natAbs),.bool (sg r),.string (E r.natAbs)] 39);clear hp hq hgb hhb hm hr he;obtain ⟨hBc0,hBf0,hBc1,hBf1,hBc2,hBf2,hBc3,hBf3⟩:=hB.x4;obtain ⟨hIc0,hIf0,hIc1,hIf1,hIc2,hIf2,hIc3,hIf3⟩:=hI.x4;go_enter Tryz.func38,Tryz.ntmps38
 go_wp2_with fail
 refine (HF.out _).mono ?_;rintro e w1 ⟨rfl,hb1⟩;clear hBc0 hBf0 hBc1 hBf1 hBc2 hBf2 hBc3 hBf3;clear hIc0 hIf0 hIc1 hIf1 hIc2 hIf2 hIc3 hIf3;replace hB:=hB.after hb1;replace hI:=hI.after hb1;replace hBW:=bt hBW hb1;obtain ⟨hBc0,hBf0,hBc1,hBf1,hBc2,hBf2,hBc3,hBf3⟩:=hB.x4;obtain ⟨hIc0,hIf0,hIc1,hIf1,hIc2,hIf2,hIc3,hIf3⟩:=hI.x4;go_wp2_with fail
 refine (HV.out _).mono ?_;rintro e w2 ⟨rfl,hb2⟩;clear hBc0 hBf0 hBc1 hBf1 hBc2 hBf2 hBc3 hBf3;clear hIc0 hIf0 hIc1 hIf1 hIc2 hIf2 hIc3 hIf3;replace hB:=hB.after hb2;replace hI:=hI.after hb2;replace hBW:=bt hBW hb2;obtain ⟨hBc0,hBf0,hBc1,hBf1,hBc2,hBf2,hBc3,hBf3⟩:=hB.x4;obtain ⟨hIc0,hIf0,hIc1,hIf1,hIc2,hIf2,hIc3,hIf3⟩:=hI.x4;go_wp2_with fail
 refine (HPC.out _).mono ?_;rintro e w3 ⟨rfl,hb3⟩;go_wp2;go_ret2
 exact ⟨rfl,bt hBW hb3⟩
theorem commit_bad (a b c d:ByteArray) (x y:Bool) (s t:ByteArray) (w:World) (ha:a.size≤1000) (hb:b.size≤1000) (hc:c.size≤1000) (hd:d.size≤1000) (hs:s.size≤1000) (ht:t.size≤1000)
  (hbad:(vl4 a b c d&&(ivB x s&&ivB y t))=false) :
  Calls Tryz.prog 38 #[.agg #[.string a,.string b,.string c,.string d],.agg #[.bool x,.string s,.bool y,.string t]] w fun e w'=>e=.returned (.tuple #[.string (E 0),.int .i64 3])∧Below w.heap.size w w':=by
 rw [show (E 0)=(⟨#[]⟩:ByteArray) from rfl];have HV:Hid (∀w,Calls Tryz.prog 71 #[.agg #[.bool x,.string s,.bool y,.string t]] w fun e w'=>e=.returned (.bool (ivB x s&&ivB y t))∧Below w.heap.size w w'):=fun w=>pvalidB_c x y s t w hs ht
 have hB:=blk2a w #[Value.string a,Value.string b,Value.string c,Value.string d] #[.bool x,.string s,.bool y,.string t] 35 39;have hI:=blk2b w #[Value.string a,Value.string b,Value.string c,Value.string d] #[.bool x,.string s,.bool y,.string t] 35 39;have hBW:=b2 w (.cells #[Value.string a,Value.string b,Value.string c,Value.string d] 35) (.cells #[.bool x,.string s,.bool y,.string t] 39);cases h1:vl4 a b c d
 ·have HF:=Lib.hid (fun w=>pformedV_c a b c d false w ha hb hc hd h1);clear ha hb hc hd hs ht hbad h1;obtain ⟨hBc0,hBf0,hBc1,hBf1,hBc2,hBf2,hBc3,hBf3⟩:=hB.x4;obtain ⟨hIc0,hIf0,hIc1,hIf1,hIc2,hIf2,hIc3,hIf3⟩:=hI.x4;go_enter Tryz.func38,Tryz.ntmps38
  go_wp2_with fail
  refine (HF.out _).mono ?_;rintro e w1 ⟨rfl,hb1⟩;go_wp2;go_ret2
  exact ⟨rfl,bt hBW hb1⟩
 ·have HF:=Lib.hid (fun w=>pformedV_c a b c d true w ha hb hc hd h1);rw [h1,Bool.true_and] at hbad;rw [hbad] at HV;clear ha hb hc hd hs ht hbad h1;obtain ⟨hBc0,hBf0,hBc1,hBf1,hBc2,hBf2,hBc3,hBf3⟩:=hB.x4;obtain ⟨hIc0,hIf0,hIc1,hIf1,hIc2,hIf2,hIc3,hIf3⟩:=hI.x4;go_enter Tryz.func38,Tryz.ntmps38
  go_wp2_with fail
  refine (HF.out _).mono ?_;rintro e w1 ⟨rfl,hb1⟩;clear hBc0 hBf0 hBc1 hBf1 hBc2 hBf2 hBc3 hBf3;clear hIc0 hIf0 hIc1 hIf1 hIc2 hIf2 hIc3 hIf3;replace hB:=hB.after hb1;replace hI:=hI.after hb1;replace hBW:=bt hBW hb1;obtain ⟨hBc0,hBf0,hBc1,hBf1,hBc2,hBf2,hBc3,hBf3⟩:=hB.x4;obtain ⟨hIc0,hIf0,hIc1,hIf1,hIc2,hIf2,hIc3,hIf3⟩:=hI.x4;go_wp2_with fail
  refine (HV.out _).mono ?_;rintro e w2 ⟨rfl,hb2⟩;go_wp2;go_ret2
  exact ⟨rfl,bt hBW hb2⟩
end
section
/- dominoref02.Small at any integer. -/
open Go.RowKit Go.Shelf
theorem rsm27a_c (n:Nat) (w:World) (h:n<256^8) :
  Calls Tryz.prog 40 #[.string (E n)] w fun e w'=>e=.returned (.tuple #[.int .u64 n,.bool true])∧w=w':=by
 have hs:=(E_size_le n 8).2 h;have e1:decide ((8:Int)<((E n).size:Int))=false:=decide_eq_false (by omega);have HV:Hid (∀w,Calls Tryz.prog 42 #[.string (E n)] w fun e w'=>e=.returned (.bool true)∧w=w'):=fun w=>rvalidE_c n w (Nat.lt_of_lt_of_le h (Nat.pow_le_pow_right (by decide) (by decide)))
 have HU:Hid (∀w,Calls Tryz.prog 77 #[.string (E n)] w fun e w'=>e=.returned (.int .u64 n)∧w=w'):=fun w=>ru64_c n w h
 generalize E n=s at e1 HV HU hs ⊢;clear h;go_enter Tryz.func40,Tryz.ntmps40
 go_wp2_with fail
 refine (HV.out _).mono ?_;rintro e w1 ⟨rfl,rfl⟩;go_wp2_with fail
 refine (HU.out _).mono ?_;rintro e w2 ⟨rfl,rfl⟩;go_wp2;go_ret2
 exact ⟨rfl,rfl⟩
theorem rsm27b_c (n:Nat) (w:World) (h:256^8≤n) (h2:n<256^128) :
  Calls Tryz.prog 40 #[.string (E n)] w fun e w'=>e=.returned (.tuple #[.int .u64 0,.bool false])∧w=w':=by
 have hs:8<(E n).size:=by
  apply Classical.byContradiction
  intro hn;have:=(E_size_le n 8).1 (by omega);omega
 have e1:decide ((8:Int)<((E n).size:Int))=true:=decide_eq_true (by omega);have HV:Hid (∀w,Calls Tryz.prog 42 #[.string (E n)] w fun e w'=>e=.returned (.bool true)∧w=w'):=fun w=>rvalidE_c n w h2
 generalize E n=s at e1 HV hs ⊢;clear h h2;go_enter Tryz.func40,Tryz.ntmps40
 go_wp2_with fail
 refine (HV.out _).mono ?_;rintro e w1 ⟨rfl,rfl⟩;go_wp2;go_ret2
 exact ⟨rfl,rfl⟩
def sm64 (z:Int):Int:=if -9223372036854775808≤z∧z≤9223372036854775807 then z else 0
def sm64B (z:Int):Bool:=decide (-9223372036854775808≤z∧z≤9223372036854775807)
end
section
open Go.RowKit Go.Shelf
theorem rvalidX_c (s:ByteArray) (w:World) (h1:128<s.size) (hs:s.size≤9223372036854775807) :
  Calls Tryz.prog 42 #[.string s] w fun e w'=>e=.returned (.bool false)∧w=w':=by
 go_enter Tryz.func42,Tryz.ntmps42
 go_wp2;go_ret
 exact ⟨rfl,rfl⟩
theorem rivalidX_c (b:Bool) (s:ByteArray) (w:World) (h1:128<s.size) (hs:s.size≤9223372036854775807) :
  Calls Tryz.prog 41 #[.agg #[.bool b,.string s]] w fun e w'=>e=.returned (.bool false)∧Below w.heap.size w w':=by
 go_enter Tryz.func41,Tryz.ntmps41
 go_wp2_with fail
 refine (rvalidX_c s _ h1 hs).mono ?_;rintro e w' ⟨rfl,rfl⟩;go_wp2;go_ret
 exact ⟨rfl,b1 _ _⟩
def gate27 (a b c d:ByteArray) (lo:Int) (va ra vl rd:ByteArray):Prop:=
 kfw a b c d=true∧va.size≤12∧ra.size≤12∧vl.size≤12∧rd.size≤12∧-1099511627776<lo∧lo<1099511627776
def GateP (P:Prop) (w w':World) (e:Ending):Prop:=∃r,e=.returned (.bool r)∧(r=true→P)∧Below w.heap.size w w'
theorem gateP {P:Prop} {w w':World} {e:Ending} (r:Bool) (he:e=.returned (.bool r)) (h:r=true→P) (hb:Below w.heap.size w w'):GateP P w w' e:=⟨r,he,h,hb⟩
end
section
/- dominoref23.SameOpenings and dominoref15.SameInts at equal lists of any bytes. -/
open Go.RowKit Go.Shelf
theorem sameOpn_c (Z:List Opn) (u v:Value) (w:World) (ha:Z.length≤1000) (hA:OsAt w u Z) (hB:OsAt w v Z) :
  Calls Tryz.prog 21 #[u,v] w fun e w'=>e=.returned (.bool true)∧Below w.heap.size w w':=by
 obtain ⟨a1,c1,rfl⟩:=RAt.form hA;obtain ⟨a2,c2,rfl⟩:=RAt.form hB;obtain ⟨n,hn⟩:∃n,n=Z.length:=⟨_,rfl⟩;have HN:=Lib.hid hn;rw [←hn] at hA hB ha ⊢;clear hn;have hx1:((n:Int) != (n:Int))=false:=by simp
 go_enter Tryz.func21,Tryz.ntmps21
 go_wp2;go_loopw [5] (fun i wr=>∃k:Nat,k≤n∧i=.int .i64 k∧Below w.heap.size w wr) (fun i _=>n-(intOf i).toNat)
 case atStart=>exact ⟨0,by omega,rfl,Below.refl _ _⟩
 case round =>
  obtain ⟨k,hk,rfl,hbr⟩:=hrel;obtain ⟨wp,hwp⟩:∃wp,wp=wr:=⟨_,rfl⟩;subst hwp;replace hA:=OsAt.after hA hbr;replace hB:=OsAt.after hB hbr;by_cases hlt:k<n
  ·have hkz:k<Z.length:=by rw [←HN.out];exact hlt
   obtain ⟨b,o,rfl,hbl,x1,x2,x3,x4⟩:=OsAt.at_ hA hkz;obtain ⟨b',o',rfl,hbl',y1,y2,y3,y4⟩:=OsAt.at_ hB hkz;generalize (Z[k]'hkz)=z at x1 x2 x3 x4 y1 y2 y3 y4;have h0k:(0:Int)≤(k:Int):=by omega
   have h1k:(k:Int)<(n:Int):=by omega
   have g1:=gcl (a:=⟨b,o+k*4,none⟩) hbl x1;have g2:=gcl (a:=⟨b,o+k*4+1,none⟩) hbl x2;have g3:=gcl (a:=⟨b,o+k*4+2,none⟩) hbl x3;have g4:=gcl (a:=⟨b,o+k*4+3,none⟩) hbl x4;have g5:=gcl (a:=⟨b',o'+k*4,none⟩) hbl' y1;have g6:=gcl (a:=⟨b',o'+k*4+1,none⟩) hbl' y2;have g7:=gcl (a:=⟨b',o'+k*4+2,none⟩) hbl' y3;have g8:=gcl (a:=⟨b',o'+k*4+3,none⟩) hbl' y4;go_wp2_with fail
   refine wp_region_gw (by kernel_rfl) (by kernel_rfl) ?_;repeat (go_big_quiet_step (first | (fail)))
   refine wpQuiet_nil ?_;rintro w5 ⟨xw5,rfl⟩;have hb5:=gw_below xw5;generalize gw xw5=w5 at hb5;go_wp2;go_roundw
   case rel=>exact ⟨k+1,by omega,by go_num,bt hbr hb5⟩
   case measure=>simp [intOf];omega
  ·go_wp2;go_ret
   exact ⟨rfl,hbr⟩
end
section
open Go.RowKit Go.Shelf
theorem ism_c (z:Int) (w:World) (h:z.natAbs<256^128) :
  Calls Tryz.prog 37 #[.agg #[.bool (sg (z)),.string (E (z).natAbs)]] w fun e w'=>e=.returned (.tuple #[.int .i64 (sm64 z),.bool (sm64B z)])∧Below w.heap.size w w':=by
 have HV:Hid (∀w,Calls Tryz.prog 58 #[.agg #[.bool (sg (z)),.string (E (z).natAbs)]] w fun e w'=>e=.returned (.bool true)∧Below w.heap.size w w'):=fun w=>ivalX_c (sg z) (E z.natAbs) true w (by have:=sz z.natAbs h;omega) (ivB_I z h)
 have hP:=Blk.new w #[.bool (sg z),.string (E z.natAbs)] 37;have hBW:=b1 w (.cells #[.bool (sg z),.string (E z.natAbs)] 37);obtain ⟨n,hzn⟩:∃n,n=z.natAbs:=⟨_,rfl⟩;by_cases hn:n<256^8
 ·have HS:Hid (∀w,Calls Tryz.prog 65 #[.string (E n)] w fun e w'=>e=.returned (.tuple #[.int .u64 n,.bool true])∧w=w'):=fun w=>small_c n w hn
  have hn8:n<18446744073709551616:=hn;rw [←hzn] at HV hP hBW h ⊢;by_cases hz:z<0
  ·have hb:sg z=true:=by unfold sg;exact decide_eq_true hz
   rw [hb] at HV hP hBW ⊢;by_cases hlo:n≤9223372036854775808
   ·have HZ:Hid (sm64 z=-((n:Int)-1)-1):=by rw [Hid,sm64,if_pos (by omega)];omega
    have HZB:Hid (sm64B z=true):=decide_eq_true (by omega);have e0:decide ((9223372036854775808:Int)<(n:Int))=false:=decide_eq_false (by omega)
    have HC:Hid (wrap64 (-(wrap64 (n:Int)))=-((n:Int)-1)-1):=by
     rw [Hid];by_cases h9:n=9223372036854775808
     ·subst h9;kernel_rfl
     ·rw [IntWalk.wrap64_in (n:Int) (by omega),IntWalk.wrap64_in (-(n:Int)) (by omega)];omega
    clear hn hn8 hlo h;generalize E n=s at HV HS hP hBW ⊢;clear hz hzn hb;obtain ⟨hPc0,hPf0,hPc1,hPf1⟩:=hP.x2;go_enter Tryz.func37,Tryz.ntmps37
    go_wp2_with fail
    refine (HS.out _).mono ?_;rintro e w1 ⟨rfl,rfl⟩;go_wp2_with fail
    refine (HV.out _).mono ?_;rintro e w2 ⟨rfl,hb1⟩;clear hPc0 hPf0 hPc1 hPf1;replace hP:=hP.after hb1;replace hBW:=bt hBW hb1;clear hb1;obtain ⟨hPc0,hPf0,hPc1,hPf1⟩:=hP.x2;go_wp2;go_ret2
    exact ⟨by rw [HZ.out,HZB.out,HC.out];rfl,hBW⟩
   ·have HZ:Hid (sm64 z=0):=by rw [Hid,sm64,if_neg (by omega)]
    have HZB:Hid (sm64B z=false):=decide_eq_false (by omega);have e0:decide ((9223372036854775808:Int)<(n:Int))=true:=decide_eq_true (by omega);clear hn hn8 hlo h;generalize E n=s at HV HS hP hBW ⊢;clear hz hzn hb;obtain ⟨hPc0,hPf0,hPc1,hPf1⟩:=hP.x2;go_enter Tryz.func37,Tryz.ntmps37
    go_wp2_with fail
    refine (HS.out _).mono ?_;rintro e w1 ⟨rfl,rfl⟩;go_wp2_with fail
    refine (HV.out _).mono ?_;rintro e w2 ⟨rfl,hb1⟩;clear hPc0 hPf0 hPc1 hPf1;replace hP:=hP.after hb1;replace hBW:=bt hBW hb1;clear hb1;obtain ⟨hPc0,hPf0,hPc1,hPf1⟩:=hP.x2;go_wp2;go_ret2
    exact ⟨by rw [HZ.out,HZB.out];first | rfl | go_num,hBW⟩
  ·have hb:sg z=false:=by unfold sg;exact decide_eq_false hz
   rw [hb] at HV hP hBW ⊢;by_cases hlo:n<9223372036854775808
   ·have HZ:Hid (sm64 z=(n:Int)):=by rw [Hid,sm64,if_pos (by omega)];omega
    have HZB:Hid (sm64B z=true):=decide_eq_true (by omega);have e0:decide ((9223372036854775807:Int)<(n:Int))=false:=decide_eq_false (by omega);have c2:IntKind.i64.wrap (n:Int)=(n:Int):=wi64 (by omega) (by omega);clear hn hn8 hlo h;generalize E n=s at HV HS hP hBW ⊢;clear hz hzn hb;obtain ⟨hPc0,hPf0,hPc1,hPf1⟩:=hP.x2;go_enter Tryz.func37,Tryz.ntmps37
    go_wp2_with fail
    refine (HS.out _).mono ?_;rintro e w1 ⟨rfl,rfl⟩;go_wp2_with fail
    refine (HV.out _).mono ?_;rintro e w2 ⟨rfl,hb1⟩;clear hPc0 hPf0 hPc1 hPf1;replace hP:=hP.after hb1;replace hBW:=bt hBW hb1;clear hb1;obtain ⟨hPc0,hPf0,hPc1,hPf1⟩:=hP.x2;go_wp2;go_ret2
    exact ⟨by rw [HZ.out,HZB.out];first | rfl | go_num,hBW⟩
   ·have HZ:Hid (sm64 z=0):=by rw [Hid,sm64,if_neg (by omega)]
    have HZB:Hid (sm64B z=false):=decide_eq_false (by omega);have e0:decide ((9223372036854775807:Int)<(n:Int))=true:=decide_eq_true (by omega);clear hn hn8 hlo h;generalize E n=s at HV HS hP hBW ⊢;clear hz hzn hb;obtain ⟨hPc0,hPf0,hPc1,hPf1⟩:=hP.x2;go_enter Tryz.func37,Tryz.ntmps37
    go_wp2_with fail
    refine (HS.out _).mono ?_;rintro e w1 ⟨rfl,rfl⟩;go_wp2_with fail
    refine (HV.out _).mono ?_;rintro e w2 ⟨rfl,hb1⟩;clear hPc0 hPf0 hPc1 hPf1;replace hP:=hP.after hb1;replace hBW:=bt hBW hb1;clear hb1;obtain ⟨hPc0,hPf0,hPc1,hPf1⟩:=hP.x2;go_wp2;go_ret2
    exact ⟨by rw [HZ.out,HZB.out];first | rfl | go_num,hBW⟩
 ·have HS:Hid (∀w,Calls Tryz.prog 65 #[.string (E n)] w fun e w'=>e=.returned (.tuple #[.int .u64 0,.bool false])∧w=w'):=fun w=>small_long n w (by omega) (by rw [hzn];exact h)
  have hn8:18446744073709551616≤n:=by
   have:(256:Nat)^8=18446744073709551616:=by decide
   omega
  have HZ:Hid (sm64 z=0):=by rw [Hid,sm64,if_neg (by omega)]
  have HZB:Hid (sm64B z=false):=decide_eq_false (by omega);rw [←hzn] at HV hP hBW h ⊢;clear hn hn8 h;generalize E n=s at HV HS hP hBW ⊢;generalize sg z=sb at HV hP hBW ⊢;clear hzn;obtain ⟨hPc0,hPf0,hPc1,hPf1⟩:=hP.x2;go_enter Tryz.func37,Tryz.ntmps37
  go_wp2_with fail
  refine (HS.out _).mono ?_;rintro e w1 ⟨rfl,rfl⟩;go_wp2;go_ret2
  exact ⟨by rw [HZ.out,HZB.out];first | rfl | go_num,hBW⟩
end
end Go.Proofs.YtdoacbdkbbpamaaGreatDoor
