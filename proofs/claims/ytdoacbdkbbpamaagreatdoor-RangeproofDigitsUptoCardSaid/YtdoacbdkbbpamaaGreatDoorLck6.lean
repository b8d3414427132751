import Derived.Test.YtdoacbdkbbpamaaGreatDoorPow4
import Derived.Test.YtdoacbdkbbpamaaGreatDoorFwx24
import Derived.Test.YtdoacbdkbbpamaaGreatDoorPow2
set_option linter.unusedVariables false
set_option linter.unusedSimpArgs false
set_option maxRecDepth 100000
set_option maxHeartbeats 16000000
namespace Go.Proofs.YtdoacbdkbbpamaaGreatDoor
section
open Go.RowKit
def pedE (p q g h:Nat):Nat:=if grpE p q=0 then (if hasB p q g=true∧hasB p q h=true∧g≠1∧h≠1∧g≠h then 0 else 13) else 13
theorem grpE_cases (p q:Nat):grpE p q=0∨grpE p q=13:=by
 unfold grpE;split
 ·split
  ·exact .inl rfl
  ·exact .inr rfl
 ·split
  ·exact .inl rfl
  ·exact .inr rfl
theorem pformedV_c (a b c d:ByteArray) (r:Bool) (w:World) (ha:a.size≤1000) (hb:b.size≤1000) (hc:c.size≤1000) (hd:d.size≤1000) (hr:vl4 a b c d=r) :
  Calls Tryz.prog 70 #[.agg #[.string a,.string b,.string c,.string d]] w fun e w'=>e=.returned (.bool r)∧Below w.heap.size w w':=by
 rw [←hr];exact pformed_c a b c d w ha hb hc hd
theorem vl4_E {p q g h:Nat} (hp:p<256^128) (hq:q<256^128) (hg:g<256^128) (hh:h<256^128):vl4 (E p) (E q) (E g) (E h)=true:=by
 unfold vl4;rw [vldB_E p hp,vldB_E q hq,vldB_E g hg,vldB_E h hh];rfl
theorem sz1000 {n:Nat} (h:n<256^128):(E n).size≤1000:=by have:=sz n h;omega
theorem pedcheck_bad (a b c d:ByteArray) (w:World) (ha:a.size≤1000) (hb:b.size≤1000) (hc:c.size≤1000) (hd:d.size≤1000) (hr:vl4 a b c d=false) :
  Calls Tryz.prog 60 #[.agg #[.string a,.string b,.string c,.string d]] w fun e w'=>e=.returned (.int .i64 3)∧Below w.heap.size w w':=by
 have HF:=Lib.hid (fun w=>pformedV_c a b c d false w ha hb hc hd hr);clear ha hb hc hd hr;go_enter Tryz.func60,Tryz.ntmps60
 go_wp2_with fail
 refine (HF.out _).mono ?_;rintro e w1 ⟨rfl,hb1⟩;go_wp2;go_ret
 exact ⟨rfl,bt (b1 _ _) hb1⟩
theorem pedcheck_grp (p q g h:Nat) (w:World) (hp:p<256^8) (hq:q<256^128) (hgb:g<256^128) (hhb:h<256^128) (he:grpE p q=13) :
  Calls Tryz.prog 60 #[.agg #[.string (E p),.string (E q),.string (E g),.string (E h)]] w fun e w'=>e=.returned (.int .i64 13)∧Below w.heap.size w w':=by
 have HF:=Lib.hid (fun w=>pformedV_c (E p) (E q) (E g) (E h) true w (sz1000 (lt128 hp)) (sz1000 hq) (sz1000 hgb) (sz1000 hhb) (vl4_E (lt128 hp) hq hgb hhb));have HO:=Lib.hid (fun w=>ofK_c 1 1 w rfl (by decide));have hB:=Blk.new w #[Value.string (E p),Value.string (E q),Value.string (E g),Value.string (E h)] 35;have HC:=Lib.hid (fun w=>pcheckV_c p q 13 w hp hq he);clear he;clear hp hq hgb hhb;go_enter Tryz.func60,Tryz.ntmps60
 go_wp2_with fail
 refine (HF.out _).mono ?_;rintro e w1 ⟨rfl,hb1⟩;replace hB:=hB.after hb1;obtain ⟨hBc0,hBf0,hBc1,hBf1,hBc2,hBf2,hBc3,hBf3⟩:=hB.x4;go_wp2_with fail
 refine (HC.out _).mono ?_;rintro e w2 ⟨rfl,hb2⟩;clear hBc0 hBf0 hBc1 hBf1 hBc2 hBf2 hBc3 hBf3;replace hB:=hB.after hb2;obtain ⟨hBc0,hBf0,hBc1,hBf1,hBc2,hBf2,hBc3,hBf3⟩:=hB.x4;go_wp2;go_ret
 exact ⟨rfl,bt (bt (b1 _ _) hb1) hb2⟩
theorem pedcheck_g (p q g h:Nat) (w:World) (hp:p<256^8) (hq:q<256^128) (hgb:g<256^128) (hhb:h<256^128) (he:grpE p q=0) (h1:hasB p q g=false) :
  Calls Tryz.prog 60 #[.agg #[.string (E p),.string (E q),.string (E g),.string (E h)]] w fun e w'=>e=.returned (.int .i64 13)∧Below w.heap.size w w':=by
 have HF:=Lib.hid (fun w=>pformedV_c (E p) (E q) (E g) (E h) true w (sz1000 (lt128 hp)) (sz1000 hq) (sz1000 hgb) (sz1000 hhb) (vl4_E (lt128 hp) hq hgb hhb));have HO:=Lib.hid (fun w=>ofK_c 1 1 w rfl (by decide));have hB:=Blk.new w #[Value.string (E p),Value.string (E q),Value.string (E g),Value.string (E h)] 35;have HC:=Lib.hid (fun w=>pcheckV_c p q 0 w hp hq he);have HG:=Lib.hid (fun w=>pHasV_c p q g false w hp hq he hgb h1);clear he h1;clear hp hq hgb hhb;go_enter Tryz.func60,Tryz.ntmps60
 go_wp2_with fail
 refine (HF.out _).mono ?_;rintro e w1 ⟨rfl,hb1⟩;replace hB:=hB.after hb1;obtain ⟨hBc0,hBf0,hBc1,hBf1,hBc2,hBf2,hBc3,hBf3⟩:=hB.x4;go_wp2_with fail
 refine (HC.out _).mono ?_;rintro e w2 ⟨rfl,hb2⟩;clear hBc0 hBf0 hBc1 hBf1 hBc2 hBf2 hBc3 hBf3;replace hB:=hB.after hb2;obtain ⟨hBc0,hBf0,hBc1,hBf1,hBc2,hBf2,hBc3,hBf3⟩:=hB.x4;go_wp2_with fail
 refine (HO.out _).mono ?_;rintro e w3 ⟨rfl,hb3⟩;clear hBc0 hBf0 hBc1 hBf1 hBc2 hBf2 hBc3 hBf3;replace hB:=hB.after hb3;obtain ⟨hBc0,hBf0,hBc1,hBf1,hBc2,hBf2,hBc3,hBf3⟩:=hB.x4;go_wp2_with fail
 refine (HG.out _).mono ?_;rintro e w4 ⟨rfl,hb4⟩;clear hBc0 hBf0 hBc1 hBf1 hBc2 hBf2 hBc3 hBf3;replace hB:=hB.after hb4;obtain ⟨hBc0,hBf0,hBc1,hBf1,hBc2,hBf2,hBc3,hBf3⟩:=hB.x4;go_wp2;go_ret
 exact ⟨rfl,bt (bt (bt (bt (b1 _ _) hb1) hb2) hb3) hb4⟩
theorem pedcheck_h (p q g h:Nat) (w:World) (hp:p<256^8) (hq:q<256^128) (hgb:g<256^128) (hhb:h<256^128) (he:grpE p q=0) (h1:hasB p q g=true) (h2:hasB p q h=false) :
  Calls Tryz.prog 60 #[.agg #[.string (E p),.string (E q),.string (E g),.string (E h)]] w fun e w'=>e=.returned (.int .i64 13)∧Below w.heap.size w w':=by
 have HF:=Lib.hid (fun w=>pformedV_c (E p) (E q) (E g) (E h) true w (sz1000 (lt128 hp)) (sz1000 hq) (sz1000 hgb) (sz1000 hhb) (vl4_E (lt128 hp) hq hgb hhb));have HO:=Lib.hid (fun w=>ofK_c 1 1 w rfl (by decide));have hB:=Blk.new w #[Value.string (E p),Value.string (E q),Value.string (E g),Value.string (E h)] 35;have HC:=Lib.hid (fun w=>pcheckV_c p q 0 w hp hq he);have HG:=Lib.hid (fun w=>pHasV_c p q g true w hp hq he hgb h1);have HH:=Lib.hid (fun w=>pHasV_c p q h false w hp hq he hhb h2);clear he h1 h2;clear hp hq hgb hhb;go_enter Tryz.func60,Tryz.ntmps60
 go_wp2_with fail
 refine (HF.out _).mono ?_;rintro e w1 ⟨rfl,hb1⟩;replace hB:=hB.after hb1;obtain ⟨hBc0,hBf0,hBc1,hBf1,hBc2,hBf2,hBc3,hBf3⟩:=hB.x4;go_wp2_with fail
 refine (HC.out _).mono ?_;rintro e w2 ⟨rfl,hb2⟩;clear hBc0 hBf0 hBc1 hBf1 hBc2 hBf2 hBc3 hBf3;replace hB:=hB.after hb2;obtain ⟨hBc0,hBf0,hBc1,hBf1,hBc2,hBf2,hBc3,hBf3⟩:=hB.x4;go_wp2_with fail
 refine (HO.out _).mono ?_;rintro e w3 ⟨rfl,hb3⟩;clear hBc0 hBf0 hBc1 hBf1 hBc2 hBf2 hBc3 hBf3;replace hB:=hB.after hb3;obtain ⟨hBc0,hBf0,hBc1,hBf1,hBc2,hBf2,hBc3,hBf3⟩:=hB.x4;go_wp2_with fail
 refine (HG.out _).mono ?_;rintro e w4 ⟨rfl,hb4⟩;clear hBc0 hBf0 hBc1 hBf1 hBc2 hBf2 hBc3 hBf3;replace hB:=hB.after hb4;obtain ⟨hBc0,hBf0,hBc1,hBf1,hBc2,hBf2,hBc3,hBf3⟩:=hB.x4;go_wp2_with fail
 refine (HH.out _).mono ?_;rintro e w5 ⟨rfl,hb5⟩;clear hBc0 hBf0 hBc1 hBf1 hBc2 hBf2 hBc3 hBf3;replace hB:=hB.after hb5;obtain ⟨hBc0,hBf0,hBc1,hBf1,hBc2,hBf2,hBc3,hBf3⟩:=hB.x4;go_wp2;go_ret
 exact ⟨rfl,bt (bt (bt (bt (bt (b1 _ _) hb1) hb2) hb3) hb4) hb5⟩
theorem pedcheck_g1 (p q g h:Nat) (w:World) (hp:p<256^8) (hq:q<256^128) (hgb:g<256^128) (hhb:h<256^128) (he:grpE p q=0) (h1:hasB p q g=true) (h2:hasB p q h=true) (h3:g=1) :
  Calls Tryz.prog 60 #[.agg #[.string (E p),.string (E q),.string (E g),.string (E h)]] w fun e w'=>e=.returned (.int .i64 13)∧Below w.heap.size w w':=by
 have HF:=Lib.hid (fun w=>pformedV_c (E p) (E q) (E g) (E h) true w (sz1000 (lt128 hp)) (sz1000 hq) (sz1000 hgb) (sz1000 hhb) (vl4_E (lt128 hp) hq hgb hhb));have HO:=Lib.hid (fun w=>ofK_c 1 1 w rfl (by decide));have hB:=Blk.new w #[Value.string (E p),Value.string (E q),Value.string (E g),Value.string (E h)] 35;have HC:=Lib.hid (fun w=>pcheckV_c p q 0 w hp hq he);have HG:=Lib.hid (fun w=>pHasV_c p q g true w hp hq he hgb h1);have HH:=Lib.hid (fun w=>pHasV_c p q h true w hp hq he hhb h2);have e1:=eqE h3;clear he h1 h2 h3;clear hp hq hgb hhb;go_enter Tryz.func60,Tryz.ntmps60
 go_wp2_with fail
 refine (HF.out _).mono ?_;rintro e w1 ⟨rfl,hb1⟩;replace hB:=hB.after hb1;obtain ⟨hBc0,hBf0,hBc1,hBf1,hBc2,hBf2,hBc3,hBf3⟩:=hB.x4;go_wp2_with fail
 refine (HC.out _).mono ?_;rintro e w2 ⟨rfl,hb2⟩;clear hBc0 hBf0 hBc1 hBf1 hBc2 hBf2 hBc3 hBf3;replace hB:=hB.after hb2;obtain ⟨hBc0,hBf0,hBc1,hBf1,hBc2,hBf2,hBc3,hBf3⟩:=hB.x4;go_wp2_with fail
 refine (HO.out _).mono ?_;rintro e w3 ⟨rfl,hb3⟩;clear hBc0 hBf0 hBc1 hBf1 hBc2 hBf2 hBc3 hBf3;replace hB:=hB.after hb3;obtain ⟨hBc0,hBf0,hBc1,hBf1,hBc2,hBf2,hBc3,hBf3⟩:=hB.x4;go_wp2_with fail
 refine (HG.out _).mono ?_;rintro e w4 ⟨rfl,hb4⟩;clear hBc0 hBf0 hBc1 hBf1 hBc2 hBf2 hBc3 hBf3;replace hB:=hB.after hb4;obtain ⟨hBc0,hBf0,hBc1,hBf1,hBc2,hBf2,hBc3,hBf3⟩:=hB.x4;go_wp2_with fail
 refine (HH.out _).mono ?_;rintro e w5 ⟨rfl,hb5⟩;clear hBc0 hBf0 hBc1 hBf1 hBc2 hBf2 hBc3 hBf3;replace hB:=hB.after hb5;obtain ⟨hBc0,hBf0,hBc1,hBf1,hBc2,hBf2,hBc3,hBf3⟩:=hB.x4;go_wp2;go_ret
 exact ⟨rfl,bt (bt (bt (bt (bt (b1 _ _) hb1) hb2) hb3) hb4) hb5⟩
theorem pedcheck_h1 (p q g h:Nat) (w:World) (hp:p<256^8) (hq:q<256^128) (hgb:g<256^128) (hhb:h<256^128) (he:grpE p q=0) (h1:hasB p q g=true) (h2:hasB p q h=true) (h3:g≠1) (h4:h=1) :
  Calls Tryz.prog 60 #[.agg #[.string (E p),.string (E q),.string (E g),.string (E h)]] w fun e w'=>e=.returned (.int .i64 13)∧Below w.heap.size w w':=by
 have HF:=Lib.hid (fun w=>pformedV_c (E p) (E q) (E g) (E h) true w (sz1000 (lt128 hp)) (sz1000 hq) (sz1000 hgb) (sz1000 hhb) (vl4_E (lt128 hp) hq hgb hhb));have HO:=Lib.hid (fun w=>ofK_c 1 1 w rfl (by decide));have hB:=Blk.new w #[Value.string (E p),Value.string (E q),Value.string (E g),Value.string (E h)] 35;have HC:=Lib.hid (fun w=>pcheckV_c p q 0 w hp hq he);have HG:=Lib.hid (fun w=>pHasV_c p q g true w hp hq he hgb h1);have HH:=Lib.hid (fun w=>pHasV_c p q h true w hp hq he hhb h2);have e1:=neE h3;have e2:=eqE h4;clear he h1 h2 h3 h4;clear hp hq hgb hhb;go_enter Tryz.func60,Tryz.ntmps60
 go_wp2_with fail
 refine (HF.out _).mono ?_;rintro e w1 ⟨rfl,hb1⟩;replace hB:=hB.after hb1;obtain ⟨hBc0,hBf0,hBc1,hBf1,hBc2,hBf2,hBc3,hBf3⟩:=hB.x4;go_wp2_with fail
 refine (HC.out _).mono ?_;rintro e w2 ⟨rfl,hb2⟩;clear hBc0 hBf0 hBc1 hBf1 hBc2 hBf2 hBc3 hBf3;replace hB:=hB.after hb2;obtain ⟨hBc0,hBf0,hBc1,hBf1,hBc2,hBf2,hBc3,hBf3⟩:=hB.x4;go_wp2_with fail
 refine (HO.out _).mono ?_;rintro e w3 ⟨rfl,hb3⟩;clear hBc0 hBf0 hBc1 hBf1 hBc2 hBf2 hBc3 hBf3;replace hB:=hB.after hb3;obtain ⟨hBc0,hBf0,hBc1,hBf1,hBc2,hBf2,hBc3,hBf3⟩:=hB.x4;go_wp2_with fail
 refine (HG.out _).mono ?_;rintro e w4 ⟨rfl,hb4⟩;clear hBc0 hBf0 hBc1 hBf1 hBc2 hBf2 hBc3 hBf3;replace hB:=hB.after hb4;obtain ⟨hBc0,hBf0,hBc1,hBf1,hBc2,hBf2,hBc3,hBf3⟩:=hB.x4;go_wp2_with fail
 refine (HH.out _).mono ?_;rintro e w5 ⟨rfl,hb5⟩;clear hBc0 hBf0 hBc1 hBf1 hBc2 hBf2 hBc3 hBf3;replace hB:=hB.after hb5;obtain ⟨hBc0,hBf0,hBc1,hBf1,hBc2,hBf2,hBc3,hBf3⟩:=hB.x4;go_wp2;go_ret
 exact ⟨rfl,bt (bt (bt (bt (bt (b1 _ _) hb1) hb2) hb3) hb4) hb5⟩
theorem pedcheck_gh (p q g h:Nat) (w:World) (hp:p<256^8) (hq:q<256^128) (hgb:g<256^128) (hhb:h<256^128) (he:grpE p q=0) (h1:hasB p q g=true) (h2:hasB p q h=true) (h3:g≠1) (h4:h≠1) (h5:g=h) :
  Calls Tryz.prog 60 #[.agg #[.string (E p),.string (E q),.string (E g),.string (E h)]] w fun e w'=>e=.returned (.int .i64 13)∧Below w.heap.size w w':=by
 have HF:=Lib.hid (fun w=>pformedV_c (E p) (E q) (E g) (E h) true w (sz1000 (lt128 hp)) (sz1000 hq) (sz1000 hgb) (sz1000 hhb) (vl4_E (lt128 hp) hq hgb hhb));have HO:=Lib.hid (fun w=>ofK_c 1 1 w rfl (by decide));have hB:=Blk.new w #[Value.string (E p),Value.string (E q),Value.string (E g),Value.string (E h)] 35;have HC:=Lib.hid (fun w=>pcheckV_c p q 0 w hp hq he);have HG:=Lib.hid (fun w=>pHasV_c p q g true w hp hq he hgb h1);have HH:=Lib.hid (fun w=>pHasV_c p q h true w hp hq he hhb h2);have e1:=neE h3;have e2:=neE h4;have e3:=eqE h5;clear he h1 h2 h3 h4 h5;clear hp hq hgb hhb;go_enter Tryz.func60,Tryz.ntmps60
 go_wp2_with fail
 refine (HF.out _).mono ?_;rintro e w1 ⟨rfl,hb1⟩;replace hB:=hB.after hb1;obtain ⟨hBc0,hBf0,hBc1,hBf1,hBc2,hBf2,hBc3,hBf3⟩:=hB.x4;go_wp2_with fail
 refine (HC.out _).mono ?_;rintro e w2 ⟨rfl,hb2⟩;clear hBc0 hBf0 hBc1 hBf1 hBc2 hBf2 hBc3 hBf3;replace hB:=hB.after hb2;obtain ⟨hBc0,hBf0,hBc1,hBf1,hBc2,hBf2,hBc3,hBf3⟩:=hB.x4;go_wp2_with fail
 refine (HO.out _).mono ?_;rintro e w3 ⟨rfl,hb3⟩;clear hBc0 hBf0 hBc1 hBf1 hBc2 hBf2 hBc3 hBf3;replace hB:=hB.after hb3;obtain ⟨hBc0,hBf0,hBc1,hBf1,hBc2,hBf2,hBc3,hBf3⟩:=hB.x4;go_wp2_with fail
 refine (HG.out _).mono ?_;rintro e w4 ⟨rfl,hb4⟩;clear hBc0 hBf0 hBc1 hBf1 hBc2 hBf2 hBc3 hBf3;replace hB:=hB.after hb4;obtain ⟨hBc0,hBf0,hBc1,hBf1,hBc2,hBf2,hBc3,hBf3⟩:=hB.x4;go_wp2_with fail
 refine (HH.out _).mono ?_;rintro e w5 ⟨rfl,hb5⟩;clear hBc0 hBf0 hBc1 hBf1 hBc2 hBf2 hBc3 hBf3;replace hB:=hB.after hb5;obtain ⟨hBc0,hBf0,hBc1,hBf1,hBc2,hBf2,hBc3,hBf3⟩:=hB.x4;go_wp2;go_ret
 exact ⟨rfl,bt (bt (bt (bt (bt (b1 _ _) hb1) hb2) hb3) hb4) hb5⟩
theorem pedcheck_ok (p q g h:Nat) (w:World) (hp:p<256^8) (hq:q<256^128) (hgb:g<256^128) (hhb:h<256^128) (he:grpE p q=0) (h1:hasB p q g=true) (h2:hasB p q h=true) (h3:g≠1) (h4:h≠1) (h5:g≠h) :
  Calls Tryz.prog 60 #[.agg #[.string (E p),.string (E q),.string (E g),.string (E h)]] w fun e w'=>e=.returned (.int .i64 0)∧Below w.heap.size w w':=by
 have HF:=Lib.hid (fun w=>pformedV_c (E p) (E q) (E g) (E h) true w (sz1000 (lt128 hp)) (sz1000 hq) (sz1000 hgb) (sz1000 hhb) (vl4_E (lt128 hp) hq hgb hhb));have HO:=Lib.hid (fun w=>ofK_c 1 1 w rfl (by decide));have hB:=Blk.new w #[Value.string (E p),Value.string (E q),Value.string (E g),Value.string (E h)] 35;have HC:=Lib.hid (fun w=>pcheckV_c p q 0 w hp hq he);have HG:=Lib.hid (fun w=>pHasV_c p q g true w hp hq he hgb h1);have HH:=Lib.hid (fun w=>pHasV_c p q h true w hp hq he hhb h2);have e1:=neE h3;have e2:=neE h4;have e3:=neE h5;clear he h1 h2 h3 h4 h5;clear hp hq hgb hhb;go_enter Tryz.func60,Tryz.ntmps60
 go_wp2_with fail
 refine (HF.out _).mono ?_;rintro e w1 ⟨rfl,hb1⟩;replace hB:=hB.after hb1;obtain ⟨hBc0,hBf0,hBc1,hBf1,hBc2,hBf2,hBc3,hBf3⟩:=hB.x4;go_wp2_with fail
 refine (HC.out _).mono ?_;rintro e w2 ⟨rfl,hb2⟩;clear hBc0 hBf0 hBc1 hBf1 hBc2 hBf2 hBc3 hBf3;replace hB:=hB.after hb2;obtain ⟨hBc0,hBf0,hBc1,hBf1,hBc2,hBf2,hBc3,hBf3⟩:=hB.x4;go_wp2_with fail
 refine (HO.out _).mono ?_;rintro e w3 ⟨rfl,hb3⟩;clear hBc0 hBf0 hBc1 hBf1 hBc2 hBf2 hBc3 hBf3;replace hB:=hB.after hb3;obtain ⟨hBc0,hBf0,hBc1,hBf1,hBc2,hBf2,hBc3,hBf3⟩:=hB.x4;go_wp2_with fail
 refine (HG.out _).mono ?_;rintro e w4 ⟨rfl,hb4⟩;clear hBc0 hBf0 hBc1 hBf1 hBc2 hBf2 hBc3 hBf3;replace hB:=hB.after hb4;obtain ⟨hBc0,hBf0,hBc1,hBf1,hBc2,hBf2,hBc3,hBf3⟩:=hB.x4;go_wp2_with fail
 refine (HH.out _).mono ?_;rintro e w5 ⟨rfl,hb5⟩;clear hBc0 hBf0 hBc1 hBf1 hBc2 hBf2 hBc3 hBf3;replace hB:=hB.after hb5;obtain ⟨hBc0,hBf0,hBc1,hBf1,hBc2,hBf2,hBc3,hBf3⟩:=hB.x4;go_wp2;go_ret
 exact ⟨rfl,bt (bt (bt (bt (bt (b1 _ _) hb1) hb2) hb3) hb4) hb5⟩
theorem pedcheck_c (p q g h:Nat) (w:World) (hp:p<256^8) (hq:q<256^128) (hgb:g<256^128) (hhb:h<256^128) :
  Calls Tryz.prog 60 #[.agg #[.string (E p),.string (E q),.string (E g),.string (E h)]] w fun e w'=>e=.returned (.int .i64 (pedE p q g h))∧Below w.heap.size w w':=by
 rcases grpE_cases p q with he | he
 ·by_cases h1:hasB p q g=true
  ·by_cases h2:hasB p q h=true
   ·by_cases h3:g=1
    ·rw [show pedE p q g h=13 by rw [pedE,if_pos he,if_neg (fun k=>k.2.2.1 h3)]];exact pedcheck_g1 p q g h w hp hq hgb hhb he h1 h2 h3
    ·by_cases h4:h=1
     ·rw [show pedE p q g h=13 by rw [pedE,if_pos he,if_neg (fun k=>k.2.2.2.1 h4)]];exact pedcheck_h1 p q g h w hp hq hgb hhb he h1 h2 h3 h4
     ·by_cases h5:g=h
      ·rw [show pedE p q g h=13 by rw [pedE,if_pos he,if_neg (fun k=>k.2.2.2.2 h5)]];exact pedcheck_gh p q g h w hp hq hgb hhb he h1 h2 h3 h4 h5
      ·rw [show pedE p q g h=0 by rw [pedE,if_pos he,if_pos ⟨h1,h2,h3,h4,h5⟩]];exact pedcheck_ok p q g h w hp hq hgb hhb he h1 h2 h3 h4 h5
   ·rw [show pedE p q g h=13 by rw [pedE,if_pos he,if_neg (fun k=>h2 k.2.1)]];exact pedcheck_h p q g h w hp hq hgb hhb he h1 (by simpa using h2)
  ·rw [show pedE p q g h=13 by rw [pedE,if_pos he,if_neg (fun k=>h1 k.1)]];exact pedcheck_g p q g h w hp hq hgb hhb he (by simpa using h1)
 ·rw [show pedE p q g h=13 by rw [pedE,if_neg (by omega)]];exact pedcheck_grp p q g h w hp hq hgb hhb he
end
section
open Go.RowKit
def StrsAt (w:World) (ao:Option Addr) (C:List ByteArray):Prop:=C.length=0∨∃b,ao=some ⟨b,0,none⟩∧b<w.heap.size∧∀j (h:j<C.length),w.cell? ⟨b,j,none⟩=some (.string C[j])
theorem StrsAt.after {w w':World} {ao:Option Addr} {C:List ByteArray} (h:StrsAt w ao C) (hb:Below w.heap.size w w'):StrsAt w' ao C:=by
 rcases h with h | ⟨b,h1,h2,h3⟩
 ·exact .inl h
 ·exact .inr ⟨b,h1,Nat.lt_of_lt_of_le h2 hb.size,fun j hj=>(hb.cell (p:=⟨b,j,none⟩) h2).trans (h3 j hj)⟩
theorem StrsAt.at_ {w:World} {ao:Option Addr} {C:List ByteArray} (h:StrsAt w ao C) {k:Nat} (hk:k<C.length):∃b,ao=some ⟨b,0,none⟩∧w.cell? ⟨b,k,none⟩=some (.string C[k]):=by
 rcases h with h | ⟨b,h1,h2,h3⟩
 ·omega
 ·exact ⟨b,h1,h3 k hk⟩
theorem pedE_grp {p q g h:Nat} (hh:pedE p q g h=0):grpE p q=0:=by
 unfold pedE at hh;by_cases he:grpE p q=0
 ·exact he
 ·rw [if_neg he] at hh;omega
theorem pedcheckV_c (p q g h k:Nat) (w:World) (hp:p<256^8) (hq:q<256^128) (hgb:g<256^128) (hhb:h<256^128) (hk:pedE p q g h=k) :
  Calls Tryz.prog 60 #[.agg #[.string (E p),.string (E q),.string (E g),.string (E h)]] w fun e w'=>e=.returned (.int .i64 k)∧Below w.heap.size w w':=by
 rw [←hk];exact pedcheck_c p q g h w hp hq hgb hhb
end
section
open Go.RowKit
theorem rvalidV_c (s:ByteArray) (b:Bool) (w:World) (hs:s.size≤4611686018427387904) (h:vldB s=b) :
  Calls Tryz.prog 42 #[.string s] w fun e w'=>e=.returned (.bool b)∧w=w':=by rw [←h];exact rvalid_c s w hs
theorem rofK_c (k:Nat) (z:Int) (w:World) (hz:z=(k:Int)) (h:k<256^8):Calls Tryz.prog 46 #[.int .u64 z] w fun e w'=>e=.returned (.string (E k))∧Below w.heap.size w w':=by rw [hz];exact rof_c k w h
theorem szM {n:Nat} (h:n<256^128):(E n).size≤1000000:=by have:=sz n h;omega
theorem rform_c (p q:Nat) (w:World) (hp:p<256^128) (hq:q<256^128) :
  Calls Tryz.prog 183 #[.agg #[.string (E p),.string (E q)]] w fun e w'=>e=.returned (.bool true)∧Below w.heap.size w w':=by
 have HP:=Lib.hid hp;have HQ:=Lib.hid hq;clear hp hq;go_enter Tryz.func183,Tryz.ntmps183
 go_wp2_with fail
 refine (rvalidE_c p _ HP.out).mono ?_;rintro e w' ⟨rfl,rfl⟩;go_wp2_with fail
 refine (rvalidE_c q _ HQ.out).mono ?_;rintro e w' ⟨rfl,rfl⟩;go_wp2;go_ret
 exact ⟨rfl,b1 _ _⟩
theorem mod1 {p:Nat} (h:2≤p):1%p=1:=Nat.mod_eq_of_lt h
theorem rghas_c (p q x:Nat) (w:World) (hp:p<256^8) (hp2:2≤p) (hq:q<256^128) (h0:0<q) (hx:x<256^128) :
  Calls Tryz.prog 163 #[.agg #[.string (E p),.string (E q)],.string (E x)] w fun e w'=>e=.returned (.bool (hasB p q x))∧Below w.heap.size w w':=by
 have HP:=Lib.hid (lt128 hp);have HP64:=Lib.hid (Nat.lt_of_lt_of_le hp (Nat.pow_le_pow_right (show 0<256 by decide) (show 8≤64 by decide)));have HQ:=Lib.hid hq;have HX:=Lib.hid hx;have hz:=nzE h0;have hB:=Blk.new w #[Value.string (E p),Value.string (E q)] 33;have HSX:=Lib.hid (szM hx);have HSP:=Lib.hid (szM (lt128 hp));by_cases hx0:x=0
 ·have HR:Hid (hasB p q x=false):=by rw [hx0];exact hasB_zero p q
  have hzx:=zE hx0;clear hp hq h0 hx hx0 hp2;obtain ⟨hBc0,hBf0,hBc1,hBf1⟩:=hB.x2;go_enter Tryz.func163,Tryz.ntmps163
  go_wp2_with fail
  refine (rform_c p q _ HP.out HQ.out).mono ?_;rintro e w1 ⟨rfl,hb1⟩;clear hBc0 hBf0 hBc1 hBf1;replace hB:=hB.after hb1;obtain ⟨hBc0,hBf0,hBc1,hBf1⟩:=hB.x2;go_wp2_with fail
  refine (rvalidE_c x _ HX.out).mono ?_;rintro e w' ⟨rfl,rfl⟩;go_wp2;go_ret
  exact ⟨rb HR.out.symm,bt (b1 _ _) hb1⟩
 ·have hzx:=nzE (Nat.pos_of_ne_zero hx0);rcases Nat.lt_or_ge x p with hlt | hge
  ·have HR:=Lib.hid (hasB_q h0 (Nat.pos_of_ne_zero hx0) hlt);have HPP:Hid (0<p):=by unfold Hid;omega
   have hc:=cmp_neg x p hlt;have HD:Hid (((E (x^q%p)).toList==[1])=decide (x^q%p=1%p)):=by rw [Hid,mod1 hp2];exact E1L _
   clear hp hq h0 hx hx0 hlt hp2;obtain ⟨hBc0,hBf0,hBc1,hBf1⟩:=hB.x2;go_enter Tryz.func163,Tryz.ntmps163
   go_wp2_with fail
   refine (rform_c p q _ HP.out HQ.out).mono ?_;rintro e w1 ⟨rfl,hb1⟩;clear hBc0 hBf0 hBc1 hBf1;replace hB:=hB.after hb1;obtain ⟨hBc0,hBf0,hBc1,hBf1⟩:=hB.x2;go_wp2_with fail
   refine (rvalidE_c x _ HX.out).mono ?_;rintro e w' ⟨rfl,rfl⟩;go_wp2_with fail
   refine (rorder_c x p _ HSX.out HSP.out).mono ?_;rintro e w2 ⟨rfl,hb2⟩;clear hBc0 hBf0 hBc1 hBf1;replace hB:=hB.after hb2;obtain ⟨hBc0,hBf0,hBc1,hBf1⟩:=hB.x2;go_wp2_with fail
   refine (rexp3_c x q p _ HX.out HQ.out HP64.out HPP.out).mono ?_;rintro e w3 ⟨rfl,hb3⟩;go_wp2;go_ret
   exact ⟨rb (by rw [HR.out];exact HD.out),bt (bt (bt (b1 _ _) hb1) hb2) hb3⟩
  ·have HR:=Lib.hid (hasB_big (q:=q) hge);have hc:=cmp_nneg x p hge;clear hp hq h0 hx hx0 hge hp2;obtain ⟨hBc0,hBf0,hBc1,hBf1⟩:=hB.x2;go_enter Tryz.func163,Tryz.ntmps163
   go_wp2_with fail
   refine (rform_c p q _ HP.out HQ.out).mono ?_;rintro e w1 ⟨rfl,hb1⟩;clear hBc0 hBf0 hBc1 hBf1;replace hB:=hB.after hb1;obtain ⟨hBc0,hBf0,hBc1,hBf1⟩:=hB.x2;go_wp2_with fail
   refine (rvalidE_c x _ HX.out).mono ?_;rintro e w' ⟨rfl,rfl⟩;go_wp2_with fail
   refine (rorder_c x p _ HSX.out HSP.out).mono ?_;rintro e w2 ⟨rfl,hb2⟩;go_wp2;go_ret
   exact ⟨rb HR.out.symm,bt (bt (b1 _ _) hb1) hb2⟩
theorem rhas_c (p q x:Nat) (w:World) (hp:p<256^8) (hq:q<256^128) (hg:grpE p q=0) (hx:x<256^128) :
  Calls Tryz.prog 141 #[.agg #[.string (E p),.string (E q)],.string (E x)] w fun e w'=>e=.returned (.bool (hasB p q x))∧Below w.heap.size w w':=by
 have HP8:=Lib.hid hp;have HP:=Lib.hid (lt128 hp);have HX:=Lib.hid hx;have HP2:=Lib.hid (grp_gt hg);have HSX:=Lib.hid (szM hx);have HSP:=Lib.hid (szM (lt128 hp));rcases Nat.eq_zero_or_pos q with rfl | h0
 ·have hz:=zE (n:=0) rfl;have hB:=Blk.new w #[Value.string (E p),Value.string (E 0)] 33;by_cases hx0:x=0
  ·have HR:Hid (hasB p 0 x=false):=by rw [hx0];exact hasB_zero p 0
   have hzx:=zE hx0;clear hp hx hg hq hx0;go_enter Tryz.func141,Tryz.ntmps141
   go_wp2;go_ret
   exact ⟨rb HR.out.symm,b1 _ _⟩
  ·have hzx:=nzE (Nat.pos_of_ne_zero hx0);rcases Nat.lt_or_ge x p with hlt | hge
   ·have HR:=Lib.hid (hasB_0 (Nat.pos_of_ne_zero hx0) hlt);have hc:=cmp_neg x p hlt;have HD:=Lib.hid (E1L (Nat.gcd x p));clear hp hx hg hq hx0 hlt;obtain ⟨hBc0,hBf0,hBc1,hBf1⟩:=hB.x2;go_enter Tryz.func141,Tryz.ntmps141
    go_wp2_with fail
    refine (rorder_c x p _ HSX.out HSP.out).mono ?_;rintro e w1 ⟨rfl,hb1⟩;clear hBc0 hBf0 hBc1 hBf1;replace hB:=hB.after hb1;obtain ⟨hBc0,hBf0,hBc1,hBf1⟩:=hB.x2;go_wp2_with fail
    refine (rcommon_c x p _ HX.out HP.out).mono ?_;rintro e w2 ⟨rfl,hb2⟩;go_wp2;go_ret
    exact ⟨rb (by rw [HR.out];exact HD.out),bt (bt (b1 _ _) hb1) hb2⟩
   ·have HR:=Lib.hid (hasB_big (q:=0) hge);have hc:=cmp_nneg x p hge;clear hp hx hg hq hx0 hge;obtain ⟨hBc0,hBf0,hBc1,hBf1⟩:=hB.x2;go_enter Tryz.func141,Tryz.ntmps141
    go_wp2_with fail
    refine (rorder_c x p _ HSX.out HSP.out).mono ?_;rintro e w1 ⟨rfl,hb1⟩;go_wp2;go_ret
    exact ⟨rb HR.out.symm,bt (b1 _ _) hb1⟩
 ·have hz:=nzE h0;have HQ:=Lib.hid hq;have H0:=Lib.hid h0;clear hp hx hg hq h0;go_enter Tryz.func141,Tryz.ntmps141
  go_wp2_with fail
  refine (rghas_c p q x _ HP8.out HP2.out HQ.out H0.out HX.out).mono ?_;rintro e w1 ⟨rfl,hb1⟩;go_wp2;go_ret
  exact ⟨rfl,bt (b1 _ _) hb1⟩
theorem lastb (p:Nat) (h:0<p):((E p)[(E p).size-1]'(by have:=(E_size_pos p).2 h;omega)).toNat=p%256:=by
 have hs:=(E_size_pos p).2 h;rw [dgt_at (E p) 0 ((E p).size-1) hs (by omega),dgt_E,Nat.pow_zero,Nat.div_one]
theorem rorder8_c (p:Nat) (w:World) (h1:(E p).size≤1000000) :
  Calls Tryz.prog 81 #[.string (E p),.string { data:=#[8] }] w fun e w'=>e=.returned (.int .i64 (cmpN p 8))∧Below w.heap.size w w':=
 rorder_c p 8 w h1 (by decide)
theorem rminus1_c (p:Nat) (w:World) (h1:(E p).size≤1000000) (h:1≤p) :
  Calls Tryz.prog 115 #[.string (E p),.string { data:=#[1] }] w fun e w'=>e=.returned (.string (E (p-1)))∧Below w.heap.size w w':=
 rminus_c p 1 w h1 h
theorem rpcheck_0 (p:Nat) (w:World) (hp:p<256^8) :
  Calls Tryz.prog 118 #[.agg #[.string (E p),.string (E 0)]] w fun e w'=>e=.returned (.int .i64 (grpE p 0))∧Below w.heap.size w w':=by
 have HP:=Lib.hid (lt128 hp);have HP0:Hid ((0:Nat)<256^128):=by unfold Hid;decide
 have HSP:=Lib.hid (szM (lt128 hp));have hz:=zE (n:=0) rfl;have hB:=Blk.new w #[Value.string (E p),Value.string (E 0)] 33;have HG:Hid (grpE p 0=if p%2=1∧8<p then 0 else 13):=rfl;by_cases hp0:p=0
 ·have HG':Hid (grpE p 0=13):=by rw [Hid,HG.out,if_neg (by omega)]
  have hzp:=zE hp0;clear hp hp0 HG;go_enter Tryz.func118,Tryz.ntmps118
  go_wp2_with fail
  refine (rvalidE_c p _ HP.out).mono ?_;rintro e w' ⟨rfl,rfl⟩;go_wp2_with fail
  refine (rvalidE_c 0 _ HP0.out).mono ?_;rintro e w' ⟨rfl,rfl⟩;go_wp2;go_ret
  exact ⟨ri (by rw [HG'.out];rfl),b1 _ _⟩
 ·have hzp:=nzE (Nat.pos_of_ne_zero hp0);have hsz:=(E_size_pos p).2 (Nat.pos_of_ne_zero hp0);have hsz2:=sz p HP.out;have hlb:=lastb p (Nat.pos_of_ne_zero hp0);have hi1:(1:Int)≤((E p).size:Int):=by omega
  have hpar:(((E p)[(E p).size-1]'(by omega)).toNat:Int)%2=((p%2:Nat):Int):=by rw [hlb];omega
  by_cases hodd:p%2=1
  ·have ht:((((E p)[(E p).size-1]'(by omega)).toNat:Int)%2==0)=false:=by rw [hpar,hodd];rfl
   by_cases h8:8<p
   ·have HG':Hid (grpE p 0=0):=by rw [Hid,HG.out,if_pos ⟨hodd,h8⟩]
    have hc:=cmp_pos p 8 h8;clear hp hpar hlb h8 HG hodd;obtain ⟨hBc0,hBf0,hBc1,hBf1⟩:=hB.x2;go_enter Tryz.func118,Tryz.ntmps118
    go_wp2_with fail
    refine (rvalidE_c p _ HP.out).mono ?_;rintro e w' ⟨rfl,rfl⟩;go_wp2_with fail
    refine (rvalidE_c 0 _ HP0.out).mono ?_;rintro e w' ⟨rfl,rfl⟩;go_wp2_with fail
    refine (rorder8_c p _ HSP.out).mono ?_;rintro e w1 ⟨rfl,hb1⟩;go_wp2;go_ret
    exact ⟨ri (by rw [HG'.out];rfl),bt (b1 _ _) hb1⟩
   ·have HG':Hid (grpE p 0=13):=by rw [Hid,HG.out,if_neg (by omega)]
    have hc:=cmp_npos p 8 (by omega);clear hp hpar hlb h8 HG hodd;obtain ⟨hBc0,hBf0,hBc1,hBf1⟩:=hB.x2;go_enter Tryz.func118,Tryz.ntmps118
    go_wp2_with fail
    refine (rvalidE_c p _ HP.out).mono ?_;rintro e w' ⟨rfl,rfl⟩;go_wp2_with fail
    refine (rvalidE_c 0 _ HP0.out).mono ?_;rintro e w' ⟨rfl,rfl⟩;go_wp2_with fail
    refine (rorder8_c p _ HSP.out).mono ?_;rintro e w1 ⟨rfl,hb1⟩;go_wp2;go_ret
    exact ⟨ri (by rw [HG'.out];rfl),bt (b1 _ _) hb1⟩
  ·have ht:((((E p)[(E p).size-1]'(by omega)).toNat:Int)%2==0)=true:=by rw [hpar,show p%2=0 by omega];rfl
   have HG':Hid (grpE p 0=13):=by rw [Hid,HG.out,if_neg (by omega)]
   clear hp hpar hlb HG hodd;obtain ⟨hBc0,hBf0,hBc1,hBf1⟩:=hB.x2;go_enter Tryz.func118,Tryz.ntmps118
   go_wp2_with fail
   refine (rvalidE_c p _ HP.out).mono ?_;rintro e w' ⟨rfl,rfl⟩;go_wp2_with fail
   refine (rvalidE_c 0 _ HP0.out).mono ?_;rintro e w' ⟨rfl,rfl⟩;go_wp2;go_ret
   exact ⟨ri (by rw [HG'.out];rfl),b1 _ _⟩
theorem E1n {n:Nat} (h:n≠1):((E n).toList==[1])=false:=by rw [E1L];exact decide_eq_false h
theorem E1y {n:Nat} (h:n=1):((E n).toList==[1])=true:=by rw [E1L];exact decide_eq_true h
theorem rpcheck_q (p q:Nat) (w:World) (hp:p<256^8) (hq:q<256^128) (h0:0<q) :
  Calls Tryz.prog 118 #[.agg #[.string (E p),.string (E q)]] w fun e w'=>e=.returned (.int .i64 (grpE p q))∧Below w.heap.size w w':=by
 have HP:=Lib.hid (lt128 hp);have HQ:=Lib.hid hq;have H0:=Lib.hid h0;have hz:=nzE h0;have HSP:=Lib.hid (szM (lt128 hp));have hB:=Blk.new w #[Value.string (E p),Value.string (E q)] 33;have HG:=Lib.hid (grpE_q (p:=p) h0);by_cases hp0:p=0
 ·have HG':Hid (grpE p q=13):=by rw [Hid,HG.out,if_neg (by omega)]
  have e1:=zE hp0;clear hp hq h0 HG hp0;obtain ⟨hBc0,hBf0,hBc1,hBf1⟩:=hB.x2;go_enter Tryz.func118,Tryz.ntmps118
  go_wp2_with fail
  refine (rvalidE_c p _ HP.out).mono ?_;rintro e w' ⟨rfl,rfl⟩;go_wp2_with fail
  refine (rvalidE_c q _ HQ.out).mono ?_;rintro e w' ⟨rfl,rfl⟩;go_wp2;go_ret
  exact ⟨ri (by rw [HG'.out];rfl),b1 _ _⟩
 ·have e1:=nzE (Nat.pos_of_ne_zero hp0);by_cases hp1:p=1
  ·have HG':Hid (grpE p q=13):=by rw [Hid,HG.out,if_neg (by omega)]
   have e2:=E1y hp1;clear hp hq h0 HG hp0 hp1;obtain ⟨hBc0,hBf0,hBc1,hBf1⟩:=hB.x2;go_enter Tryz.func118,Tryz.ntmps118
   go_wp2_with fail
   refine (rvalidE_c p _ HP.out).mono ?_;rintro e w' ⟨rfl,rfl⟩;go_wp2_with fail
   refine (rvalidE_c q _ HQ.out).mono ?_;rintro e w' ⟨rfl,rfl⟩;go_wp2;go_ret
   exact ⟨ri (by rw [HG'.out];rfl),b1 _ _⟩
  ·have e2:=E1n hp1;by_cases hq1:q=1
   ·have HG':Hid (grpE p q=13):=by rw [Hid,HG.out,if_neg (by omega)]
    have e3:=E1y hq1;clear hp hq h0 HG hp0 hp1 hq1;obtain ⟨hBc0,hBf0,hBc1,hBf1⟩:=hB.x2;go_enter Tryz.func118,Tryz.ntmps118
    go_wp2_with fail
    refine (rvalidE_c p _ HP.out).mono ?_;rintro e w' ⟨rfl,rfl⟩;go_wp2_with fail
    refine (rvalidE_c q _ HQ.out).mono ?_;rintro e w' ⟨rfl,rfl⟩;go_wp2;go_ret
    exact ⟨ri (by rw [HG'.out];rfl),b1 _ _⟩
   ·have e3:=E1n hq1;have HLE:Hid (1≤p):=by unfold Hid;omega
    have HPB:Hid ((E (p-1)).size≤1000):=sz1000 (by have:=HP.out;omega);have HQB:Hid ((E q).size≤1000):=sz1000 hq;by_cases hr:(p-1)%q=0
    ·have HG':Hid (grpE p q=0):=by rw [Hid,HG.out,if_pos (by omega)]
     have hz2:=zE hr;clear hp hq h0 HG hp0 hp1 hq1 hr;have hBg0:=hB.gcell 0;have hBg1:=hB.gcell 1;obtain ⟨hBc0,hBf0,hBc1,hBf1⟩:=hB.x2;go_enter Tryz.func118,Tryz.ntmps118
     go_wp2_with fail
     refine (rvalidE_c p _ HP.out).mono ?_;rintro e w' ⟨rfl,rfl⟩;go_wp2_with fail
     refine (rvalidE_c q _ HQ.out).mono ?_;rintro e w' ⟨rfl,rfl⟩;go_wp2_with fail
     clear hBc0 hBf0 hBc1 hBf1;go_wp2_with fail
     refine wp_region_gw (by kernel_rfl) (by kernel_rfl) ?_;repeat (go_big_quiet_step (first | (go_at_call 115;exact gw_of (rminus1_c p _ HSP.out HLE.out)) | (go_at_call 116;exact gw_of (rover_c (p-1) q _ H0.out HPB.out HQB.out))))
     refine wpQuiet_nil ?_;rintro w1 ⟨xw1,rfl⟩;have hb1:=gw_below xw1;generalize gw xw1=w1 at hb1;go_wp2;go_ret
     exact ⟨ri (by rw [HG'.out];rfl),bt (b1 _ _) hb1⟩
    ·have HG':Hid (grpE p q=13):=by rw [Hid,HG.out,if_neg (by omega)]
     have hz2:=nzE (Nat.pos_of_ne_zero hr);clear hp hq h0 HG hp0 hp1 hq1 hr;have hBg0:=hB.gcell 0;have hBg1:=hB.gcell 1;obtain ⟨hBc0,hBf0,hBc1,hBf1⟩:=hB.x2;go_enter Tryz.func118,Tryz.ntmps118
     go_wp2_with fail
     refine (rvalidE_c p _ HP.out).mono ?_;rintro e w' ⟨rfl,rfl⟩;go_wp2_with fail
     refine (rvalidE_c q _ HQ.out).mono ?_;rintro e w' ⟨rfl,rfl⟩;go_wp2_with fail
     clear hBc0 hBf0 hBc1 hBf1;go_wp2_with fail
     refine wp_region_gw (by kernel_rfl) (by kernel_rfl) ?_;repeat (go_big_quiet_step (first | (go_at_call 115;exact gw_of (rminus1_c p _ HSP.out HLE.out)) | (go_at_call 116;exact gw_of (rover_c (p-1) q _ H0.out HPB.out HQB.out))))
     refine wpQuiet_nil ?_;rintro w1 ⟨xw1,rfl⟩;have hb1:=gw_below xw1;generalize gw xw1=w1 at hb1;go_wp2;go_ret
     exact ⟨ri (by rw [HG'.out];rfl),bt (b1 _ _) hb1⟩
theorem rpcheckV_c (p q k:Nat) (w:World) (hp:p<256^8) (hq:q<256^128) (hg:grpE p q=k) :
  Calls Tryz.prog 118 #[.agg #[.string (E p),.string (E q)]] w fun e w'=>e=.returned (.int .i64 k)∧Below w.heap.size w w':=by
 rw [←hg];rcases Nat.eq_zero_or_pos q with rfl | h0
 ·exact rpcheck_0 p w hp
 ·exact rpcheck_q p q w hp hq h0
theorem rhasV_c (p q x:Nat) (b:Bool) (w:World) (hp:p<256^8) (hq:q<256^128) (hg:grpE p q=0) (hx:x<256^128) (h:hasB p q x=b) :
  Calls Tryz.prog 141 #[.agg #[.string (E p),.string (E q)],.string (E x)] w fun e w'=>e=.returned (.bool b)∧Below w.heap.size w w':=by
 rw [←h];exact rhas_c p q x w hp hq hg hx
theorem rHasV_c (p q x:Nat) (b:Bool) (w:World) (hp:p<256^8) (hq:q<256^128) (hg:grpE p q=0) (hx:x<256^128) (hb:hasB p q x=b) :
  Calls Tryz.prog 119 #[.agg #[.string (E p),.string (E q)],.string (E x)] w fun e w'=>e=.returned (.bool b)∧Below w.heap.size w w':=by
 have HX:=Lib.hid hx;have HC:=Lib.hid (fun w=>rpcheckV_c p q 0 w hp hq hg);have HH:=Lib.hid (fun w=>rhasV_c p q x b w hp hq hg hx hb);have hB:=Blk.new w #[Value.string (E p),Value.string (E q)] 33;clear hp hx hg hq hb;obtain ⟨hBc0,hBf0,hBc1,hBf1⟩:=hB.x2;go_enter Tryz.func119,Tryz.ntmps119
 go_wp2_with fail
 refine (HC.out _).mono ?_;rintro e w1 ⟨rfl,hb1⟩;clear hBc0 hBf0 hBc1 hBf1;replace hB:=hB.after hb1;obtain ⟨hBc0,hBf0,hBc1,hBf1⟩:=hB.x2;go_wp2_with fail
 refine (rvalidE_c x _ HX.out).mono ?_;rintro e w' ⟨rfl,rfl⟩;go_wp2_with fail
 refine (HH.out _).mono ?_;rintro e w2 ⟨rfl,hb2⟩;go_wp2;go_ret
 exact ⟨rfl,bt (bt (b1 _ _) hb1) hb2⟩
theorem rraw_c (p q x:Nat) (z:Int) (w:World) (hp:p<256^8) (hg:grpE p q=0) (hx:hasB p q x=true) (hz:z.natAbs<256^128) :
  Calls Tryz.prog 168 #[.agg #[.string (E p),.string (E q)],.string (E x),.agg #[.bool (sg (z)),.string (E (z).natAbs)]] w fun e w'=>e=.returned (.string (E (powI x z p)))∧Below w.heap.size w w':=by
 have hp2:=grp_gt hg;have HPW:=Lib.hid (fun w=>rpow3_c x z p w (lt128 (Nat.lt_trans (has_lt hx) hp)) hz (Nat.lt_of_lt_of_le hp (Nat.pow_le_pow_right (show 0<256 by decide) (show 8≤32 by decide))) (by omega) (fun _=>has_coprime hp2 hx));clear hp hg hx hz hp2;go_enter Tryz.func168,Tryz.ntmps168
 go_wp2_with fail
 refine (HPW.out _).mono ?_;rintro e w1 ⟨rfl,hb1⟩;go_wp2;go_ret
 exact ⟨rfl,bt (b2 _ _ _) hb1⟩
end
section
open Go.RowKit
theorem eqF {a b:Nat} (h:a≠b):((E a).toList != (E b).toList)=true:=by rw [bne,neE h];rfl
theorem eqT {a b:Nat} (h:a=b):((E a).toList != (E b).toList)=false:=by rw [bne,eqE h];rfl
end
section
open Go.RowKit
end
section
open Go.RowKit
end
section
open Go.RowKit
theorem run_index_agg {P:Program} {w:World} (t e:TypeId) (n:Nat) (cs:Array Value) (k:IntKind) (i:Int) (v:Value) (h:P.underlying t=some (.array n e)) (h0:0≤i) (h1:i<n)
  (hi:(P.info? e).map (fun i=>i.size)=some 1) (ha:(isAgg e).run P w=.ok false w) (hn:cs[i.toNat]?=some v):(Instr.index t (.agg cs) (.int k i)).run P w=.ok v w:=by
 have hb:0≤i∧i<(n:Int):=⟨h0,h1⟩;cases hx:P.info? e with
 | none=>rw [hx] at hi;cases hi
 | some i0 =>
  rw [hx] at hi;have hz:i0.size=1:=by simpa using hi
  simp [Instr.index,run_underlying h,asIntOf,hb,go_sem,part,sizeOf,typeInfo,hx,hz,hn,ha]
def zI (z:Int):Bool × ByteArray:=(sg z,E z.natAbs)
def ZsAt (w:World) (v:Value) (l:List Int):Prop:=IsAt w v (l.map zI)
theorem ZsAt.after {w w':World} {v:Value} {l:List Int} (h:ZsAt w v l) (hb:Below w.heap.size w w'):ZsAt w' v l:=IsAt.after h hb
theorem ZsAt.form {w:World} {v:Value} {l:List Int} (h:ZsAt w v l):∃a c,v=.slice a l.length c:=by
 obtain ⟨a1,c1,h1⟩:=RAt.form h;exact ⟨a1,c1,by rw [h1];simp⟩
theorem ZsAt.at_ {w:World} {ao:Option Addr} {n c k:Nat} {l:List Int} (h:ZsAt w (.slice ao n c) l) (hk:k<l.length):∃b o,ao=some ⟨b,o,none⟩∧b<w.heap.size∧w.cell? ⟨b,o+k*2,none⟩=some (.bool (sg l[k]))∧w.cell? ⟨b,o+k*2+1,none⟩=some (.string (E l[k].natAbs)):=by
 have hk':k<(l.map zI).length:=by simpa using hk
 obtain ⟨b,o,h1,h2,h3,h4⟩:=IsAt.at_ h hk';simp only [List.getElem_map,zI] at h3 h4;exact ⟨b,o,h1,h2,h3,h4⟩
end
section
open Go.RowKit
theorem gcl {w:World} {a:Addr} {v:Value} (hb:a.block<w.heap.size) (h:w.cell? a=some v):∀x:GW w,(Proofs.YtdoacbdkbbpamaaGreatDoor.gw x).cell? a=some v:=fun x=>((gw_below x).cell hb).trans h
end
section
open Go.RowKit
end
end Go.Proofs.YtdoacbdkbbpamaaGreatDoor
