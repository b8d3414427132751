/- pedersen.reduced: an opening modulo the order. -/
import Derived.Test.YtdoacbdkbbpamaaGreatDoorLck6
import Derived.Test.YtdoacbdkbbpamaaGreatDoorFs5
import Derived.Test.YtdoacbdkbbpamaaGreatDoorIsm
import Derived.Test.YtdoacbdkbbpamaaGreatDoorRinb
set_option linter.unusedVariables false
set_option linter.unusedSimpArgs false
set_option maxRecDepth 100000
set_option maxHeartbeats 16000000
namespace Go.Proofs.YtdoacbdkbbpamaaGreatDoor
section
open Go.RowKit
theorem rpform_c (a b c d:ByteArray) (w:World) (ha:a.size≤1000) (hb:b.size≤1000) (hc:c.size≤1000) (hd:d.size≤1000) :
  Calls Tryz.prog 117 #[.agg #[.string a,.string b,.string c,.string d]] w fun e w'=>e=.returned (.bool (vl4 a b c d))∧Below w.heap.size w w':=by
 have HA:Hid (a.size≤4611686018427387904):=by unfold Hid;omega
 have HB:Hid (b.size≤4611686018427387904):=by unfold Hid;omega
 have HC:Hid (c.size≤4611686018427387904):=by unfold Hid;omega
 have HD:Hid (d.size≤4611686018427387904):=by unfold Hid;omega
 have HV:Hid (vl4 a b c d=(vldB a&&vldB b&&vldB c&&vldB d)):=rfl;clear ha hb hc hd;cases e1:vldB a
 ·have E1:=Lib.hid e1;have HR:Hid (vl4 a b c d=false):=by rw [Hid,HV.out,e1];rfl
  clear e1 HV;go_enter Tryz.func117,Tryz.ntmps117
  go_wp2_with fail
  refine (rvalidV_c a _ _ HA.out E1.out).mono ?_;rintro e w' ⟨rfl,rfl⟩;go_wp2;go_ret
  exact ⟨rb HR.out.symm,b1 _ _⟩
 ·have E1:=Lib.hid e1;cases e2:vldB b
  ·have E2:=Lib.hid e2;have HR:Hid (vl4 a b c d=false):=by rw [Hid,HV.out,e1,e2];rfl
   clear e1 e2 HV;go_enter Tryz.func117,Tryz.ntmps117
   go_wp2_with fail
   refine (rvalidV_c a _ _ HA.out E1.out).mono ?_;rintro e w' ⟨rfl,rfl⟩;go_wp2_with fail
   refine (rvalidV_c b _ _ HB.out E2.out).mono ?_;rintro e w' ⟨rfl,rfl⟩;go_wp2;go_ret
   exact ⟨rb HR.out.symm,b1 _ _⟩
  ·have E2:=Lib.hid e2;cases e3:vldB c
   ·have E3:=Lib.hid e3;have HR:Hid (vl4 a b c d=false):=by rw [Hid,HV.out,e1,e2,e3];rfl
    clear e1 e2 e3 HV;go_enter Tryz.func117,Tryz.ntmps117
    go_wp2_with fail
    refine (rvalidV_c a _ _ HA.out E1.out).mono ?_;rintro e w' ⟨rfl,rfl⟩;go_wp2_with fail
    refine (rvalidV_c b _ _ HB.out E2.out).mono ?_;rintro e w' ⟨rfl,rfl⟩;go_wp2_with fail
    refine (rvalidV_c c _ _ HC.out E3.out).mono ?_;rintro e w' ⟨rfl,rfl⟩;go_wp2;go_ret
    exact ⟨rb HR.out.symm,b1 _ _⟩
   ·have E3:=Lib.hid e3;have HR:Hid (vl4 a b c d=vldB d):=by rw [Hid,HV.out,e1,e2,e3];rfl
    clear e1 e2 e3 HV;go_enter Tryz.func117,Tryz.ntmps117
    go_wp2_with fail
    refine (rvalidV_c a _ _ HA.out E1.out).mono ?_;rintro e w' ⟨rfl,rfl⟩;go_wp2_with fail
    refine (rvalidV_c b _ _ HB.out E2.out).mono ?_;rintro e w' ⟨rfl,rfl⟩;go_wp2_with fail
    refine (rvalidV_c c _ _ HC.out E3.out).mono ?_;rintro e w' ⟨rfl,rfl⟩;go_wp2_with fail
    refine (rvalid_c d _ HD.out).mono ?_;rintro e w' ⟨rfl,rfl⟩;go_wp2;go_ret
    exact ⟨rb HR.out.symm,b1 _ _⟩
theorem rpformV_c (a b c d:ByteArray) (r:Bool) (w:World) (ha:a.size≤1000) (hb:b.size≤1000) (hc:c.size≤1000) (hd:d.size≤1000) (hr:vl4 a b c d=r) :
  Calls Tryz.prog 117 #[.agg #[.string a,.string b,.string c,.string d]] w fun e w'=>e=.returned (.bool r)∧Below w.heap.size w w':=by
 rw [←hr];exact rpform_c a b c d w ha hb hc hd
theorem rpedcheck_bad (a b c d:ByteArray) (w:World) (ha:a.size≤1000) (hb:b.size≤1000) (hc:c.size≤1000) (hd:d.size≤1000) (hr:vl4 a b c d=false) :
  Calls Tryz.prog 80 #[.agg #[.string a,.string b,.string c,.string d]] w fun e w'=>e=.returned (.int .i64 3)∧Below w.heap.size w w':=by
 have HF:=Lib.hid (fun w=>rpformV_c a b c d false w ha hb hc hd hr);clear ha hb hc hd hr;go_enter Tryz.func80,Tryz.ntmps80
 go_wp2_with fail
 refine (HF.out _).mono ?_;rintro e w1 ⟨rfl,hb1⟩;go_wp2;go_ret
 exact ⟨rfl,bt (b1 _ _) hb1⟩
theorem rpedcheck_grp (p q g h:Nat) (w:World) (hp:p<256^8) (hq:q<256^128) (hgb:g<256^128) (hhb:h<256^128) (he:grpE p q=13) :
  Calls Tryz.prog 80 #[.agg #[.string (E p),.string (E q),.string (E g),.string (E h)]] w fun e w'=>e=.returned (.int .i64 13)∧Below w.heap.size w w':=by
 have HF:=Lib.hid (fun w=>rpformV_c (E p) (E q) (E g) (E h) true w (sz1000 (lt128 hp)) (sz1000 hq) (sz1000 hgb) (sz1000 hhb) (vl4_E (lt128 hp) hq hgb hhb));have HO:=Lib.hid (fun w=>rofK_c 1 1 w rfl (by decide));have hB:=Blk.new w #[Value.string (E p),Value.string (E q),Value.string (E g),Value.string (E h)] 35;have HC:=Lib.hid (fun w=>rpcheckV_c p q 13 w hp hq he);clear he;clear hp hq hgb hhb;go_enter Tryz.func80,Tryz.ntmps80
 go_wp2_with fail
 refine (HF.out _).mono ?_;rintro e w1 ⟨rfl,hb1⟩;replace hB:=hB.after hb1;obtain ⟨hBc0,hBf0,hBc1,hBf1,hBc2,hBf2,hBc3,hBf3⟩:=hB.x4;go_wp2_with fail
 refine (HC.out _).mono ?_;rintro e w2 ⟨rfl,hb2⟩;clear hBc0 hBf0 hBc1 hBf1 hBc2 hBf2 hBc3 hBf3;replace hB:=hB.after hb2;go_wp2;go_ret
 exact ⟨rfl,bt (bt (b1 _ _) hb1) hb2⟩
theorem rpedcheck_g (p q g h:Nat) (w:World) (hp:p<256^8) (hq:q<256^128) (hgb:g<256^128) (hhb:h<256^128) (he:grpE p q=0) (h1:hasB p q g=false) :
  Calls Tryz.prog 80 #[.agg #[.string (E p),.string (E q),.string (E g),.string (E h)]] w fun e w'=>e=.returned (.int .i64 13)∧Below w.heap.size w w':=by
 have HF:=Lib.hid (fun w=>rpformV_c (E p) (E q) (E g) (E h) true w (sz1000 (lt128 hp)) (sz1000 hq) (sz1000 hgb) (sz1000 hhb) (vl4_E (lt128 hp) hq hgb hhb));have HO:=Lib.hid (fun w=>rofK_c 1 1 w rfl (by decide));have hB:=Blk.new w #[Value.string (E p),Value.string (E q),Value.string (E g),Value.string (E h)] 35;have HC:=Lib.hid (fun w=>rpcheckV_c p q 0 w hp hq he);have HG:=Lib.hid (fun w=>rHasV_c p q g false w hp hq he hgb h1);clear he h1;clear hp hq hgb hhb;go_enter Tryz.func80,Tryz.ntmps80
 go_wp2_with fail
 refine (HF.out _).mono ?_;rintro e w1 ⟨rfl,hb1⟩;replace hB:=hB.after hb1;obtain ⟨hBc0,hBf0,hBc1,hBf1,hBc2,hBf2,hBc3,hBf3⟩:=hB.x4;go_wp2_with fail
 refine (HC.out _).mono ?_;rintro e w2 ⟨rfl,hb2⟩;clear hBc0 hBf0 hBc1 hBf1 hBc2 hBf2 hBc3 hBf3;replace hB:=hB.after hb2;have hBg0:=hB.gcell 0;have hBg1:=hB.gcell 1;have hBg2:=hB.gcell 2;have hBg3:=hB.gcell 3;go_wp2_with fail
 refine wp_region_gw (by kernel_rfl) (by kernel_rfl) ?_;repeat (go_big_quiet_step (first | (go_at_call 119;exact gw_of (HG.out _))))
 refine wpQuiet_nil ?_;rintro w3 ⟨xw3,rfl⟩;have hb3:=gw_below xw3;generalize gw xw3=w3 at hb3;go_wp2;go_ret
 exact ⟨rfl,bt (bt (bt (b1 _ _) hb1) hb2) hb3⟩
theorem rpedcheck_h (p q g h:Nat) (w:World) (hp:p<256^8) (hq:q<256^128) (hgb:g<256^128) (hhb:h<256^128) (he:grpE p q=0) (h1:hasB p q g=true) (h2:hasB p q h=false) :
  Calls Tryz.prog 80 #[.agg #[.string (E p),.string (E q),.string (E g),.string (E h)]] w fun e w'=>e=.returned (.int .i64 13)∧Below w.heap.size w w':=by
 have HF:=Lib.hid (fun w=>rpformV_c (E p) (E q) (E g) (E h) true w (sz1000 (lt128 hp)) (sz1000 hq) (sz1000 hgb) (sz1000 hhb) (vl4_E (lt128 hp) hq hgb hhb));have HO:=Lib.hid (fun w=>rofK_c 1 1 w rfl (by decide));have hB:=Blk.new w #[Value.string (E p),Value.string (E q),Value.string (E g),Value.string (E h)] 35;have HC:=Lib.hid (fun w=>rpcheckV_c p q 0 w hp hq he);have HG:=Lib.hid (fun w=>rHasV_c p q g true w hp hq he hgb h1);have HH:=Lib.hid (fun w=>rHasV_c p q h false w hp hq he hhb h2);clear he h1 h2;clear hp hq hgb hhb;go_enter Tryz.func80,Tryz.ntmps80
 go_wp2_with fail
 refine (HF.out _).mono ?_;rintro e w1 ⟨rfl,hb1⟩;replace hB:=hB.after hb1;obtain ⟨hBc0,hBf0,hBc1,hBf1,hBc2,hBf2,hBc3,hBf3⟩:=hB.x4;go_wp2_with fail
 refine (HC.out _).mono ?_;rintro e w2 ⟨rfl,hb2⟩;clear hBc0 hBf0 hBc1 hBf1 hBc2 hBf2 hBc3 hBf3;replace hB:=hB.after hb2;have hBg0:=hB.gcell 0;have hBg1:=hB.gcell 1;have hBg2:=hB.gcell 2;have hBg3:=hB.gcell 3;go_wp2_with fail
 refine wp_region_gw (by kernel_rfl) (by kernel_rfl) ?_;repeat (go_big_quiet_step (first | (go_at_call 119;first | (with_reducible exact gw_of (HG.out _)) | (with_reducible exact gw_of (HH.out _)))))
 refine wpQuiet_nil ?_;rintro w3 ⟨xw3,rfl⟩;have hb3:=gw_below xw3;generalize gw xw3=w3 at hb3;go_wp2;go_ret
 exact ⟨rfl,bt (bt (bt (b1 _ _) hb1) hb2) hb3⟩
theorem rpedcheck_g1 (p q g h:Nat) (w:World) (hp:p<256^8) (hq:q<256^128) (hgb:g<256^128) (hhb:h<256^128) (he:grpE p q=0) (h1:hasB p q g=true) (h2:hasB p q h=true) (h3:g=1) :
  Calls Tryz.prog 80 #[.agg #[.string (E p),.string (E q),.string (E g),.string (E h)]] w fun e w'=>e=.returned (.int .i64 13)∧Below w.heap.size w w':=by
 have HF:=Lib.hid (fun w=>rpformV_c (E p) (E q) (E g) (E h) true w (sz1000 (lt128 hp)) (sz1000 hq) (sz1000 hgb) (sz1000 hhb) (vl4_E (lt128 hp) hq hgb hhb));have HO:=Lib.hid (fun w=>rofK_c 1 1 w rfl (by decide));have hB:=Blk.new w #[Value.string (E p),Value.string (E q),Value.string (E g),Value.string (E h)] 35;have HC:=Lib.hid (fun w=>rpcheckV_c p q 0 w hp hq he);have HG:=Lib.hid (fun w=>rHasV_c p q g true w hp hq he hgb h1);have HH:=Lib.hid (fun w=>rHasV_c p q h true w hp hq he hhb h2);have e1:=eqE h3;clear he h1 h2 h3;clear hp hq hgb hhb;go_enter Tryz.func80,Tryz.ntmps80
 go_wp2_with fail
 refine (HF.out _).mono ?_;rintro e w1 ⟨rfl,hb1⟩;replace hB:=hB.after hb1;obtain ⟨hBc0,hBf0,hBc1,hBf1,hBc2,hBf2,hBc3,hBf3⟩:=hB.x4;go_wp2_with fail
 refine (HC.out _).mono ?_;rintro e w2 ⟨rfl,hb2⟩;clear hBc0 hBf0 hBc1 hBf1 hBc2 hBf2 hBc3 hBf3;replace hB:=hB.after hb2;have hBg0:=hB.gcell 0;have hBg1:=hB.gcell 1;have hBg2:=hB.gcell 2;have hBg3:=hB.gcell 3;go_wp2_with fail
 refine wp_region_gw (by kernel_rfl) (by kernel_rfl) ?_;repeat (go_big_quiet_step (first | (go_at_call 119;first | (with_reducible exact gw_of (HG.out _)) | (with_reducible exact gw_of (HH.out _))) | (go_at_call 46;exact gw_of (HO.out _))))
 refine wpQuiet_nil ?_;rintro w3 ⟨xw3,rfl⟩;have hb3:=gw_below xw3;generalize gw xw3=w3 at hb3;go_wp2;go_ret
 exact ⟨rfl,bt (bt (bt (b1 _ _) hb1) hb2) hb3⟩
theorem rpedcheck_h1 (p q g h:Nat) (w:World) (hp:p<256^8) (hq:q<256^128) (hgb:g<256^128) (hhb:h<256^128) (he:grpE p q=0) (h1:hasB p q g=true) (h2:hasB p q h=true) (h3:g≠1) (h4:h=1) :
  Calls Tryz.prog 80 #[.agg #[.string (E p),.string (E q),.string (E g),.string (E h)]] w fun e w'=>e=.returned (.int .i64 13)∧Below w.heap.size w w':=by
 have HF:=Lib.hid (fun w=>rpformV_c (E p) (E q) (E g) (E h) true w (sz1000 (lt128 hp)) (sz1000 hq) (sz1000 hgb) (sz1000 hhb) (vl4_E (lt128 hp) hq hgb hhb));have HO:=Lib.hid (fun w=>rofK_c 1 1 w rfl (by decide));have hB:=Blk.new w #[Value.string (E p),Value.string (E q),Value.string (E g),Value.string (E h)] 35;have HC:=Lib.hid (fun w=>rpcheckV_c p q 0 w hp hq he);have HG:=Lib.hid (fun w=>rHasV_c p q g true w hp hq he hgb h1);have HH:=Lib.hid (fun w=>rHasV_c p q h true w hp hq he hhb h2);have e1:=neE h3;have e2:=eqE h4;clear he h1 h2 h3 h4;clear hp hq hgb hhb;go_enter Tryz.func80,Tryz.ntmps80
 go_wp2_with fail
 refine (HF.out _).mono ?_;rintro e w1 ⟨rfl,hb1⟩;replace hB:=hB.after hb1;obtain ⟨hBc0,hBf0,hBc1,hBf1,hBc2,hBf2,hBc3,hBf3⟩:=hB.x4;go_wp2_with fail
 refine (HC.out _).mono ?_;rintro e w2 ⟨rfl,hb2⟩;clear hBc0 hBf0 hBc1 hBf1 hBc2 hBf2 hBc3 hBf3;replace hB:=hB.after hb2;have hBg0:=hB.gcell 0;have hBg1:=hB.gcell 1;have hBg2:=hB.gcell 2;have hBg3:=hB.gcell 3;go_wp2_with fail
 refine wp_region_gw (by kernel_rfl) (by kernel_rfl) ?_;repeat (go_big_quiet_step (first | (go_at_call 119;first | (with_reducible exact gw_of (HG.out _)) | (with_reducible exact gw_of (HH.out _))) | (go_at_call 46;exact gw_of (HO.out _))))
 refine wpQuiet_nil ?_;rintro w3 ⟨xw3,rfl⟩;have hb3:=gw_below xw3;generalize gw xw3=w3 at hb3;go_wp2;go_ret
 exact ⟨rfl,bt (bt (bt (b1 _ _) hb1) hb2) hb3⟩
theorem rpedcheck_gh (p q g h:Nat) (w:World) (hp:p<256^8) (hq:q<256^128) (hgb:g<256^128) (hhb:h<256^128) (he:grpE p q=0) (h1:hasB p q g=true) (h2:hasB p q h=true) (h3:g≠1) (h4:h≠1) (h5:g=h) :
  Calls Tryz.prog 80 #[.agg #[.string (E p),.string (E q),.string (E g),.string (E h)]] w fun e w'=>e=.returned (.int .i64 13)∧Below w.heap.size w w':=by
 have HF:=Lib.hid (fun w=>rpformV_c (E p) (E q) (E g) (E h) true w (sz1000 (lt128 hp)) (sz1000 hq) (sz1000 hgb) (sz1000 hhb) (vl4_E (lt128 hp) hq hgb hhb));have HO:=Lib.hid (fun w=>rofK_c 1 1 w rfl (by decide));have hB:=Blk.new w #[Value.string (E p),Value.string (E q),Value.string (E g),Value.string (E h)] 35;have HC:=Lib.hid (fun w=>rpcheckV_c p q 0 w hp hq he);have HG:=Lib.hid (fun w=>rHasV_c p q g true w hp hq he hgb h1);have HH:=Lib.hid (fun w=>rHasV_c p q h true w hp hq he hhb h2);have e1:=neE h3;have e2:=neE h4;have e3:=eqE h5;clear he h1 h2 h3 h4 h5;clear hp hq hgb hhb;go_enter Tryz.func80,Tryz.ntmps80
 go_wp2_with fail
 refine (HF.out _).mono ?_;rintro e w1 ⟨rfl,hb1⟩;replace hB:=hB.after hb1;obtain ⟨hBc0,hBf0,hBc1,hBf1,hBc2,hBf2,hBc3,hBf3⟩:=hB.x4;go_wp2_with fail
 refine (HC.out _).mono ?_;rintro e w2 ⟨rfl,hb2⟩;clear hBc0 hBf0 hBc1 hBf1 hBc2 hBf2 hBc3 hBf3;replace hB:=hB.after hb2;have hBg0:=hB.gcell 0;have hBg1:=hB.gcell 1;have hBg2:=hB.gcell 2;have hBg3:=hB.gcell 3;go_wp2_with fail
 refine wp_region_gw (by kernel_rfl) (by kernel_rfl) ?_;repeat (go_big_quiet_step (first | (go_at_call 119;first | (with_reducible exact gw_of (HG.out _)) | (with_reducible exact gw_of (HH.out _))) | (go_at_call 46;exact gw_of (HO.out _))))
 refine wpQuiet_nil ?_;rintro w3 ⟨xw3,rfl⟩;have hb3:=gw_below xw3;generalize gw xw3=w3 at hb3;go_wp2;go_ret
 exact ⟨rfl,bt (bt (bt (b1 _ _) hb1) hb2) hb3⟩
theorem rpedcheck_ok (p q g h:Nat) (w:World) (hp:p<256^8) (hq:q<256^128) (hgb:g<256^128) (hhb:h<256^128) (he:grpE p q=0) (h1:hasB p q g=true) (h2:hasB p q h=true) (h3:g≠1) (h4:h≠1) (h5:g≠h) :
  Calls Tryz.prog 80 #[.agg #[.string (E p),.string (E q),.string (E g),.string (E h)]] w fun e w'=>e=.returned (.int .i64 0)∧Below w.heap.size w w':=by
 have HF:=Lib.hid (fun w=>rpformV_c (E p) (E q) (E g) (E h) true w (sz1000 (lt128 hp)) (sz1000 hq) (sz1000 hgb) (sz1000 hhb) (vl4_E (lt128 hp) hq hgb hhb));have HO:=Lib.hid (fun w=>rofK_c 1 1 w rfl (by decide));have hB:=Blk.new w #[Value.string (E p),Value.string (E q),Value.string (E g),Value.string (E h)] 35;have HC:=Lib.hid (fun w=>rpcheckV_c p q 0 w hp hq he);have HG:=Lib.hid (fun w=>rHasV_c p q g true w hp hq he hgb h1);have HH:=Lib.hid (fun w=>rHasV_c p q h true w hp hq he hhb h2);have e1:=neE h3;have e2:=neE h4;have e3:=neE h5;clear he h1 h2 h3 h4 h5;clear hp hq hgb hhb;go_enter Tryz.func80,Tryz.ntmps80
 go_wp2_with fail
 refine (HF.out _).mono ?_;rintro e w1 ⟨rfl,hb1⟩;replace hB:=hB.after hb1;obtain ⟨hBc0,hBf0,hBc1,hBf1,hBc2,hBf2,hBc3,hBf3⟩:=hB.x4;go_wp2_with fail
 refine (HC.out _).mono ?_;rintro e w2 ⟨rfl,hb2⟩;clear hBc0 hBf0 hBc1 hBf1 hBc2 hBf2 hBc3 hBf3;replace hB:=hB.after hb2;have hBg0:=hB.gcell 0;have hBg1:=hB.gcell 1;have hBg2:=hB.gcell 2;have hBg3:=hB.gcell 3;go_wp2_with fail
 refine wp_region_gw (by kernel_rfl) (by kernel_rfl) ?_;repeat (go_big_quiet_step (first | (go_at_call 119;first | (with_reducible exact gw_of (HG.out _)) | (with_reducible exact gw_of (HH.out _))) | (go_at_call 46;exact gw_of (HO.out _))))
 refine wpQuiet_nil ?_;rintro w3 ⟨xw3,rfl⟩;have hb3:=gw_below xw3;generalize gw xw3=w3 at hb3;go_wp2;go_ret
 exact ⟨rfl,bt (bt (bt (b1 _ _) hb1) hb2) hb3⟩
theorem rpedcheck_c (p q g h:Nat) (w:World) (hp:p<256^8) (hq:q<256^128) (hgb:g<256^128) (hhb:h<256^128) :
  Calls Tryz.prog 80 #[.agg #[.string (E p),.string (E q),.string (E g),.string (E h)]] w fun e w'=>e=.returned (.int .i64 (pedE p q g h))∧Below w.heap.size w w':=by
 rcases grpE_cases p q with he | he
 ·by_cases h1:hasB p q g=true
  ·by_cases h2:hasB p q h=true
   ·by_cases h3:g=1
    ·rw [show pedE p q g h=13 by rw [pedE,if_pos he,if_neg (fun k=>k.2.2.1 h3)]];exact rpedcheck_g1 p q g h w hp hq hgb hhb he h1 h2 h3
    ·by_cases h4:h=1
     ·rw [show pedE p q g h=13 by rw [pedE,if_pos he,if_neg (fun k=>k.2.2.2.1 h4)]];exact rpedcheck_h1 p q g h w hp hq hgb hhb he h1 h2 h3 h4
     ·by_cases h5:g=h
      ·rw [show pedE p q g h=13 by rw [pedE,if_pos he,if_neg (fun k=>k.2.2.2.2 h5)]];exact rpedcheck_gh p q g h w hp hq hgb hhb he h1 h2 h3 h4 h5
      ·rw [show pedE p q g h=0 by rw [pedE,if_pos he,if_pos ⟨h1,h2,h3,h4,h5⟩]];exact rpedcheck_ok p q g h w hp hq hgb hhb he h1 h2 h3 h4 h5
   ·rw [show pedE p q g h=13 by rw [pedE,if_pos he,if_neg (fun k=>h2 k.2.1)]];exact rpedcheck_h p q g h w hp hq hgb hhb he h1 (by simpa using h2)
  ·rw [show pedE p q g h=13 by rw [pedE,if_pos he,if_neg (fun k=>h1 k.1)]];exact rpedcheck_g p q g h w hp hq hgb hhb he (by simpa using h1)
 ·rw [show pedE p q g h=13 by rw [pedE,if_neg (by omega)]];exact rpedcheck_grp p q g h w hp hq hgb hhb he
theorem rpedcheckV_c (p q g h k:Nat) (w:World) (hp:p<256^8) (hq:q<256^128) (hgb:g<256^128) (hhb:h<256^128) (hk:pedE p q g h=k) :
  Calls Tryz.prog 80 #[.agg #[.string (E p),.string (E q),.string (E g),.string (E h)]] w fun e w'=>e=.returned (.int .i64 k)∧Below w.heap.size w w':=by
 rw [←hk];exact rpedcheck_c p q g h w hp hq hgb hhb
end
section
open Go.RowKit Go.Shelf
theorem pred1_c (z:Int) (p q g h gk:Nat) (w:World) (hB:Blk w gk 35 [.string (E p),.string (E q),.string (E g),.string (E h)]) (hz:z.natAbs<256^8) (hq:q<256^8) (h0:0<q) :
  Calls Tryz.prog 134 #[.agg #[.bool (sg (z)),.string (E (z).natAbs)],.pointer (some ⟨gk,0,none⟩)] w fun e w'=>e=.returned (.agg #[.bool false,.string (E (z%(q:Int)).toNat)])∧Below w.heap.size w w':=by
 obtain ⟨r,hr⟩:∃r,r=(z%(q:Int)).toNat:=⟨_,rfl⟩;rw [←hr];have hrq:r<q:=by rw [hr];have:=Int.emod_lt_of_pos z (show (0:Int)<q by omega);omega
 have HM:Hid (∀w:World,Calls Tryz.prog 62 #[.agg #[.bool (sg (z)),.string (E (z).natAbs)],.string (E q)] w fun e w'=>e=.returned (.tuple #[.string (E r),.int .i64 0])∧Below w.heap.size w w'):=fun w=>by
  rw [hr];exact imod_c z q w hz (Nat.lt_of_lt_of_le hq (Nat.pow_le_pow_right (by decide) (by decide))) h0
 have HF:Hid (∀w:World,Calls Tryz.prog 87 #[.string (E r)] w fun e w'=>e=.returned (.agg #[.bool false,.string (E r)])∧Below w.heap.size w w'):=fun w=>ifrom_c r w (Nat.lt_trans hrq (Nat.lt_of_lt_of_le hq (Nat.pow_le_pow_right (by decide) (by decide))))
 clear hr hrq hz h0;generalize sg z=b at HM ⊢;generalize E z.natAbs=s at HM ⊢;have hA:=blk2a w #[.bool b,.string s] #[.bool false,.string ⟨#[]⟩] 37 37;have hR:=blk2b w #[.bool b,.string s] #[.bool false,.string ⟨#[]⟩] 37 37;have hBW:=b2 w (.cells #[.bool b,.string s] 37) (.cells #[.bool false,.string ⟨#[]⟩] 37);have hB1:=hB.after hBW;have hBl:=hB1.lt;obtain ⟨hAc0,hAf0,hAc1,hAf1⟩:=hA.x2;obtain ⟨hB1c0,hB1f0,hB1c1,hB1f1,hB1c2,hB1f2,hB1c3,hB1f3⟩:=hB1.x4;go_enter Tryz.func134,Tryz.ntmps134
 go_wp2_with fail
 refine (HM.out _).mono ?_;rintro e w2 ⟨rfl,hb2⟩;clear hAc0 hAf0 hAc1 hAf1;clear hB1c0 hB1f0 hB1c1 hB1f1 hB1c2 hB1f2 hB1c3 hB1f3;replace hR:=hR.after hb2;replace hBW:=bt hBW hb2;clear hb2 hA hB1 hBl;go_wp2_with fail
 refine (HF.out _).mono ?_;rintro e w3 ⟨rfl,hb3⟩;replace hR:=hR.after hb3;replace hBW:=bt hBW hb3;clear hb3;have hRl:=hR.lt;obtain ⟨hRc0,hRf0,hRc1,hRf1⟩:=hR.x2;go_wp2;refine bodyPost_ret (v:=.agg #[.bool false,.string (E r)]) ?_ rfl ?_
 ·simp [results,Tryz.results134,go_sem,hRc0,hRc1,hRl]
 ·exact ⟨rfl,((hBW.setCell (p:=⟨w.heap.size+1,0,none⟩) (Nat.le_succ _) _).setCell (p:=⟨w.heap.size+1,1,none⟩) (Nat.le_succ _) _)⟩
theorem wp_callV {P:Program} {o:Oper} {a:Act} {w:World} {Q:Exit→Act→World→Prop} (f:FuncId) (k:Nat) (caps:Array Value) (xs:Array Operand) (ts:Array TypeId)
  (ho:o.op=.call { callee:=.value (.tmp k),args:=xs,argTypes:=ts }) (hd:a.tmps[k]?=some (.func (.func f) #[] caps)) (hE:∀args w,(callFunc f args).run P w=.ok (.enter f args) w) {R:Value→World→Prop}
  (hc:Calls P f (xs.map a.eval++caps) w fun e w'=>∃v,e=.returned v∧Below w.heap.size w w'∧R v w'):Oper.wp P o a w (fun a' w'=>∃v,a'=a.put o.dst v∧Below w.heap.size w w'∧R v w') Q:=by
 have hrun:(execOp a.eval o).run P w=.ok (.enter f (xs.map a.eval++caps)) w:=by
  simp [execOp,ho,resolve,invoke,go_sem,hE,hd]
 unfold Oper.wp;rw [hrun,Oper.upon_enter];refine hc.mono fun e w' he=>?_
 obtain ⟨v,rfl,hb,hR⟩:=he;exact ⟨v,rfl,hb,hR⟩
def vRd (gK gO:Nat) (vm vr m' r':Value) (am ar:Nat):RVB:=fun st i v w=>match i with
 | 0=>v=.func (.func 134) #[] #[.pointer (some ⟨gK,0,none⟩)]
 | 1=>v=.pointer (some ⟨gO,0,none⟩)
 | 2=>v=vm
 | 3=>v=m'
 | 4=>v=.func (.func 134) #[] #[.pointer (some ⟨gK,0,none⟩)]
 | 5=>v=.pointer (some ⟨gO,2,none⟩)
 | 6=>v=vr
 | 7=>v=r'
 | 8=>v=.agg #[.bool false,.string (E am),.bool false,.string (E ar)]
 | _=>True
theorem vRd_st (gK gO:Nat) (vm vr m' r':Value) (am ar:Nat):∀(l l':List Bool) (j:Nat) (u:Value) (w w':World),vRd gK gO vm vr m' r' am ar l j u w→vRd gK gO vm vr m' r' am ar l' j u w':=by
 intro l l' j u w w' h;unfold vRd at h ⊢;exact h
def fRd (gR am ar:Nat) (st:List Bool) (w:World):Prop:=(st=[false]→Blk w gR 39 [.bool false,.string ⟨#[]⟩,.bool false,.string ⟨#[]⟩])∧(st=[true]→Blk w gR 39 [.bool false,.string (E am),.bool false,.string (E ar)])
theorem pred_c (m r:Int) (p q g h:Nat) (w:World) (hm:m.natAbs<256^8) (hr:r.natAbs<256^8) (hq:q<256^8) (h0:0<q) :
  Calls Tryz.prog 107 #[.agg #[.string (E p),.string (E q),.string (E g),.string (E h)],.agg #[.bool (sg m),.string (E m.natAbs),.bool (sg r),.string (E r.natAbs)]] w fun e w' =>
   e=.returned (.agg #[.bool false,.string (E (m%(q:Int)).toNat),.bool false,.string (E (r%(q:Int)).toNat)])∧Below w.heap.size w w':=by
 obtain ⟨am,ham⟩:∃n,n=(m%(q:Int)).toNat:=⟨_,rfl⟩;obtain ⟨ar,har⟩:∃n,n=(r%(q:Int)).toNat:=⟨_,rfl⟩;have HP1:Hid (∀w':World,Blk w' w.heap.size 35 [.string (E p),.string (E q),.string (E g),.string (E h)]→Calls Tryz.prog 134 #[.agg #[.bool (sg (m)),.string (E (m).natAbs)],.pointer (some ⟨w.heap.size,0,none⟩)] w' fun e w''=>e=.returned (.agg #[.bool false,.string (E am)])∧Below w'.heap.size w' w''):=fun w' hb=>by rw [ham];exact pred1_c m p q g h w.heap.size w' hb hm hq h0
 have HP2:Hid (∀w':World,Blk w' w.heap.size 35 [.string (E p),.string (E q),.string (E g),.string (E h)]→Calls Tryz.prog 134 #[.agg #[.bool (sg (r)),.string (E (r).natAbs)],.pointer (some ⟨w.heap.size,0,none⟩)] w' fun e w''=>e=.returned (.agg #[.bool false,.string (E ar)])∧Below w'.heap.size w' w''):=fun w' hb=>by rw [har];exact pred1_c r p q g h w.heap.size w' hb hr hq h0
 rw [←ham,←har];clear ham har;have hK:=blk3a w #[.string (E p),.string (E q),.string (E g),.string (E h)] #[.bool (sg m),.string (E m.natAbs),.bool (sg r),.string (E r.natAbs)] #[.bool false,.string ⟨#[]⟩,.bool false,.string ⟨#[]⟩] 35 39 39;have hO:=blk3b w #[.string (E p),.string (E q),.string (E g),.string (E h)] #[.bool (sg m),.string (E m.natAbs),.bool (sg r),.string (E r.natAbs)] #[.bool false,.string ⟨#[]⟩,.bool false,.string ⟨#[]⟩] 35 39 39;have hR:=blk3c w #[.string (E p),.string (E q),.string (E g),.string (E h)] #[.bool (sg m),.string (E m.natAbs),.bool (sg r),.string (E r.natAbs)] #[.bool false,.string ⟨#[]⟩,.bool false,.string ⟨#[]⟩] 35 39 39;have hBW:=b3 w (.cells #[.string (E p),.string (E q),.string (E g),.string (E h)] 35) (.cells #[.bool (sg m),.string (E m.natAbs),.bool (sg r),.string (E r.natAbs)] 39) (.cells #[.bool false,.string ⟨#[]⟩,.bool false,.string ⟨#[]⟩] 39);have hz:=nzE h0;have hz2:=nzE2 h0;have hmf:∀(fn:Fn) (first cap:Array Value) (w:World),(Instr.makeFunc fn first cap).run Tryz.prog w=.ok (.func fn first cap) w:=fun _ _ _ _=>rfl
 obtain ⟨hKc0,hKf0,hKc1,hKf1,hKc2,hKf2,hKc3,hKf3⟩:=hK.x4;go_enter Tryz.func107,Tryz.ntmps107
 go_upto_region 4 with fail
 clear hKc0 hKf0 hKc1 hKf1 hKc2 hKf2 hKc3 hKf3;obtain ⟨gO,hgO⟩:∃x,w.heap.size+1=x:=⟨_,rfl⟩;obtain ⟨gR,hgR⟩:∃x,w.heap.size+1+1=x:=⟨_,rfl⟩;have HGW:Hid (w.heap.size≤gR):=by rw [Hid];omega
 have HGG:Hid (w.heap.size<gR∧gO<gR):=by rw [Hid];omega
 rw [hgR,hgO];generalize ((w.alloc (.cells #[.string (E p),.string (E q),.string (E g),.string (E h)] 35)).alloc (.cells #[.bool (sg m),.string (E m.natAbs),.bool (sg r),.string (E r.natAbs)] 39)).alloc (.cells #[.bool false,.string ⟨#[]⟩,.bool false,.string ⟨#[]⟩] 39)=w1 at hK hO hR hBW ⊢;replace hK:Blk w1 w.heap.size 35 [.string (E p),.string (E q),.string (E g),.string (E h)]:=hK;replace hO:Blk w1 gO 39 [.bool (sg m),.string (E m.natAbs),.bool (sg r),.string (E r.natAbs)]:=hgO ▸ hO;replace hR:Blk w1 gR 39 [.bool false,.string ⟨#[]⟩,.bool false,.string ⟨#[]⟩]:=hgR ▸ hR;clear hgO hgR hz hz2 hmf hm hr hq h0;have hRl:=hR.lt;obtain ⟨w0,hw0⟩:∃x,x=w:=⟨_,rfl⟩;subst hw0;refine wp_region_invB (vRd w0.heap.size gO (.agg #[.bool (sg (m)),.string (E (m).natAbs)]) (.agg #[.bool (sg (r)),.string (E (r).natAbs)]) (.agg #[.bool false,.string (E am)]) (.agg #[.bool false,.string (E ar)]) am ar) [9] gR (fRd gR am ar) 21 ⟨fun _=>hR,fun h=>by cases h⟩ (by kernel_rfl) rfl (by kernel_rfl) ?_ ?_ (by kernel_rfl)
 ·intro hsl done a' w' i o hJ ho hun hpre;have hi:=(Array.getElem?_eq_some_iff.1 ho).1;have hst:∀(l:List Bool) (j:Nat) (u:Value) (w w':World),Below w.heap.size w w'→vRd w0.heap.size gO (.agg #[.bool (sg (m)),.string (E (m).natAbs)]) (.agg #[.bool (sg (r)),.string (E (r).natAbs)]) (.agg #[.bool false,.string (E am)]) (.agg #[.bool false,.string (E ar)]) am ar l j u w→vRd w0.heap.size gO (.agg #[.bool (sg (m)),.string (E (m).natAbs)]) (.agg #[.bool (sg (r)),.string (E (r).natAbs)]) (.agg #[.bool false,.string (E am)]) (.agg #[.bool false,.string (E ar)]) am ar l j u w':=fun l j u w w' _ h=>vRd_st _ _ _ _ _ _ _ _ l l j u w w' h
  have hFt:∀(b:List Bool) (w w':World),Below w.heap.size w w'→fRd gR am ar b w→fRd gR am ar b w':=fun b w w' hb h=>⟨fun e=>(h.1 e).after hb,fun e=>(h.2 e).after hb⟩
  have hwz:gR≤w'.heap.size:=Nat.le_trans (Nat.le_of_lt hRl) hJ.bw.size;have hKx:Blk w' w0.heap.size 35 [.string (E p),.string (E q),.string (E g),.string (E h)]:=by show w'.heap[_]?=_;rw [hJ.bw.block _ HGG.out.1];exact hK
  have hOx:Blk w' gO 39 [.bool (sg m),.string (E m.natAbs),.bool (sg r),.string (E r.natAbs)]:=by show w'.heap[_]?=_;rw [hJ.bw.block _ HGG.out.2];exact hO
  have hOl:=hOx.lt;have y0:=hOx.cell 0;have y1:=hOx.cell 1;have y2:=hOx.cell 2;have y3:=hOx.cell 3
  match i,hi,ho,hun,hpre with
   | 0,_,ho,hun,hpre =>
    simp at ho;subst ho;refine hJ.op (d:=12) hsl hst hFt hwz rfl rfl rfl (by decide) hpre ?_;have q5:=hJ.keep 5 (.func (.func 134) #[] #[.pointer (some ⟨w0.heap.size,0,none⟩)]) rfl (by kernel_rfl);refine wp_val (v:=.func (.func 134) #[] #[.pointer (some ⟨w0.heap.size,0,none⟩)]) (by simp [execOp,q5,go_sem]) rfl
   | 1,_,ho,hun,hpre =>
    simp at ho;subst ho;refine hJ.op (d:=13) hsl hst hFt hwz rfl rfl rfl (by decide) hpre ?_;have q3:=hJ.keep 3 (.pointer (some ⟨gO,0,none⟩)) rfl (by kernel_rfl);refine wp_val (v:=.pointer (some ⟨gO,0,none⟩)) (by simp [execOp,q3,go_sem]) rfl
   | 2,_,ho,hun,hpre =>
    simp at ho;subst ho;refine hJ.op (d:=14) hsl hst hFt hwz rfl rfl rfl (by decide) hpre ?_;obtain ⟨v13,ev13,hv13⟩:=hJ.dn 1 _ 13 rfl (hpre ⟨1,.data⟩ (by simp) rfl) rfl;have qv13:=eval_of ev13;obtain rfl:v13=.pointer (some ⟨gO,0,none⟩):=hv13;refine wp_val (v:=.agg #[.bool (sg (m)),.string (E (m).natAbs)]) (by simp [execOp,ev13,go_sem,y0,y1]) rfl
   | 3,_,ho,hun,hpre =>
    simp at ho;subst ho;refine hJ.op (d:=15) hsl hst hFt hwz rfl rfl rfl (by decide) hpre ?_;obtain ⟨v12,ev12,hv12⟩:=hJ.dn 0 _ 12 rfl (hpre ⟨0,.data⟩ (by simp) rfl) rfl;have qv12:=eval_of ev12;obtain ⟨v14,ev14,hv14⟩:=hJ.dn 2 _ 14 rfl (hpre ⟨2,.data⟩ (by simp) rfl) rfl;have qv14:=eval_of ev14;obtain rfl:v12=.func (.func 134) #[] #[.pointer (some ⟨w0.heap.size,0,none⟩)]:=hv12;obtain rfl:v14=.agg #[.bool (sg (m)),.string (E (m).natAbs)]:=hv14;refine wp_callV 134 12 #[.pointer (some ⟨w0.heap.size,0,none⟩)] #[.tmp 14] #[37] rfl ev12 (enters_of Tryz.func134 (by kernel_rfl) rfl) ?_;simp only [List.map_toArray,List.map_cons,List.map_nil,qv14];refine (HP1.out w' hKx).mono ?_;rintro e w'' ⟨rfl,hb⟩;exact ⟨_,rfl,hb,rfl⟩
   | 4,_,ho,hun,hpre =>
    simp at ho;subst ho;refine hJ.op (d:=16) hsl hst hFt hwz rfl rfl rfl (by decide) hpre ?_;have q5:=hJ.keep 5 (.func (.func 134) #[] #[.pointer (some ⟨w0.heap.size,0,none⟩)]) rfl (by kernel_rfl);refine wp_val (v:=.func (.func 134) #[] #[.pointer (some ⟨w0.heap.size,0,none⟩)]) (by simp [execOp,q5,go_sem]) rfl
   | 5,_,ho,hun,hpre =>
    simp at ho;subst ho;refine hJ.op (d:=17) hsl hst hFt hwz rfl rfl rfl (by decide) hpre ?_;have q3:=hJ.keep 3 (.pointer (some ⟨gO,0,none⟩)) rfl (by kernel_rfl);refine wp_val (v:=.pointer (some ⟨gO,2,none⟩)) (by simp [execOp,q3,go_sem]) rfl
   | 6,_,ho,hun,hpre =>
    simp at ho;subst ho;refine hJ.op (d:=18) hsl hst hFt hwz rfl rfl rfl (by decide) hpre ?_;obtain ⟨v17,ev17,hv17⟩:=hJ.dn 5 _ 17 rfl (hpre ⟨5,.data⟩ (by simp) rfl) rfl;have qv17:=eval_of ev17;obtain rfl:v17=.pointer (some ⟨gO,2,none⟩):=hv17;refine wp_val (v:=.agg #[.bool (sg (r)),.string (E (r).natAbs)]) (by simp [execOp,ev17,go_sem,y2,y3]) rfl
   | 7,_,ho,hun,hpre =>
    simp at ho;subst ho;refine hJ.op (d:=19) hsl hst hFt hwz rfl rfl rfl (by decide) hpre ?_;obtain ⟨v16,ev16,hv16⟩:=hJ.dn 4 _ 16 rfl (hpre ⟨4,.data⟩ (by simp) rfl) rfl;have qv16:=eval_of ev16;obtain ⟨v18,ev18,hv18⟩:=hJ.dn 6 _ 18 rfl (hpre ⟨6,.data⟩ (by simp) rfl) rfl;have qv18:=eval_of ev18;obtain rfl:v16=.func (.func 134) #[] #[.pointer (some ⟨w0.heap.size,0,none⟩)]:=hv16;obtain rfl:v18=.agg #[.bool (sg (r)),.string (E (r).natAbs)]:=hv18;refine wp_callV 134 16 #[.pointer (some ⟨w0.heap.size,0,none⟩)] #[.tmp 18] #[37] rfl ev16 (enters_of Tryz.func134 (by kernel_rfl) rfl) ?_;simp only [List.map_toArray,List.map_cons,List.map_nil,qv18];refine (HP2.out w' hKx).mono ?_;rintro e w'' ⟨rfl,hb⟩;exact ⟨_,rfl,hb,rfl⟩
   | 8,_,ho,hun,hpre =>
    simp at ho;subst ho;refine hJ.op (d:=20) hsl hst hFt hwz rfl rfl rfl (by decide) hpre ?_;obtain ⟨v15,ev15,hv15⟩:=hJ.dn 3 _ 15 rfl (hpre ⟨3,.data⟩ (by simp) rfl) rfl;have qv15:=eval_of ev15;obtain ⟨v19,ev19,hv19⟩:=hJ.dn 7 _ 19 rfl (hpre ⟨7,.data⟩ (by simp) rfl) rfl;have qv19:=eval_of ev19;obtain rfl:v15=.agg #[.bool false,.string (E am)]:=hv15;obtain rfl:v19=.agg #[.bool false,.string (E ar)]:=hv19;refine wp_val (v:=.agg #[.bool false,.string (E am),.bool false,.string (E ar)]) (by simp [execOp,ev15,ev19,go_sem]) rfl
   | 9,_,ho,hun,hpre =>
    simp at ho;subst ho;have q4:=hJ.keep 4 (.pointer (some ⟨gR,0,none⟩)) rfl (by kernel_rfl);obtain ⟨v20,ev20,hv20⟩:=hJ.dn 8 _ 20 rfl (hpre ⟨8,.data⟩ (by simp) rfl) rfl;have qv20:=eval_of ev20
    have hs0:stB [9] done=[false]:=by
     have k9:done.getD 9 false=false:=hun;simp only [stB,List.map_cons,List.map_nil,k9]
    have hi9:9<done.size:=by rw [hJ.sz];decide
    have hs1:stB [9] (done.setIfInBounds 9 true)=[true]:=by
     have e:=hs0;simp only [stB,List.map_cons,List.map_nil,List.cons.injEq,and_true] at e;simp only [stB,List.map_cons,List.map_nil,getD_set _ _ _ hi9,e,if_true,if_false,Nat.reduceEqDiff]
    obtain rfl:v20=.agg #[.bool false,.string (E am),.bool false,.string (E ar)]:=hv20;have hG:=hJ.ex.1 hs0;have hGl:=hG.lt;have f0:=hG.free 0;have f1:=hG.free 1;have f2:=hG.free 2;have f3:=hG.free 3;have z0:=hG.cell 0;have z1:=hG.cell 1;have z2:=hG.cell 2;have z3:=hG.cell 3;refine wpOp_step rfl fun K' hK=>?_
    rw [if_pos (by simp [Region.wanted])];simp [Oper.wp,execOp,ev20,q4,go_sem,f0,f1,f2,f3,z0,z1,z2,z3,hGl];have h9:=hJ.skip (i:=9) (v:=undef) rfl rfl hpre ((((hJ.bw.setCell (p:=⟨gR,0,none⟩) (Nat.le_refl _) (.bool false)).setCell (p:=⟨gR,1,none⟩) (Nat.le_refl _) (.string (E am))).setCell (p:=⟨gR,2,none⟩) (Nat.le_refl _) (.bool false)).setCell (p:=⟨gR,3,none⟩) (Nat.le_refl _) (.string (E ar))) ?_ ?_
    ·exact hK a' _ h9
    ·rw [hs1];exact ⟨fun e=>(by cases e),fun _=>(((hG.set 0 _).set 1 _).set 2 _).set 3 _⟩
    ·intro j q hq hj hdn d u hd hu hv;exact vRd_st _ _ _ _ _ _ _ _ _ _ j u _ _ hv
 ·intro done a' w' hJ hd;obtain ⟨f,hf,hv⟩:=hJ.all hd;have hs1:stB [9] done=[true]:=stB_all hd (by kernel_rfl);have hG:=hJ.ex.2 hs1;have hGl:=hG.lt;have hbw:=hJ.bw;clear hJ hv hd;subst hf;simp only [putAll,List.size_toArray,List.length_cons,List.length_nil,Nat.reduceAdd,List.getElem?_toArray,List.getElem?_cons_zero,List.getElem?_cons_succ,Option.bind_some,Act.put,List.setIfInBounds_toArray,List.set_cons_zero,List.set_cons_succ];obtain ⟨hGc0,hGf0,hGc1,hGf1,hGc2,hGf2,hGc3,hGf3⟩:=hG.x4;go_wp2_with fail
  refine bodyPost_ret (v:=.agg #[.bool false,.string (E am),.bool false,.string (E ar)]) ?_ rfl ?_
  ·simp [results,Tryz.results107,go_sem,hGc0,hGc1,hGc2,hGc3,hGl]
  ·exact ⟨rfl,hBW.trans (hbw.mono HGW.out)⟩
end
end Go.Proofs.YtdoacbdkbbpamaaGreatDoor
