import Derived.Test.YtdoacbdkbbpamaaGreatDoorLck6
set_option linter.unusedVariables false
set_option linter.unusedSimpArgs false
set_option maxRecDepth 100000
set_option maxHeartbeats 16000000
namespace Go.Proofs.YtdoacbdkbbpamaaGreatDoor
open Go.RowKit
theorem rpform_c (a b c d:ByteArray) (w:World) (ha:a.size≤1000) (hb:b.size≤1000) (hc:c.size≤1000) (hd:d.size≤1000) :
  Calls Tryz.prog 117 #[.agg #[.string a,.string b,.string c,.string d]] w fun e w'=>e=.returned (.bool (vl4 a b c d))∧Below w.heap.size w w':=by
 have HA:Hid (a.size≤4611686018427387904):=by unfold Hid;omega
 have HB:Hid (b.size≤4611686018427387904):=by unfold Hid;omega
 have HC:Hid (c.size≤4611686018427387904):=by unfold Hid;omega
 have HD:Hid (d.size≤4611686018427387904):=by unfold Hid;omega
 have HV:Hid (vl4 a b c d=(vldB a&&vldB b&&vldB c&&vldB d)):=rfl;clear ha hb hc hd;cases e1:vldB a
 ·have E1:=Lib.hid e1;have HR:Hid (vl4 a b c d=false):=by rw [Hid,HV.out,e1];rfl
  clear e1 HV;go_enter Tryz.func117,Tryz.ntmps117
  go_wp2_with fail
  refine (rvalidV_c a _ _ HA.out E1.out).mono ?_;rintro e w' ⟨rfl,rfl⟩;go_wp2;go_ret
  exact ⟨rb HR.out.symm,b1 _ _⟩
 ·have E1:=Lib.hid e1;cases e2:vldB b
  ·have E2:=Lib.hid e2;have HR:Hid (vl4 a b c d=false):=by rw [Hid,HV.out,e1,e2];rfl
   clear e1 e2 HV;go_enter Tryz.func117,Tryz.ntmps117
   go_wp2_with fail
   refine (rvalidV_c a _ _ HA.out E1.out).mono ?_;rintro e w' ⟨rfl,rfl⟩;go_wp2_with fail
   refine (rvalidV_c b _ _ HB.out E2.out).mono ?_;rintro e w' ⟨rfl,rfl⟩;go_wp2;go_ret
   exact ⟨rb HR.out.symm,b1 _ _⟩
  ·have E2:=Lib.hid e2;cases e3:vldB c
   ·have E3:=Lib.hid e3;have HR:Hid (vl4 a b c d=false):=by rw [Hid,HV.out,e1,e2,e3];rfl
    clear e1 e2 e3 HV;go_enter Tryz.func117,Tryz.ntmps117
    go_wp2_with fail
    refine (rvalidV_c a _ _ HA.out E1.out).mono ?_;rintro e w' ⟨rfl,rfl⟩;go_wp2_with fail
    refine (rvalidV_c b _ _ HB.out E2.out).mono ?_;rintro e w' ⟨rfl,rfl⟩;go_wp2_with fail
    refine (rvalidV_c c _ _ HC.out E3.out).mono ?_;rintro e w' ⟨rfl,rfl⟩;go_wp2;go_ret
    exact ⟨rb HR.out.symm,b1 _ _⟩
   ·have E3:=Lib.hid e3;have HR:Hid (vl4 a b c d=vldB d):=by rw [Hid,HV.out,e1,e2,e3];rfl
    clear e1 e2 e3 HV;go_enter Tryz.func117,Tryz.ntmps117
    go_wp2_with fail
    refine (rvalidV_c a _ _ HA.out E1.out).mono ?_;rintro e w' ⟨rfl,rfl⟩;go_wp2_with fail
    refine (rvalidV_c b _ _ HB.out E2.out).mono ?_;rintro e w' ⟨rfl,rfl⟩;go_wp2_with fail
    refine (rvalidV_c c _ _ HC.out E3.out).mono ?_;rintro e w' ⟨rfl,rfl⟩;go_wp2_with fail
    refine (rvalid_c d _ HD.out).mono ?_;rintro e w' ⟨rfl,rfl⟩;go_wp2;go_ret
    exact ⟨rb HR.out.symm,b1 _ _⟩
theorem rpformV_c (a b c d:ByteArray) (r:Bool) (w:World) (ha:a.size≤1000) (hb:b.size≤1000) (hc:c.size≤1000) (hd:d.size≤1000) (hr:vl4 a b c d=r) :
  Calls Tryz.prog 117 #[.agg #[.string a,.string b,.string c,.string d]] w fun e w'=>e=.returned (.bool r)∧Below w.heap.size w w':=by
 rw [←hr];exact rpform_c a b c d w ha hb hc hd
theorem rpedcheck_bad (a b c d:ByteArray) (w:World) (ha:a.size≤1000) (hb:b.size≤1000) (hc:c.size≤1000) (hd:d.size≤1000) (hr:vl4 a b c d=false) :
  Calls Tryz.prog 80 #[.agg #[.string a,.string b,.string c,.string d]] w fun e w'=>e=.returned (.int .i64 3)∧Below w.heap.size w w':=by
 have HF:=Lib.hid (fun w=>rpformV_c a b c d false w ha hb hc hd hr);clear ha hb hc hd hr;go_enter Tryz.func80,Tryz.ntmps80
 go_wp2_with fail
 refine (HF.out _).mono ?_;rintro e w1 ⟨rfl,hb1⟩;go_wp2;go_ret
 exact ⟨rfl,bt (b1 _ _) hb1⟩
theorem rpedcheck_grp (p q g h:Nat) (w:World) (hp:p<256^8) (hq:q<256^128) (hgb:g<256^128) (hhb:h<256^128) (he:grpE p q=13) :
  Calls Tryz.prog 80 #[.agg #[.string (E p),.string (E q),.string (E g),.string (E h)]] w fun e w'=>e=.returned (.int .i64 13)∧Below w.heap.size w w':=by
 have HF:=Lib.hid (fun w=>rpformV_c (E p) (E q) (E g) (E h) true w (sz1000 (lt128 hp)) (sz1000 hq) (sz1000 hgb) (sz1000 hhb) (vl4_E (lt128 hp) hq hgb hhb));have HO:=Lib.hid (fun w=>rofK_c 1 1 w rfl (by decide));have hB:=Blk.new w #[Value.string (E p),Value.string (E q),Value.string (E g),Value.string (E h)] 35;have HC:=Lib.hid (fun w=>rpcheckV_c p q 13 w hp hq he);clear he;clear hp hq hgb hhb;go_enter Tryz.func80,Tryz.ntmps80
 go_wp2_with fail
 refine (HF.out _).mono ?_;rintro e w1 ⟨rfl,hb1⟩;replace hB:=hB.after hb1;obtain ⟨hBc0,hBf0,hBc1,hBf1,hBc2,hBf2,hBc3,hBf3⟩:=hB.x4;go_wp2_with fail
 refine (HC.out _).mono ?_;rintro e w2 ⟨rfl,hb2⟩;clear hBc0 hBf0 hBc1 hBf1 hBc2 hBf2 hBc3 hBf3;replace hB:=hB.after hb2;go_wp2;go_ret
 exact ⟨rfl,bt (bt (b1 _ _) hb1) hb2⟩
theorem rpedcheck_g (p q g h:Nat) (w:World) (hp:p<256^8) (hq:q<256^128) (hgb:g<256^128) (hhb:h<256^128) (he:grpE p q=0) (h1:hasB p q g=false) :
  Calls Tryz.prog 80 #[.agg #[.string (E p),.string (E q),.string (E g),.string (E h)]] w fun e w'=>e=.returned (.int .i64 13)∧Below w.heap.size w w':=by
 have HF:=Lib.hid (fun w=>rpformV_c (E p) (E q) (E g) (E h) true w (sz1000 (lt128 hp)) (sz1000 hq) (sz1000 hgb) (sz1000 hhb) (vl4_E (lt128 hp) hq hgb hhb));have HO:=Lib.hid (fun w=>rofK_c 1 1 w rfl (by decide));have hB:=Blk.new w #[Value.string (E p),Value.string (E q),Value.string (E g),Value.string (E h)] 35;have HC:=Lib.hid (fun w=>rpcheckV_c p q 0 w hp hq he);have HG:=Lib.hid (fun w=>rHasV_c p q g false w hp hq he hgb h1);clear he h1;clear hp hq hgb hhb;go_enter Tryz.func80,Tryz.ntmps80
 go_wp2_with fail
 refine (HF.out _).mono ?_;rintro e w1 ⟨rfl,hb1⟩;replace hB:=hB.after hb1;obtain ⟨hBc0,hBf0,hBc1,hBf1,hBc2,hBf2,hBc3,hBf3⟩:=hB.x4;go_wp2_with fail
 refine (HC.out _).mono ?_;rintro e w2 ⟨rfl,hb2⟩;clear hBc0 hBf0 hBc1 hBf1 hBc2 hBf2 hBc3 hBf3;replace hB:=hB.after hb2;have hBg0:=hB.gcell 0;have hBg1:=hB.gcell 1;have hBg2:=hB.gcell 2;have hBg3:=hB.gcell 3;go_wp2_with fail
 refine wp_region_gw (by kernel_rfl) (by kernel_rfl) ?_;repeat (go_big_quiet_step (first | (go_at_call 119;exact gw_of (HG.out _))))
 refine wpQuiet_nil ?_;rintro w3 ⟨xw3,rfl⟩;have hb3:=gw_below xw3;generalize gw xw3=w3 at hb3;go_wp2;go_ret
 exact ⟨rfl,bt (bt (bt (b1 _ _) hb1) hb2) hb3⟩
theorem rpedcheck_h (p q g h:Nat) (w:World) (hp:p<256^8) (hq:q<256^128) (hgb:g<256^128) (hhb:h<256^128) (he:grpE p q=0) (h1:hasB p q g=true) (h2:hasB p q h=false) :
  Calls Tryz.prog 80 #[.agg #[.string (E p),.string (E q),.string (E g),.string (E h)]] w fun e w'=>e=.returned (.int .i64 13)∧Below w.heap.size w w':=by
 have HF:=Lib.hid (fun w=>rpformV_c (E p) (E q) (E g) (E h) true w (sz1000 (lt128 hp)) (sz1000 hq) (sz1000 hgb) (sz1000 hhb) (vl4_E (lt128 hp) hq hgb hhb));have HO:=Lib.hid (fun w=>rofK_c 1 1 w rfl (by decide));have hB:=Blk.new w #[Value.string (E p),Value.string (E q),Value.string (E g),Value.string (E h)] 35;have HC:=Lib.hid (fun w=>rpcheckV_c p q 0 w hp hq he);have HG:=Lib.hid (fun w=>rHasV_c p q g true w hp hq he hgb h1);have HH:=Lib.hid (fun w=>rHasV_c p q h false w hp hq he hhb h2);clear he h1 h2;clear hp hq hgb hhb;go_enter Tryz.func80,Tryz.ntmps80
 go_wp2_with fail
 refine (HF.out _).mono ?_;rintro e w1 ⟨rfl,hb1⟩;replace hB:=hB.after hb1;obtain ⟨hBc0,hBf0,hBc1,hBf1,hBc2,hBf2,hBc3,hBf3⟩:=hB.x4;go_wp2_with fail
 refine (HC.out _).mono ?_;rintro e w2 ⟨rfl,hb2⟩;clear hBc0 hBf0 hBc1 hBf1 hBc2 hBf2 hBc3 hBf3;replace hB:=hB.after hb2;have hBg0:=hB.gcell 0;have hBg1:=hB.gcell 1;have hBg2:=hB.gcell 2;have hBg3:=hB.gcell 3;go_wp2_with fail
 refine wp_region_gw (by kernel_rfl) (by kernel_rfl) ?_;repeat (go_big_quiet_step (first | (go_at_call 119;first | (with_reducible exact gw_of (HG.out _)) | (with_reducible exact gw_of (HH.out _)))))
 refine wpQuiet_nil ?_;rintro w3 ⟨xw3,rfl⟩;have hb3:=gw_below xw3;generalize gw xw3=w3 at hb3;go_wp2;go_ret
 exact ⟨rfl,bt (bt (bt (b1 _ _) hb1) hb2) hb3⟩
theorem rpedcheck_g1 (p q g h:Nat) (w:World) (hp:p<256^8) (hq:q<256^128) (hgb:g<256^128) (hhb:h<256^128) (he:grpE p q=0) (h1:hasB p q g=true) (h2:hasB p q h=true) (h3:g=1) :
  Calls Tryz.prog 80 #[.agg #[.string (E p),.string (E q),.string (E g),.string (E h)]] w fun e w'=>e=.returned (.int .i64 13)∧Below w.heap.size w w':=by
 have HF:=Lib.hid (fun w=>rpformV_c (E p) (E q) (E g) (E h) true w (sz1000 (lt128 hp)) (sz1000 hq) (sz1000 hgb) (sz1000 hhb) (vl4_E (lt128 hp) hq hgb hhb));have HO:=Lib.hid (fun w=>rofK_c 1 1 w rfl (by decide));have hB:=Blk.new w #[Value.string (E p),Value.string (E q),Value.string (E g),Value.string (E h)] 35;have HC:=Lib.hid (fun w=>rpcheckV_c p q 0 w hp hq he);have HG:=Lib.hid (fun w=>rHasV_c p q g true w hp hq he hgb h1);have HH:=Lib.hid (fun w=>rHasV_c p q h true w hp hq he hhb h2);have e1:=eqE h3;clear he h1 h2 h3;clear hp hq hgb hhb;go_enter Tryz.func80,Tryz.ntmps80
 go_wp2_with fail
 refine (HF.out _).mono ?_;rintro e w1 ⟨rfl,hb1⟩;replace hB:=hB.after hb1;obtain ⟨hBc0,hBf0,hBc1,hBf1,hBc2,hBf2,hBc3,hBf3⟩:=hB.x4;go_wp2_with fail
 refine (HC.out _).mono ?_;rintro e w2 ⟨rfl,hb2⟩;clear hBc0 hBf0 hBc1 hBf1 hBc2 hBf2 hBc3 hBf3;replace hB:=hB.after hb2;have hBg0:=hB.gcell 0;have hBg1:=hB.gcell 1;have hBg2:=hB.gcell 2;have hBg3:=hB.gcell 3;go_wp2_with fail
 refine wp_region_gw (by kernel_rfl) (by kernel_rfl) ?_;repeat (go_big_quiet_step (first | (go_at_call 119;first | (with_reducible exact gw_of (HG.out _)) | (with_reducible exact gw_of (HH.out _))) | (go_at_call 46;exact gw_of (HO.out _))))
 refine wpQuiet_nil ?_;rintro w3 ⟨xw3,rfl⟩;have hb3:=gw_below xw3;generalize gw xw3=w3 at hb3;go_wp2;go_ret
 exact ⟨rfl,bt (bt (bt (b1 _ _) hb1) hb2) hb3⟩
theorem rpedcheck_h1 (p q g h:Nat) (w:World) (hp:p<256^8) (hq:q<256^128) (hgb:g<256^128) (hhb:h<256^128) (he:grpE p q=0) (h1:hasB p q g=true) (h2:hasB p q h=true) (h3:g≠1) (h4:h=1) :
  Calls Tryz.prog 80 #[.agg #[.string (E p),.string (E q),.string (E g),.string (E h)]] w fun e w'=>e=.returned (.int .i64 13)∧Below w.heap.size w w':=by
 have HF:=Lib.hid (fun w=>rpformV_c (E p) (E q) (E g) (E h) true w (sz1000 (lt128 hp)) (sz1000 hq) (sz1000 hgb) (sz1000 hhb) (vl4_E (lt128 hp) hq hgb hhb));have HO:=Lib.hid (fun w=>rofK_c 1 1 w rfl (by decide));have hB:=Blk.new w #[Value.string (E p),Value.string (E q),Value.string (E g),Value.string (E h)] 35;have HC:=Lib.hid (fun w=>rpcheckV_c p q 0 w hp hq he);have HG:=Lib.hid (fun w=>rHasV_c p q g true w hp hq he hgb h1);have HH:=Lib.hid (fun w=>rHasV_c p q h true w hp hq he hhb h2);have e1:=neE h3;have e2:=eqE h4;clear he h1 h2 h3 h4;clear hp hq hgb hhb;go_enter Tryz.func80,Tryz.ntmps80
 go_wp2_with fail
 refine (HF.out _).mono ?_;rintro e w1 ⟨rfl,hb1⟩;replace hB:=hB.after hb1;obtain ⟨hBc0,hBf0,hBc1,hBf1,hBc2,hBf2,hBc3,hBf3⟩:=hB.x4;go_wp2_with fail
 refine (HC.out _).mono ?_;rintro e w2 ⟨rfl,hb2⟩;clear hBc0 hBf0 hBc1 hBf1 hBc2 hBf2 hBc3 hBf3;replace hB:=hB.after hb2;have hBg0:=hB.gcell 0;have hBg1:=hB.gcell 1;have hBg2:=hB.gcell 2;have hBg3:=hB.gcell 3;go_wp2_with fail
 refine wp_region_gw (by kernel_rfl) (by kernel_rfl) ?_;repeat (go_big_quiet_step (first | (go_at_call 119;first | (with_reducible exact gw_of (HG.out _)) | (with_reducible exact gw_of (HH.out _))) | (go_at_call 46;exact gw_of (HO.out _))))
 refine wpQuiet_nil ?_;rintro w3 ⟨xw3,rfl⟩;have hb3:=gw_below xw3;generalize gw xw3=w3 at hb3;go_wp2;go_ret
 exact ⟨rfl,bt (bt (bt (b1 _ _) hb1) hb2) hb3⟩
theorem rpedcheck_gh (p q g h:Nat) (w:World) (hp:p<256^8) (hq:q<256^128) (hgb:g<256^128) (hhb:h<256^128) (he:grpE p q=0) (h1:hasB p q g=true) (h2:hasB p q h=true) (h3:g≠1) (h4:h≠1) (h5:g=h) :
  Calls Tryz.prog 80 #[.agg #[.string (E p),.string (E q),.string (E g),.string (E h)]] w fun e w'=>e=.returned (.int .i64 13)∧Below w.heap.size w w':=by
 have HF:=Lib.hid (fun w=>rpformV_c (E p) (E q) (E g) (E h) true w (sz1000 (lt128 hp)) (sz1000 hq) (sz1000 hgb) (sz1000 hhb) (vl4_E (lt128 hp) hq hgb hhb));have HO:=Lib.hid (fun w=>rofK_c 1 1 w rfl (by decide));have hB:=Blk.new w #[Value.string (E p),Value.string (E q),Value.string (E g),Value.string (E h)] 35;have HC:=Lib.hid (fun w=>rpcheckV_c p q 0 w hp hq he);have HG:=Lib.hid (fun w=>rHasV_c p q g true w hp hq he hgb h1);have HH:=Lib.hid (fun w=>rHasV_c p q h true w hp hq he hhb h2);have e1:=neE h3;have e2:=neE h4;have e3:=eqE h5;clear he h1 h2 h3 h4 h5;clear hp hq hgb hhb;go_enter Tryz.func80,Tryz.ntmps80
 go_wp2_with fail
 refine (HF.out _).mono ?_;rintro e w1 ⟨rfl,hb1⟩;replace hB:=hB.after hb1;obtain ⟨hBc0,hBf0,hBc1,hBf1,hBc2,hBf2,hBc3,hBf3⟩:=hB.x4;go_wp2_with fail
 refine (HC.out _).mono ?_;rintro e w2 ⟨rfl,hb2⟩;clear hBc0 hBf0 hBc1 hBf1 hBc2 hBf2 hBc3 hBf3;replace hB:=hB.after hb2;have hBg0:=hB.gcell 0;have hBg1:=hB.gcell 1;have hBg2:=hB.gcell 2;have hBg3:=hB.gcell 3;go_wp2_with fail
 refine wp_region_gw (by kernel_rfl) (by kernel_rfl) ?_;repeat (go_big_quiet_step (first | (go_at_call 119;first | (with_reducible exact gw_of (HG.out _)) | (with_reducible exact gw_of (HH.out _))) | (go_at_call 46;exact gw_of (HO.out _))))
 refine wpQuiet_nil ?_;rintro w3 ⟨xw3,rfl⟩;have hb3:=gw_below xw3;generalize gw xw3=w3 at hb3;go_wp2;go_ret
 exact ⟨rfl,bt (bt (bt (b1 _ _) hb1) hb2) hb3⟩
theorem rpedcheck_ok (p q g h:Nat) (w:World) (hp:p<256^8) (hq:q<256^128) (hgb:g<256^128) (hhb:h<256^128) (he:grpE p q=0) (h1:hasB p q g=true) (h2:hasB p q h=true) (h3:g≠1) (h4:h≠1) (h5:g≠h) :
  Calls Tryz.prog 80 #[.agg #[.string (E p),.string (E q),.string (E g),.string (E h)]] w fun e w'=>e=.returned (.int .i64 0)∧Below w.heap.size w w':=by
 have HF:=Lib.hid (fun w=>rpformV_c (E p) (E q) (E g) (E h) true w (sz1000 (lt128 hp)) (sz1000 hq) (sz1000 hgb) (sz1000 hhb) (vl4_E (lt128 hp) hq hgb hhb));have HO:=Lib.hid (fun w=>rofK_c 1 1 w rfl (by decide));have hB:=Blk.new w #[Value.string (E p),Value.string (E q),Value.string (E g),Value.string (E h)] 35;have HC:=Lib.hid (fun w=>rpcheckV_c p q 0 w hp hq he);have HG:=Lib.hid (fun w=>rHasV_c p q g true w hp hq he hgb h1);have HH:=Lib.hid (fun w=>rHasV_c p q h true w hp hq he hhb h2);have e1:=neE h3;have e2:=neE h4;have e3:=neE h5;clear he h1 h2 h3 h4 h5;clear hp hq hgb hhb;go_enter Tryz.func80,Tryz.ntmps80
 go_wp2_with fail
 refine (HF.out _).mono ?_;rintro e w1 ⟨rfl,hb1⟩;replace hB:=hB.after hb1;obtain ⟨hBc0,hBf0,hBc1,hBf1,hBc2,hBf2,hBc3,hBf3⟩:=hB.x4;go_wp2_with fail
 refine (HC.out _).mono ?_;rintro e w2 ⟨rfl,hb2⟩;clear hBc0 hBf0 hBc1 hBf1 hBc2 hBf2 hBc3 hBf3;replace hB:=hB.after hb2;have hBg0:=hB.gcell 0;have hBg1:=hB.gcell 1;have hBg2:=hB.gcell 2;have hBg3:=hB.gcell 3;go_wp2_with fail
 refine wp_region_gw (by kernel_rfl) (by kernel_rfl) ?_;repeat (go_big_quiet_step (first | (go_at_call 119;first | (with_reducible exact gw_of (HG.out _)) | (with_reducible exact gw_of (HH.out _))) | (go_at_call 46;exact gw_of (HO.out _))))
 refine wpQuiet_nil ?_;rintro w3 ⟨xw3,rfl⟩;have hb3:=gw_below xw3;generalize gw xw3=w3 at hb3;go_wp2;go_ret
 exact ⟨rfl,bt (bt (bt (b1 _ _) hb1) hb2) hb3⟩
theorem rpedcheck_c (p q g h:Nat) (w:World) (hp:p<256^8) (hq:q<256^128) (hgb:g<256^128) (hhb:h<256^128) :
  Calls Tryz.prog 80 #[.agg #[.string (E p),.string (E q),.string (E g),.string (E h)]] w fun e w'=>e=.returned (.int .i64 (pedE p q g h))∧Below w.heap.size w w':=by
 rcases grpE_cases p q with he | he
 ·by_cases h1:hasB p q g=true
  ·by_cases h2:hasB p q h=true
   ·by_cases h3:g=1
    ·rw [show pedE p q g h=13 by rw [pedE,if_pos he,if_neg (fun k=>k.2.2.1 h3)]];exact rpedcheck_g1 p q g h w hp hq hgb hhb he h1 h2 h3
    ·by_cases h4:h=1
     ·rw [show pedE p q g h=13 by rw [pedE,if_pos he,if_neg (fun k=>k.2.2.2.1 h4)]];exact rpedcheck_h1 p q g h w hp hq hgb hhb he h1 h2 h3 h4
     ·by_cases h5:g=h
      ·rw [show pedE p q g h=13 by rw [pedE,if_pos he,if_neg (fun k=>k.2.2.2.2 h5)]];exact rpedcheck_gh p q g h w hp hq hgb hhb he h1 h2 h3 h4 h5
      ·rw [show pedE p q g h=0 by rw [pedE,if_pos he,if_pos ⟨h1,h2,h3,h4,h5⟩]];exact rpedcheck_ok p q g h w hp hq hgb hhb he h1 h2 h3 h4 h5
   ·rw [show pedE p q g h=13 by rw [pedE,if_pos he,if_neg (fun k=>h2 k.2.1)]];exact rpedcheck_h p q g h w hp hq hgb hhb he h1 (by simpa using h2)
  ·rw [show pedE p q g h=13 by rw [pedE,if_pos he,if_neg (fun k=>h1 k.1)]];exact rpedcheck_g p q g h w hp hq hgb hhb he (by simpa using h1)
 ·rw [show pedE p q g h=13 by rw [pedE,if_neg (by omega)]];exact rpedcheck_grp p q g h w hp hq hgb hhb he
theorem rpedcheckV_c (p q g h k:Nat) (w:World) (hp:p<256^8) (hq:q<256^128) (hgb:g<256^128) (hhb:h<256^128) (hk:pedE p q g h=k) :
  Calls Tryz.prog 80 #[.agg #[.string (E p),.string (E q),.string (E g),.string (E h)]] w fun e w'=>e=.returned (.int .i64 k)∧Below w.heap.size w w':=by
 rw [←hk];exact rpedcheck_c p q g h w hp hq hgb hhb
end Go.Proofs.YtdoacbdkbbpamaaGreatDoor
