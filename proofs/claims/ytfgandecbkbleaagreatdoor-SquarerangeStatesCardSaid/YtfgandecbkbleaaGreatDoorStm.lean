import Derived.Test.YtfgandecbkbleaaGreatDoorPow4
import Derived.Test.YtfgandecbkbleaaGreatDoorRPow1
import Derived.Deep.RegionHeld3
import Derived.Deep.DrawnRows
set_option linter.unusedVariables false
set_option linter.unusedSimpArgs false
set_option maxRecDepth 100000
set_option maxHeartbeats 16000000
namespace Go.Proofs.YtfgandecbkbleaaGreatDoor
section
open Go.RowKit
theorem nats1 {w:World} {b c:Nat} {T:TypeId} (h:Blk w b T [.string (E c)]):NatsAt w b [c]:=NatsAt.of_blk (T:=T) h
theorem ints1 {w:World} {b:Nat} {x:Int} {T:TypeId} (h:Blk w b T [.bool (sg x),.string (E x.natAbs)]):IntsAt w b [x]:=by
 refine ⟨h.lt,fun j hj=>?_⟩;match j,hj with
 | 0,_=>exact ⟨h.cell 0,h.cell 1⟩
theorem nats2 {w:World} {b c g:Nat} {T:TypeId} (h:Blk w b T [.string (E c),.string (E g)]):NatsAt w b [c,g]:=NatsAt.of_blk (T:=T) h
theorem pw1_eq {p x:Nat} (z:Int) (hx:x<p):pw (prs p [x] [z]) 0%p=powI x z p:=by
 unfold powI prs bse;simp only [List.zipWith_cons_cons,List.zipWith_nil_left,pw,Nat.pow_zero,Nat.div_one,Nat.mul_one];rw [Nat.mod_eq_of_lt hx];split <;> rfl
theorem product1_c (p q c:Nat) (z:Int) (bl bz:Nat) (w:World) (hp:p<256^8) (hq:q<256^128) (he:grpE p q=0) (hc:hasB p q c=true) (hz:z.natAbs<256^128)
  (hL:Blk w bl 22 [.string (E c)]) (hZ:Blk w bz 28 [.bool (sg z),.string (E z.natAbs)]) :
  Calls Tryz.prog 103 #[.agg #[.string (E p),.string (E q)],.slice (some ⟨bl,0,none⟩) 1 1,.slice (some ⟨bz,0,none⟩) 1 1] w fun e w'=>e=.returned (.tuple #[.string (E (powI c z p)),.int .i64 0])∧Below w.heap.size w w':=by
 rw [←pw1_eq z (has_lt hc)]
 exact product_c p q bl bz 1 1 1 [c] [z] w hp hq he rfl rfl (by omega) (by omega) (by omega) (by omega) (by omega)
  (by intro x hx;simp at hx;subst hx;assumption) (by intro y hy;simp at hy;subst hy;assumption) (nats1 hL) (ints1 hZ)
end
section
open Go.RowKit
theorem rpform_c (a b c d:ByteArray) (w:World) (ha:a.size≤1000) (hb:b.size≤1000) (hc:c.size≤1000) (hd:d.size≤1000) :
  Calls Tryz.prog 78 #[.agg #[.string a,.string b,.string c,.string d]] w fun e w'=>e=.returned (.bool (vl4 a b c d))∧Below w.heap.size w w':=by
 have HA:Hid (a.size≤4611686018427387904):=by unfold Hid;omega
 have HB:Hid (b.size≤4611686018427387904):=by unfold Hid;omega
 have HC:Hid (c.size≤4611686018427387904):=by unfold Hid;omega
 have HD:Hid (d.size≤4611686018427387904):=by unfold Hid;omega
 have HV:Hid (vl4 a b c d=(vldB a&&vldB b&&vldB c&&vldB d)):=rfl;clear ha hb hc hd;cases e1:vldB a
 ·have E1:=Lib.hid e1;have HR:Hid (vl4 a b c d=false):=by rw [Hid,HV.out,e1];rfl
  clear e1 HV;go_enter Tryz.func78,Tryz.ntmps78
  go_wp2_with fail
  refine (rvalidV_c a _ _ HA.out E1.out).mono ?_;rintro e w' ⟨rfl,rfl⟩;go_wp2;go_ret
  exact ⟨rb HR.out.symm,b1 _ _⟩
 ·have E1:=Lib.hid e1;cases e2:vldB b
  ·have E2:=Lib.hid e2;have HR:Hid (vl4 a b c d=false):=by rw [Hid,HV.out,e1,e2];rfl
   clear e1 e2 HV;go_enter Tryz.func78,Tryz.ntmps78
   go_wp2_with fail
   refine (rvalidV_c a _ _ HA.out E1.out).mono ?_;rintro e w' ⟨rfl,rfl⟩;go_wp2_with fail
   refine (rvalidV_c b _ _ HB.out E2.out).mono ?_;rintro e w' ⟨rfl,rfl⟩;go_wp2;go_ret
   exact ⟨rb HR.out.symm,b1 _ _⟩
  ·have E2:=Lib.hid e2;cases e3:vldB c
   ·have E3:=Lib.hid e3;have HR:Hid (vl4 a b c d=false):=by rw [Hid,HV.out,e1,e2,e3];rfl
    clear e1 e2 e3 HV;go_enter Tryz.func78,Tryz.ntmps78
    go_wp2_with fail
    refine (rvalidV_c a _ _ HA.out E1.out).mono ?_;rintro e w' ⟨rfl,rfl⟩;go_wp2_with fail
    refine (rvalidV_c b _ _ HB.out E2.out).mono ?_;rintro e w' ⟨rfl,rfl⟩;go_wp2_with fail
    refine (rvalidV_c c _ _ HC.out E3.out).mono ?_;rintro e w' ⟨rfl,rfl⟩;go_wp2;go_ret
    exact ⟨rb HR.out.symm,b1 _ _⟩
   ·have E3:=Lib.hid e3;have HR:Hid (vl4 a b c d=vldB d):=by rw [Hid,HV.out,e1,e2,e3];rfl
    clear e1 e2 e3 HV;go_enter Tryz.func78,Tryz.ntmps78
    go_wp2_with fail
    refine (rvalidV_c a _ _ HA.out E1.out).mono ?_;rintro e w' ⟨rfl,rfl⟩;go_wp2_with fail
    refine (rvalidV_c b _ _ HB.out E2.out).mono ?_;rintro e w' ⟨rfl,rfl⟩;go_wp2_with fail
    refine (rvalidV_c c _ _ HC.out E3.out).mono ?_;rintro e w' ⟨rfl,rfl⟩;go_wp2_with fail
    refine (rvalid_c d _ HD.out).mono ?_;rintro e w' ⟨rfl,rfl⟩;go_wp2;go_ret
    exact ⟨rb HR.out.symm,b1 _ _⟩
theorem rpformV_c (a b c d:ByteArray) (r:Bool) (w:World) (ha:a.size≤1000) (hb:b.size≤1000) (hc:c.size≤1000) (hd:d.size≤1000) (hr:vl4 a b c d=r) :
  Calls Tryz.prog 78 #[.agg #[.string a,.string b,.string c,.string d]] w fun e w'=>e=.returned (.bool r)∧Below w.heap.size w w':=by
 rw [←hr];exact rpform_c a b c d w ha hb hc hd
theorem rpedcheck_bad (a b c d:ByteArray) (w:World) (ha:a.size≤1000) (hb:b.size≤1000) (hc:c.size≤1000) (hd:d.size≤1000) (hr:vl4 a b c d=false) :
  Calls Tryz.prog 80 #[.agg #[.string a,.string b,.string c,.string d]] w fun e w'=>e=.returned (.int .i64 3)∧Below w.heap.size w w':=by
 have HF:=Lib.hid (fun w=>rpformV_c a b c d false w ha hb hc hd hr);clear ha hb hc hd hr;go_enter Tryz.func80,Tryz.ntmps80
 go_wp2_with fail
 refine (HF.out _).mono ?_;rintro e w1 ⟨rfl,hb1⟩;go_wp2;go_ret
 exact ⟨rfl,bt (b1 _ _) hb1⟩
theorem rpedcheck_grp (p q g h:Nat) (w:World) (hp:p<256^8) (hq:q<256^128) (hgb:g<256^128) (hhb:h<256^128) (he:grpE p q=13) :
  Calls Tryz.prog 80 #[.agg #[.string (E p),.string (E q),.string (E g),.string (E h)]] w fun e w'=>e=.returned (.int .i64 13)∧Below w.heap.size w w':=by
 have HF:=Lib.hid (fun w=>rpformV_c (E p) (E q) (E g) (E h) true w (sz1000 (lt128 hp)) (sz1000 hq) (sz1000 hgb) (sz1000 hhb) (vl4_E (lt128 hp) hq hgb hhb));have HO:=Lib.hid (fun w=>rofK_c 1 1 w rfl (by decide));have hB:=Blk.new w #[Value.string (E p),Value.string (E q),Value.string (E g),Value.string (E h)] 26;have HC:=Lib.hid (fun w=>rpcheckV_c p q 13 w hp hq he);clear he;clear hp hq hgb hhb;go_enter Tryz.func80,Tryz.ntmps80
 go_wp2_with fail
 refine (HF.out _).mono ?_;rintro e w1 ⟨rfl,hb1⟩;replace hB:=hB.after hb1;obtain ⟨hBc0,hBf0,hBc1,hBf1,hBc2,hBf2,hBc3,hBf3⟩:=hB.x4;go_wp2_with fail
 refine (HC.out _).mono ?_;rintro e w2 ⟨rfl,hb2⟩;clear hBc0 hBf0 hBc1 hBf1 hBc2 hBf2 hBc3 hBf3;replace hB:=hB.after hb2;go_wp2;go_ret
 exact ⟨rfl,bt (bt (b1 _ _) hb1) hb2⟩
theorem rpedcheck_g (p q g h:Nat) (w:World) (hp:p<256^8) (hq:q<256^128) (hgb:g<256^128) (hhb:h<256^128) (he:grpE p q=0) (h1:hasB p q g=false) :
  Calls Tryz.prog 80 #[.agg #[.string (E p),.string (E q),.string (E g),.string (E h)]] w fun e w'=>e=.returned (.int .i64 13)∧Below w.heap.size w w':=by
 have HF:=Lib.hid (fun w=>rpformV_c (E p) (E q) (E g) (E h) true w (sz1000 (lt128 hp)) (sz1000 hq) (sz1000 hgb) (sz1000 hhb) (vl4_E (lt128 hp) hq hgb hhb));have HO:=Lib.hid (fun w=>rofK_c 1 1 w rfl (by decide));have hB:=Blk.new w #[Value.string (E p),Value.string (E q),Value.string (E g),Value.string (E h)] 26;have HC:=Lib.hid (fun w=>rpcheckV_c p q 0 w hp hq he);have HG:=Lib.hid (fun w=>rHasV_c p q g false w hp hq he hgb h1);clear he h1;clear hp hq hgb hhb;go_enter Tryz.func80,Tryz.ntmps80
 go_wp2_with fail
 refine (HF.out _).mono ?_;rintro e w1 ⟨rfl,hb1⟩;replace hB:=hB.after hb1;obtain ⟨hBc0,hBf0,hBc1,hBf1,hBc2,hBf2,hBc3,hBf3⟩:=hB.x4;go_wp2_with fail
 refine (HC.out _).mono ?_;rintro e w2 ⟨rfl,hb2⟩;clear hBc0 hBf0 hBc1 hBf1 hBc2 hBf2 hBc3 hBf3;replace hB:=hB.after hb2;have hBg0:=hB.gcell 0;have hBg1:=hB.gcell 1;have hBg2:=hB.gcell 2;have hBg3:=hB.gcell 3;go_wp2_with fail
 refine wp_region_gw (by kernel_rfl) (by kernel_rfl) ?_;repeat (go_big_quiet_step (first | (go_at_call 62;exact gw_of (HG.out _))))
 refine wpQuiet_nil ?_;rintro w3 ⟨xw3,rfl⟩;have hb3:=gw_below xw3;generalize gw xw3=w3 at hb3;go_wp2;go_ret
 exact ⟨rfl,bt (bt (bt (b1 _ _) hb1) hb2) hb3⟩
theorem rpedcheck_h (p q g h:Nat) (w:World) (hp:p<256^8) (hq:q<256^128) (hgb:g<256^128) (hhb:h<256^128) (he:grpE p q=0) (h1:hasB p q g=true) (h2:hasB p q h=false) :
  Calls Tryz.prog 80 #[.agg #[.string (E p),.string (E q),.string (E g),.string (E h)]] w fun e w'=>e=.returned (.int .i64 13)∧Below w.heap.size w w':=by
 have HF:=Lib.hid (fun w=>rpformV_c (E p) (E q) (E g) (E h) true w (sz1000 (lt128 hp)) (sz1000 hq) (sz1000 hgb) (sz1000 hhb) (vl4_E (lt128 hp) hq hgb hhb));have HO:=Lib.hid (fun w=>rofK_c 1 1 w rfl (by decide));have hB:=Blk.new w #[Value.string (E p),Value.string (E q),Value.string (E g),Value.string (E h)] 26;have HC:=Lib.hid (fun w=>rpcheckV_c p q 0 w hp hq he);have HG:=Lib.hid (fun w=>rHasV_c p q g true w hp hq he hgb h1);have HH:=Lib.hid (fun w=>rHasV_c p q h false w hp hq he hhb h2);clear he h1 h2;clear hp hq hgb hhb;go_enter Tryz.func80,Tryz.ntmps80
 go_wp2_with fail
 refine (HF.out _).mono ?_;rintro e w1 ⟨rfl,hb1⟩;replace hB:=hB.after hb1;obtain ⟨hBc0,hBf0,hBc1,hBf1,hBc2,hBf2,hBc3,hBf3⟩:=hB.x4;go_wp2_with fail
 refine (HC.out _).mono ?_;rintro e w2 ⟨rfl,hb2⟩;clear hBc0 hBf0 hBc1 hBf1 hBc2 hBf2 hBc3 hBf3;replace hB:=hB.after hb2;have hBg0:=hB.gcell 0;have hBg1:=hB.gcell 1;have hBg2:=hB.gcell 2;have hBg3:=hB.gcell 3;go_wp2_with fail
 refine wp_region_gw (by kernel_rfl) (by kernel_rfl) ?_;repeat (go_big_quiet_step (first | (go_at_call 62;first | (with_reducible exact gw_of (HG.out _)) | (with_reducible exact gw_of (HH.out _)))))
 refine wpQuiet_nil ?_;rintro w3 ⟨xw3,rfl⟩;have hb3:=gw_below xw3;generalize gw xw3=w3 at hb3;go_wp2;go_ret
 exact ⟨rfl,bt (bt (bt (b1 _ _) hb1) hb2) hb3⟩
theorem rpedcheck_g1 (p q g h:Nat) (w:World) (hp:p<256^8) (hq:q<256^128) (hgb:g<256^128) (hhb:h<256^128) (he:grpE p q=0) (h1:hasB p q g=true) (h2:hasB p q h=true) (h3:g=1) :
  Calls Tryz.prog 80 #[.agg #[.string (E p),.string (E q),.string (E g),.string (E h)]] w fun e w'=>e=.returned (.int .i64 13)∧Below w.heap.size w w':=by
 have HF:=Lib.hid (fun w=>rpformV_c (E p) (E q) (E g) (E h) true w (sz1000 (lt128 hp)) (sz1000 hq) (sz1000 hgb) (sz1000 hhb) (vl4_E (lt128 hp) hq hgb hhb));have HO:=Lib.hid (fun w=>rofK_c 1 1 w rfl (by decide));have hB:=Blk.new w #[Value.string (E p),Value.string (E q),Value.string (E g),Value.string (E h)] 26;have HC:=Lib.hid (fun w=>rpcheckV_c p q 0 w hp hq he);have HG:=Lib.hid (fun w=>rHasV_c p q g true w hp hq he hgb h1);have HH:=Lib.hid (fun w=>rHasV_c p q h true w hp hq he hhb h2);have e1:=eqE h3;clear he h1 h2 h3;clear hp hq hgb hhb;go_enter Tryz.func80,Tryz.ntmps80
 go_wp2_with fail
 refine (HF.out _).mono ?_;rintro e w1 ⟨rfl,hb1⟩;replace hB:=hB.after hb1;obtain ⟨hBc0,hBf0,hBc1,hBf1,hBc2,hBf2,hBc3,hBf3⟩:=hB.x4;go_wp2_with fail
 refine (HC.out _).mono ?_;rintro e w2 ⟨rfl,hb2⟩;clear hBc0 hBf0 hBc1 hBf1 hBc2 hBf2 hBc3 hBf3;replace hB:=hB.after hb2;have hBg0:=hB.gcell 0;have hBg1:=hB.gcell 1;have hBg2:=hB.gcell 2;have hBg3:=hB.gcell 3;go_wp2_with fail
 refine wp_region_gw (by kernel_rfl) (by kernel_rfl) ?_;repeat (go_big_quiet_step (first | (go_at_call 62;first | (with_reducible exact gw_of (HG.out _)) | (with_reducible exact gw_of (HH.out _))) | (go_at_call 64;exact gw_of (HO.out _))))
 refine wpQuiet_nil ?_;rintro w3 ⟨xw3,rfl⟩;have hb3:=gw_below xw3;generalize gw xw3=w3 at hb3;go_wp2;go_ret
 exact ⟨rfl,bt (bt (bt (b1 _ _) hb1) hb2) hb3⟩
theorem rpedcheck_h1 (p q g h:Nat) (w:World) (hp:p<256^8) (hq:q<256^128) (hgb:g<256^128) (hhb:h<256^128) (he:grpE p q=0) (h1:hasB p q g=true) (h2:hasB p q h=true) (h3:g≠1) (h4:h=1) :
  Calls Tryz.prog 80 #[.agg #[.string (E p),.string (E q),.string (E g),.string (E h)]] w fun e w'=>e=.returned (.int .i64 13)∧Below w.heap.size w w':=by
 have HF:=Lib.hid (fun w=>rpformV_c (E p) (E q) (E g) (E h) true w (sz1000 (lt128 hp)) (sz1000 hq) (sz1000 hgb) (sz1000 hhb) (vl4_E (lt128 hp) hq hgb hhb));have HO:=Lib.hid (fun w=>rofK_c 1 1 w rfl (by decide));have hB:=Blk.new w #[Value.string (E p),Value.string (E q),Value.string (E g),Value.string (E h)] 26;have HC:=Lib.hid (fun w=>rpcheckV_c p q 0 w hp hq he);have HG:=Lib.hid (fun w=>rHasV_c p q g true w hp hq he hgb h1);have HH:=Lib.hid (fun w=>rHasV_c p q h true w hp hq he hhb h2);have e1:=neE h3;have e2:=eqE h4;clear he h1 h2 h3 h4;clear hp hq hgb hhb;go_enter Tryz.func80,Tryz.ntmps80
 go_wp2_with fail
 refine (HF.out _).mono ?_;rintro e w1 ⟨rfl,hb1⟩;replace hB:=hB.after hb1;obtain ⟨hBc0,hBf0,hBc1,hBf1,hBc2,hBf2,hBc3,hBf3⟩:=hB.x4;go_wp2_with fail
 refine (HC.out _).mono ?_;rintro e w2 ⟨rfl,hb2⟩;clear hBc0 hBf0 hBc1 hBf1 hBc2 hBf2 hBc3 hBf3;replace hB:=hB.after hb2;have hBg0:=hB.gcell 0;have hBg1:=hB.gcell 1;have hBg2:=hB.gcell 2;have hBg3:=hB.gcell 3;go_wp2_with fail
 refine wp_region_gw (by kernel_rfl) (by kernel_rfl) ?_;repeat (go_big_quiet_step (first | (go_at_call 62;first | (with_reducible exact gw_of (HG.out _)) | (with_reducible exact gw_of (HH.out _))) | (go_at_call 64;exact gw_of (HO.out _))))
 refine wpQuiet_nil ?_;rintro w3 ⟨xw3,rfl⟩;have hb3:=gw_below xw3;generalize gw xw3=w3 at hb3;go_wp2;go_ret
 exact ⟨rfl,bt (bt (bt (b1 _ _) hb1) hb2) hb3⟩
theorem rpedcheck_gh (p q g h:Nat) (w:World) (hp:p<256^8) (hq:q<256^128) (hgb:g<256^128) (hhb:h<256^128) (he:grpE p q=0) (h1:hasB p q g=true) (h2:hasB p q h=true) (h3:g≠1) (h4:h≠1) (h5:g=h) :
  Calls Tryz.prog 80 #[.agg #[.string (E p),.string (E q),.string (E g),.string (E h)]] w fun e w'=>e=.returned (.int .i64 13)∧Below w.heap.size w w':=by
 have HF:=Lib.hid (fun w=>rpformV_c (E p) (E q) (E g) (E h) true w (sz1000 (lt128 hp)) (sz1000 hq) (sz1000 hgb) (sz1000 hhb) (vl4_E (lt128 hp) hq hgb hhb));have HO:=Lib.hid (fun w=>rofK_c 1 1 w rfl (by decide));have hB:=Blk.new w #[Value.string (E p),Value.string (E q),Value.string (E g),Value.string (E h)] 26;have HC:=Lib.hid (fun w=>rpcheckV_c p q 0 w hp hq he);have HG:=Lib.hid (fun w=>rHasV_c p q g true w hp hq he hgb h1);have HH:=Lib.hid (fun w=>rHasV_c p q h true w hp hq he hhb h2);have e1:=neE h3;have e2:=neE h4;have e3:=eqE h5;clear he h1 h2 h3 h4 h5;clear hp hq hgb hhb;go_enter Tryz.func80,Tryz.ntmps80
 go_wp2_with fail
 refine (HF.out _).mono ?_;rintro e w1 ⟨rfl,hb1⟩;replace hB:=hB.after hb1;obtain ⟨hBc0,hBf0,hBc1,hBf1,hBc2,hBf2,hBc3,hBf3⟩:=hB.x4;go_wp2_with fail
 refine (HC.out _).mono ?_;rintro e w2 ⟨rfl,hb2⟩;clear hBc0 hBf0 hBc1 hBf1 hBc2 hBf2 hBc3 hBf3;replace hB:=hB.after hb2;have hBg0:=hB.gcell 0;have hBg1:=hB.gcell 1;have hBg2:=hB.gcell 2;have hBg3:=hB.gcell 3;go_wp2_with fail
 refine wp_region_gw (by kernel_rfl) (by kernel_rfl) ?_;repeat (go_big_quiet_step (first | (go_at_call 62;first | (with_reducible exact gw_of (HG.out _)) | (with_reducible exact gw_of (HH.out _))) | (go_at_call 64;exact gw_of (HO.out _))))
 refine wpQuiet_nil ?_;rintro w3 ⟨xw3,rfl⟩;have hb3:=gw_below xw3;generalize gw xw3=w3 at hb3;go_wp2;go_ret
 exact ⟨rfl,bt (bt (bt (b1 _ _) hb1) hb2) hb3⟩
theorem rpedcheck_ok (p q g h:Nat) (w:World) (hp:p<256^8) (hq:q<256^128) (hgb:g<256^128) (hhb:h<256^128) (he:grpE p q=0) (h1:hasB p q g=true) (h2:hasB p q h=true) (h3:g≠1) (h4:h≠1) (h5:g≠h) :
  Calls Tryz.prog 80 #[.agg #[.string (E p),.string (E q),.string (E g),.string (E h)]] w fun e w'=>e=.returned (.int .i64 0)∧Below w.heap.size w w':=by
 have HF:=Lib.hid (fun w=>rpformV_c (E p) (E q) (E g) (E h) true w (sz1000 (lt128 hp)) (sz1000 hq) (sz1000 hgb) (sz1000 hhb) (vl4_E (lt128 hp) hq hgb hhb));have HO:=Lib.hid (fun w=>rofK_c 1 1 w rfl (by decide));have hB:=Blk.new w #[Value.string (E p),Value.string (E q),Value.string (E g),Value.string (E h)] 26;have HC:=Lib.hid (fun w=>rpcheckV_c p q 0 w hp hq he);have HG:=Lib.hid (fun w=>rHasV_c p q g true w hp hq he hgb h1);have HH:=Lib.hid (fun w=>rHasV_c p q h true w hp hq he hhb h2);have e1:=neE h3;have e2:=neE h4;have e3:=neE h5;clear he h1 h2 h3 h4 h5;clear hp hq hgb hhb;go_enter Tryz.func80,Tryz.ntmps80
 go_wp2_with fail
 refine (HF.out _).mono ?_;rintro e w1 ⟨rfl,hb1⟩;replace hB:=hB.after hb1;obtain ⟨hBc0,hBf0,hBc1,hBf1,hBc2,hBf2,hBc3,hBf3⟩:=hB.x4;go_wp2_with fail
 refine (HC.out _).mono ?_;rintro e w2 ⟨rfl,hb2⟩;clear hBc0 hBf0 hBc1 hBf1 hBc2 hBf2 hBc3 hBf3;replace hB:=hB.after hb2;have hBg0:=hB.gcell 0;have hBg1:=hB.gcell 1;have hBg2:=hB.gcell 2;have hBg3:=hB.gcell 3;go_wp2_with fail
 refine wp_region_gw (by kernel_rfl) (by kernel_rfl) ?_;repeat (go_big_quiet_step (first | (go_at_call 62;first | (with_reducible exact gw_of (HG.out _)) | (with_reducible exact gw_of (HH.out _))) | (go_at_call 64;exact gw_of (HO.out _))))
 refine wpQuiet_nil ?_;rintro w3 ⟨xw3,rfl⟩;have hb3:=gw_below xw3;generalize gw xw3=w3 at hb3;go_wp2;go_ret
 exact ⟨rfl,bt (bt (bt (b1 _ _) hb1) hb2) hb3⟩
theorem rpedcheck_c (p q g h:Nat) (w:World) (hp:p<256^8) (hq:q<256^128) (hgb:g<256^128) (hhb:h<256^128) :
  Calls Tryz.prog 80 #[.agg #[.string (E p),.string (E q),.string (E g),.string (E h)]] w fun e w'=>e=.returned (.int .i64 (pedE p q g h))∧Below w.heap.size w w':=by
 rcases grpE_cases p q with he | he
 ·by_cases h1:hasB p q g=true
  ·by_cases h2:hasB p q h=true
   ·by_cases h3:g=1
    ·rw [show pedE p q g h=13 by rw [pedE,if_pos he,if_neg (fun k=>k.2.2.1 h3)]];exact rpedcheck_g1 p q g h w hp hq hgb hhb he h1 h2 h3
    ·by_cases h4:h=1
     ·rw [show pedE p q g h=13 by rw [pedE,if_pos he,if_neg (fun k=>k.2.2.2.1 h4)]];exact rpedcheck_h1 p q g h w hp hq hgb hhb he h1 h2 h3 h4
     ·by_cases h5:g=h
      ·rw [show pedE p q g h=13 by rw [pedE,if_pos he,if_neg (fun k=>k.2.2.2.2 h5)]];exact rpedcheck_gh p q g h w hp hq hgb hhb he h1 h2 h3 h4 h5
      ·rw [show pedE p q g h=0 by rw [pedE,if_pos he,if_pos ⟨h1,h2,h3,h4,h5⟩]];exact rpedcheck_ok p q g h w hp hq hgb hhb he h1 h2 h3 h4 h5
   ·rw [show pedE p q g h=13 by rw [pedE,if_pos he,if_neg (fun k=>h2 k.2.1)]];exact rpedcheck_h p q g h w hp hq hgb hhb he h1 (by simpa using h2)
  ·rw [show pedE p q g h=13 by rw [pedE,if_pos he,if_neg (fun k=>h1 k.1)]];exact rpedcheck_g p q g h w hp hq hgb hhb he (by simpa using h1)
 ·rw [show pedE p q g h=13 by rw [pedE,if_neg (by omega)]];exact rpedcheck_grp p q g h w hp hq hgb hhb he
theorem rpedcheckV_c (p q g h k:Nat) (w:World) (hp:p<256^8) (hq:q<256^128) (hgb:g<256^128) (hhb:h<256^128) (hk:pedE p q g h=k) :
  Calls Tryz.prog 80 #[.agg #[.string (E p),.string (E q),.string (E g),.string (E h)]] w fun e w'=>e=.returned (.int .i64 k)∧Below w.heap.size w w':=by
 rw [←hk];exact rpedcheck_c p q g h w hp hq hgb hhb
end
section
open Go.RowKit
theorem StrsAt.nat_lt {w:World} {ao:Option Addr} {L:List Nat} (h:StrsAt w ao (L.map E)) {k:Nat} (hk:k<L.length):∃b,ao=some ⟨b,0,none⟩∧b<w.heap.size∧w.cell? ⟨b,k,none⟩=some (.string (E L[k])):=by
 rcases h with h | ⟨b,h1,h2,h3⟩
 ·simp at h;subst h;simp at hk
 ·exact ⟨b,h1,h2,by rw [h3 k (by simpa using hk),List.getElem_map]⟩
end
section
open Go.RowKit
def shiftN (p c g:Nat) (z:Int):Nat:=pw (prs p [c,g] [1,z]) 0%p
theorem ints2 {w:World} {b:Nat} {x y:Int} {T:TypeId} (h:Blk w b T [.bool (sg x),.string (E x.natAbs),.bool (sg y),.string (E y.natAbs)]):IntsAt w b [x,y]:=by
 refine ⟨h.lt,fun j hj=>?_⟩;match j,hj with
 | 0,_=>exact ⟨h.cell 0,h.cell 1⟩
 | 1,_=>exact ⟨h.cell 2,h.cell 3⟩
theorem product2_c (p q c g:Nat) (z:Int) (bl bz:Nat) (w:World) (hp:p<256^8) (hq:q<256^128) (he:grpE p q=0) (hc:hasB p q c=true) (hg:hasB p q g=true) (hz:z.natAbs<256^128)
  (hL:Blk w bl 22 [.string (E c),.string (E g)]) (hZ:Blk w bz 28 [.bool (sg 1),.string (E 1),.bool (sg z),.string (E z.natAbs)]) :
  Calls Tryz.prog 103 #[.agg #[.string (E p),.string (E q)],.slice (some ⟨bl,0,none⟩) 2 2,.slice (some ⟨bz,0,none⟩) 2 2] w fun e w'=>e=.returned (.tuple #[.string (E (shiftN p c g z)),.int .i64 0])∧Below w.heap.size w w':=
 product_c p q bl bz 2 2 2 [c,g] [1,z] w hp hq he rfl rfl (by omega) (by omega) (by omega) (by omega) (by omega)
  (by intro x hx;simp at hx;rcases hx with rfl | rfl <;> assumption) (by intro y hy;simp at hy;rcases hy with rfl | rfl <;> first | decide | assumption) (nats2 hL) (ints2 (x:=1) hZ)
theorem shift_c (p q g h c:Nat) (z:Int) (w:World) (hp:p<256^8) (hq:q<256^128) (hgb:g<256^128) (hhb:h<256^128) (hcb:c<256^128) (hzb:z.natAbs<256^128)
  (he:pedE p q g h=0) (hc:hasB p q c=true) (hg:hasB p q g=true) :
  Calls Tryz.prog 60 #[.agg #[.string (E p),.string (E q),.string (E g),.string (E h)],.string (E c),.agg #[.bool (sg (z)),.string (E (z).natAbs)]] w fun e w'=>e=.returned (.tuple #[.string (E (shiftN p c g z)),.int .i64 0])∧Below w.heap.size w w':=by
 have HF:=Lib.hid (fun w=>pformedV_c (E p) (E q) (E g) (E h) true w (sz1000 (lt128 hp)) (sz1000 hq) (sz1000 hgb) (sz1000 hhb) (vl4_E (lt128 hp) hq hgb hhb));have HPC:=Lib.hid (fun w=>pedcheckV_c p q g h 0 w hp hq hgb hhb he);have HO:=Lib.hid (fun w=>iof_c 1 w (by decide) (by decide));have HCB:=Lib.hid hcb;have HZB:=Lib.hid hzb;have HPR:=Lib.hid (fun bl bz w=>product2_c p q c g z bl bz w hp hq (pedE_grp he) hc hg hzb);have hB:=blk2a w #[Value.string (E p),Value.string (E q),Value.string (E g),Value.string (E h)] #[.bool (sg z),.string (E z.natAbs)] 26 28;have hI:=blk2b w #[Value.string (E p),Value.string (E q),Value.string (E g),Value.string (E h)] #[.bool (sg z),.string (E z.natAbs)] 26 28;have hBW:=b2 w (.cells #[Value.string (E p),Value.string (E q),Value.string (E g),Value.string (E h)] 26) (.cells #[.bool (sg z),.string (E z.natAbs)] 28);clear hp hq hgb hhb hcb hzb he hc hg;obtain ⟨hBc0,hBf0,hBc1,hBf1,hBc2,hBf2,hBc3,hBf3⟩:=hB.x4;obtain ⟨hIc0,hIf0,hIc1,hIf1⟩:=hI.x2;go_enter Tryz.func60,Tryz.ntmps60
 go_wp2_with fail
 refine (HF.out _).mono ?_;rintro e w1 ⟨rfl,hb1⟩;clear hBc0 hBf0 hBc1 hBf1 hBc2 hBf2 hBc3 hBf3;clear hIc0 hIf0 hIc1 hIf1;replace hB:=hB.after hb1;replace hI:=hI.after hb1;replace hBW:=bt hBW hb1;obtain ⟨hBc0,hBf0,hBc1,hBf1,hBc2,hBf2,hBc3,hBf3⟩:=hB.x4;obtain ⟨hIc0,hIf0,hIc1,hIf1⟩:=hI.x2;go_wp2_with fail
 refine (validE_c c _ HCB.out).mono ?_;rintro e w' ⟨rfl,rfl⟩;go_wp2_with fail
 refine (ivalidI_c z _ HZB.out).mono ?_;rintro e w2 ⟨rfl,hb2⟩;clear hBc0 hBf0 hBc1 hBf1 hBc2 hBf2 hBc3 hBf3;clear hIc0 hIf0 hIc1 hIf1;replace hB:=hB.after hb2;replace hI:=hI.after hb2;replace hBW:=bt hBW hb2;obtain ⟨hBc0,hBf0,hBc1,hBf1,hBc2,hBf2,hBc3,hBf3⟩:=hB.x4;obtain ⟨hIc0,hIf0,hIc1,hIf1⟩:=hI.x2;go_wp2_with fail
 refine (HPC.out _).mono ?_;rintro e w3 ⟨rfl,hb3⟩;clear hBc0 hBf0 hBc1 hBf1 hBc2 hBf2 hBc3 hBf3;clear hIc0 hIf0 hIc1 hIf1;replace hB:=hB.after hb3;replace hI:=hI.after hb3;replace hBW:=bt hBW hb3;obtain ⟨hBc0,hBf0,hBc1,hBf1,hBc2,hBf2,hBc3,hBf3⟩:=hB.x4;obtain ⟨hIc0,hIf0,hIc1,hIf1⟩:=hI.x2;clear hb1 hb2 hb3;have hl3:w.heap.size<w3.heap.size:=hB.lt;have hl3':w.heap.size+1<w3.heap.size:=hI.lt;go_wp2_with fail
 go_region_held3 (fun w'=>w'.cell? ⟨w.heap.size,0,none⟩=some (.string (E p))∧w'.cell? ⟨w.heap.size,1,none⟩=some (.string (E q))∧w'.cell? ⟨w.heap.size,2,none⟩=some (.string (E g))∧w'.cell? ⟨w.heap.size+1,0,none⟩=some (.bool (sg z))∧w'.cell? ⟨w.heap.size+1,1,none⟩=some (.string (E z.natAbs))) (first | exact ⟨d0,d1,d2,j0,j1⟩ | exact ⟨f0,f1,f2,i0,i1⟩ | go_keep)
  (first | (go_at_call 46;refine (HO.out _).mono ?_;rintro e wf ⟨rfl,hbf⟩;have hBf:Blk wf w.heap.size 26 [Value.string (E p),Value.string (E q),Value.string (E g),Value.string (E h)]:=(by first | exact hB.drew.after hbf | exact (hB.alloc _).drew.after hbf);have hIf:Blk wf (w.heap.size+1) 28 [.bool (sg z),.string (E z.natAbs)]:=(by first | exact hI.drew.after hbf | exact (hI.alloc _).drew.after hbf);have hBWf:Below w.heap.size w wf:=(by first | exact bt hBW.drew hbf | exact bt (ba hBW _).drew hbf);have f0:=hBf.cell 0;have f1:=hBf.cell 1;have f2:=hBf.cell 2;have i0:=hIf.cell 0;have i1:=hIf.cell 1;have hlf:w.heap.size<wf.heap.size:=hBf.lt;have hlf':w.heap.size+1<wf.heap.size:=hIf.lt) | (go_at_call 103;refine (HPR.out _ _ _ (by first | exact ((Blk.new w3 _ _).drew.after hbf).alloc _ | exact blk2a _ _ _ _ _ | exact blk2b _ _ _ _ _ | exact ((Blk.new w3 _ _).drew.after hbf)) (by first | exact Blk.new _ _ _ | exact blk2a _ _ _ _ _ | exact blk2b _ _ _ _ _)).mono ?_;rintro e wd ⟨rfl,hbd⟩;have hBd:Blk wd w.heap.size 26 [Value.string (E p),Value.string (E q),Value.string (E g),Value.string (E h)]:=(by first | exact ((hBf.alloc _).alloc _).after hbd | exact (hBf.alloc _).after hbd);have hId:Blk wd (w.heap.size+1) 28 [.bool (sg z),.string (E z.natAbs)]:=(by first | exact ((hIf.alloc _).alloc _).after hbd | exact (hIf.alloc _).after hbd);have hBWd:Below w.heap.size w wd:=(by first | exact bt (ba (ba hBWf _) _) hbd | exact bt (ba hBWf _) hbd);have d0:=hBd.cell 0;have d1:=hBd.cell 1;have d2:=hBd.cell 2;have j0:=hId.cell 0;have j1:=hId.cell 1))
 all_goals go_wp2
 all_goals (go_ret2;exact ⟨rfl,by first | exact hBWd | exact hBWd.drew⟩)
end
section
open Go.RowKit
theorem natAbs_i64 {v:Int} (h1:-9223372036854775808≤v) (h2:v≤9223372036854775807):v.natAbs<256^128:=
 Nat.lt_of_le_of_lt (show v.natAbs≤9223372036854775808 by omega) (by decide)
theorem shiftS_c (p q g h c:Nat) (z:Int) (w:World) (hp:p<256^8) (hq:q<256^128) (hgb:g<256^128) (hhb:h<256^128) (hcb:c<256^128) (hzb:z.natAbs<256^128)
  (he:pedE p q g h=0) (hc:hasB p q c=true) (hg:hasB p q g=true) :
  Calls Tryz.prog 60 #[.agg #[.string (E p),.string (E q),.string (E g),.string (E h)],.string (E c),.agg #[.bool (sg (-z)),.string (E z.natAbs)]] w fun e w'=>e=.returned (.tuple #[.string (E (shiftN p c g (-z))),.int .i64 0])∧Below w.heap.size w w':=by
 have:=shift_c p q g h c (-z) w hp hq hgb hhb hcb (by rw [Int.natAbs_neg];exact hzb) he hc hg;rwa [Int.natAbs_neg] at this
end
section
open Go.RowKit
theorem pow_one_ofR (y q k p:Nat) (h:y^q%p=1%p):(y^k%p)^q%p=1%p:=by
 rw [←Nat.pow_mod,←Nat.pow_mul,Nat.mul_comm,Nat.pow_mul,Nat.pow_mod,h,←Nat.pow_mod,Nat.one_pow]
theorem inv_pow_oneR (b y q p:Nat) (hb:b^q%p=1%p) (hy:b*y%p=1%p):y^q%p=1%p:=by
 have h1:(b*y)^q%p=1%p:=by rw [Nat.pow_mod,hy,←Nat.pow_mod,Nat.one_pow]
 rw [Nat.mul_pow,Nat.mul_mod,hb,←Nat.mul_mod,Nat.one_mul] at h1;exact h1
theorem hasB_ofR {p q x:Nat} (hq:0<q) (hp:2≤p) (hx:x<p) (h:x^q%p=1%p):hasB p q x=true:=by
 unfold hasB;rw [if_neg (by omega),decide_eq_true_iff];refine ⟨?_,hx,h⟩;rintro rfl;rw [Nat.zero_pow hq,Nat.zero_mod,mod1 hp] at h;omega
theorem hasB_pow1R {p q x:Nat} (hq:0<q) (h:hasB p q x=true):x^q%p=1%p:=by
 unfold hasB at h;rw [if_neg (by omega),decide_eq_true_iff] at h;exact h.2.2
theorem has_powIR {p q x:Nat} (z:Int) (hp:2≤p) (hq:0<q) (h:hasB p q x=true):hasB p q (powI x z p)=true:=by
 have h1:=hasB_pow1R hq h;have hlt:=has_lt h;unfold powI;split
 ·refine hasB_ofR hq hp (Nat.mod_lt _ (by omega)) (pow_one_ofR _ _ _ _ ?_);rw [Nat.mod_eq_of_lt hlt];exact inv_pow_oneR x _ q p h1 (invN_spec x p (by omega) (has_coprime hp h))
 ·exact hasB_ofR hq hp (Nat.mod_lt _ (by omega)) (pow_one_ofR _ _ _ _ h1)
theorem shift_eq {p c g:Nat} (z:Int) (hg:g<p):shiftN p c g z=c*powI g z p%p:=by
 unfold shiftN powI prs bse;simp only [List.zipWith_cons_cons,List.zipWith_nil_left,pw,Nat.pow_zero,Nat.div_one,Nat.mul_one];have h1:¬ (1:Int)<0:=by decide
 rw [if_neg h1,show Int.natAbs 1=1 from rfl,Nat.pow_one,Nat.mod_eq_of_lt hg];split <;> rw [Nat.mul_mod_mod]
def overN (p c g:Nat) (v:Int):Nat:=c*powI g (-v) p%p
theorem rexp13S_c (p q x:Nat) (z:Int) (w:World) (hp:p<256^8) (hq:q<256^128) (hg:grpE p q=0) (hx:hasB p q x=true) (hz:z.natAbs<256^128) :
  Calls Tryz.prog 27 #[.agg #[.string (E p),.string (E q)],.string (E x),.agg #[.bool (sg (-z)),.string (E z.natAbs)]] w fun e w'=>e=.returned (.tuple #[.string (E (powI x (-z) p)),.int .i64 0])∧Below w.heap.size w w':=by
 have:=rexp13_c p q x (-z) w hp hq hg hx (by rw [Int.natAbs_neg];exact hz);rwa [Int.natAbs_neg] at this
end
section
open Go.RowKit
structure Stm (w:World) (g1 g2 g3 g4 c4:Nat) (p q t:Nat) (B:List Nat):Prop where
 l1:g1<w.heap.size
 l2:g2<w.heap.size
 l3:g3<w.heap.size
 l4:g4<w.heap.size
 m0:w.cell? ⟨g1,0,none⟩=some (.string (E p))
 m1:w.cell? ⟨g1,1,none⟩=some (.string (E q))
 vs:∀j,j<B.length→w.cell? ⟨g2,j,none⟩=some (.string { data:=#[] })
 e0:w.cell? ⟨g3,0,none⟩=some (.int .i64 0)
 e1:w.cell? ⟨g3,1,none⟩=some (.string (E t))
 e2:w.cell? ⟨g3,2,none⟩=some (.slice (some ⟨g4,0,none⟩) B.length c4)
 t0:∀j (h:j<B.length),w.cell? ⟨g4,j*4,none⟩=some (.string (E B[j]))
 t1:∀j,j<B.length→w.cell? ⟨g4,j*4+1,none⟩=some (.int .i64 (j:Int))
 t2:∀j,j<B.length→w.cell? ⟨g4,j*4+2,none⟩=some (.bool false)
 t3:∀j,j<B.length→w.cell? ⟨g4,j*4+3,none⟩=some (.string (E 1))
 cap:B.length≤c4
theorem Stm.after {w w':World} {g1 g2 g3 g4 c4 p q t:Nat} {B:List Nat} (h:Stm w g1 g2 g3 g4 c4 p q t B) (hb:Below w.heap.size w w'):Stm w' g1 g2 g3 g4 c4 p q t B:=
 ⟨Nat.lt_of_lt_of_le h.l1 hb.size,Nat.lt_of_lt_of_le h.l2 hb.size,Nat.lt_of_lt_of_le h.l3 hb.size,Nat.lt_of_lt_of_le h.l4 hb.size,
  (hb.cell (p:=⟨g1,0,none⟩) h.l1).trans h.m0,(hb.cell (p:=⟨g1,1,none⟩) h.l1).trans h.m1,fun j hj=>(hb.cell (p:=⟨g2,j,none⟩) h.l2).trans (h.vs j hj),
  (hb.cell (p:=⟨g3,0,none⟩) h.l3).trans h.e0,(hb.cell (p:=⟨g3,1,none⟩) h.l3).trans h.e1,(hb.cell (p:=⟨g3,2,none⟩) h.l3).trans h.e2,
  fun j hj=>(hb.cell (p:=⟨g4,j*4,none⟩) h.l4).trans (h.t0 j hj),fun j hj=>(hb.cell (p:=⟨g4,j*4+1,none⟩) h.l4).trans (h.t1 j hj),
  fun j hj=>(hb.cell (p:=⟨g4,j*4+2,none⟩) h.l4).trans (h.t2 j hj),fun j hj=>(hb.cell (p:=⟨g4,j*4+3,none⟩) h.l4).trans (h.t3 j hj),h.cap⟩
theorem gcellOf {w:World} {a:Addr} {v:Value} (hb:a.block<w.heap.size) (h:w.cell? a=some v):∀x:GW w,(Proofs.YtfgandecbkbleaaGreatDoor.gw x).cell? a=some v:=fun x=>((gw_below x).cell hb).trans h
theorem same_nil (w:World) :
  Calls Tryz.prog 22 #[.agg #[.slice none 0 0,.slice none 0 0,.slice none 0 0],.agg #[.slice none 0 0,.slice none 0 0,.slice none 0 0]] w fun e w'=>e=.returned (.bool true)∧Below w.heap.size w w':=by
 have hA:=blk2a w #[Value.slice none 0 0,Value.slice none 0 0,Value.slice none 0 0] #[Value.slice none 0 0,Value.slice none 0 0,Value.slice none 0 0] 61 61;have hB:=blk2b w #[Value.slice none 0 0,Value.slice none 0 0,Value.slice none 0 0] #[Value.slice none 0 0,Value.slice none 0 0,Value.slice none 0 0] 61 61;obtain ⟨hAc0,hAf0,hAc1,hAf1,hAc2,hAf2⟩:=hA.x3;obtain ⟨hBc0,hBf0,hBc1,hBf1,hBc2,hBf2⟩:=hB.x3;go_enter Tryz.func22,Tryz.ntmps22
 go_wp2;go_loop [5] (fun i=>i=.int .i64 0) (fun _=>0)
 case atStart=>rfl
 case round =>
  obtain rfl:=hrel;go_wp2;go_loop [6] (fun i=>i=.int .i64 0) (fun _=>0)
  case atStart=>rfl
  case round =>
   obtain rfl:=hrel;go_wp2;go_loop [7] (fun i=>i=.int .i64 0) (fun _=>0)
   case atStart=>rfl
   case round =>
    obtain rfl:=hrel;go_wp2;go_ret
    exact ⟨rfl,b2 _ _ _⟩
def EqBox (w:World) (t n a4 c4 b4 d4:Nat) (s8 s9:Value) (wx:World):Prop:=
 ∃h8 h9:Nat,s8=.pointer (some ⟨h8,0,none⟩)∧s9=.pointer (some ⟨h9,0,none⟩) ∧
  Blk wx h8 115 [.int .i64 0,.string (E t),.slice (some ⟨a4,0,none⟩) n c4]∧Blk wx h9 115 [.int .i64 0,.string (E t),.slice (some ⟨b4,0,none⟩) n d4]∧Below w.heap.size w wx
theorem same_c (w:World) (a1 a2 a3 a4 c1 c2 c3 c4 b1 b2 b3 b4 d1 d2 d3 d4:Nat) (p q t n:Nat) (B:List Nat) (hn:B.length=n) (hn1:n≤1000)
  (hA:Stm w a1 a2 a3 a4 c4 p q t B) (hB:Stm w b1 b2 b3 b4 d4 p q t B) :
  Calls Tryz.prog 22 #[.agg #[.slice (some ⟨a1,0,none⟩) 1 c1,.slice (some ⟨a2,0,none⟩) n c2,.slice (some ⟨a3,0,none⟩) 1 c3],.agg #[.slice (some ⟨b1,0,none⟩) 1 d1,.slice (some ⟨b2,0,none⟩) n d2,.slice (some ⟨b3,0,none⟩) 1 d3]] w fun e w'=>e=.returned (.bool true)∧Below w.heap.size w w':=by
 have HN:=Lib.hid hn;have hP:=blk2a w #[Value.slice (some ⟨a1,0,none⟩) 1 c1,Value.slice (some ⟨a2,0,none⟩) n c2,Value.slice (some ⟨a3,0,none⟩) 1 c3] #[Value.slice (some ⟨b1,0,none⟩) 1 d1,Value.slice (some ⟨b2,0,none⟩) n d2,Value.slice (some ⟨b3,0,none⟩) 1 d3] 61 61;have hQ:=blk2b w #[Value.slice (some ⟨a1,0,none⟩) 1 c1,Value.slice (some ⟨a2,0,none⟩) n c2,Value.slice (some ⟨a3,0,none⟩) 1 c3] #[Value.slice (some ⟨b1,0,none⟩) 1 d1,Value.slice (some ⟨b2,0,none⟩) n d2,Value.slice (some ⟨b3,0,none⟩) 1 d3] 61 61;have hBW:=Proofs.YtfgandecbkbleaaGreatDoor.b2 w (.cells #[Value.slice (some ⟨a1,0,none⟩) 1 c1,Value.slice (some ⟨a2,0,none⟩) n c2,Value.slice (some ⟨a3,0,none⟩) 1 c3] 61) (.cells #[Value.slice (some ⟨b1,0,none⟩) 1 d1,Value.slice (some ⟨b2,0,none⟩) n d2,Value.slice (some ⟨b3,0,none⟩) 1 d3] 61);replace hA:=hA.after hBW;replace hB:=hB.after hBW;clear hn;obtain ⟨hPc0,hPf0,hPc1,hPf1,hPc2,hPf2⟩:=hP.x3;obtain ⟨hQc0,hQf0,hQc1,hQf1,hQc2,hQf2⟩:=hQ.x3;go_enter Tryz.func22,Tryz.ntmps22
 go_wp2;clear hPc0 hPf0 hPc1 hPf1 hPc2 hPf2;clear hQc0 hQf0 hQc1 hQf1 hQc2 hQf2;generalize ((w.alloc (.cells #[Value.slice (some ⟨a1,0,none⟩) 1 c1,Value.slice (some ⟨a2,0,none⟩) n c2,Value.slice (some ⟨a3,0,none⟩) 1 c3] 61)).alloc (.cells #[Value.slice (some ⟨b1,0,none⟩) 1 d1,Value.slice (some ⟨b2,0,none⟩) n d2,Value.slice (some ⟨b3,0,none⟩) 1 d3] 61))=w1 at hP hQ hBW hA hB;go_loopw [5] (fun i wr=>(i=.int .i64 0∨i=.int .i64 1)∧Below w1.heap.size w1 wr) (fun i _=>1-(intOf i).toNat)
 case atStart=>exact ⟨.inl rfl,Below.refl _ _⟩
 case round =>
  obtain ⟨hi,hbr⟩:=hrel;obtain ⟨wp,hwp⟩:∃wp,wp=wr:=⟨_,rfl⟩;subst hwp;replace hA:=hA.after hbr;replace hB:=hB.after hbr;replace hP:=hP.after hbr;replace hQ:=hQ.after hbr;rcases hi with rfl | rfl
  ·have k0:=gcellOf (a:=⟨a1,0,none⟩) hA.l1 hA.m0;have k1:=gcellOf (a:=⟨a1,1,none⟩) hA.l1 hA.m1;have k2:=gcellOf (a:=⟨b1,0,none⟩) hB.l1 hB.m0;have k3:=gcellOf (a:=⟨b1,1,none⟩) hB.l1 hB.m1;have hPg0:=hP.gcell 0;have hPg1:=hP.gcell 1;have hPg2:=hP.gcell 2;have hQg0:=hQ.gcell 0;have hQg1:=hQ.gcell 1;have hQg2:=hQ.gcell 2;obtain ⟨hPc0,hPf0,hPc1,hPf1,hPc2,hPf2⟩:=hP.x3;obtain ⟨hQc0,hQf0,hQc1,hQf1,hQc2,hQf2⟩:=hQ.x3;go_wp2_with fail
   go_wp2_with fail
   refine wp_region_gw (by kernel_rfl) (by kernel_rfl) ?_;repeat (go_big_quiet_step (first | (fail)))
   refine wpQuiet_nil ?_;rintro w2 ⟨xw2,rfl⟩;have hb2:=gw_below xw2;generalize gw xw2=w2 at hb2;go_wp2;go_roundw
   case rel=>exact ⟨.inr rfl,bt hbr hb2⟩
   case measure=>simp [intOf]
  ·replace hBW:=bt hBW hbr;clear hbr;obtain ⟨hPc0,hPf0,hPc1,hPf1,hPc2,hPf2⟩:=hP.x3;obtain ⟨hQc0,hQf0,hQc1,hQf1,hQc2,hQf2⟩:=hQ.x3;go_wp2;clear hPc0 hPf0 hPc1 hPf1 hPc2 hPf2;clear hQc0 hQf0 hQc1 hQf1 hQc2 hQf2;go_loopw [6] (fun i wr=>∃k:Nat,k≤n∧i=.int .i64 k∧Below wp.heap.size wp wr) (fun i _=>n-(intOf i).toNat)
   case atStart=>exact ⟨0,by omega,rfl,Below.refl _ _⟩
   case round =>
    obtain ⟨k,hk,rfl,hbr⟩:=hrel;obtain ⟨wq,hwq⟩:∃wq,wq=wr:=⟨_,rfl⟩;subst hwq;replace hA:=hA.after hbr;replace hB:=hB.after hbr;replace hP:=hP.after hbr;replace hQ:=hQ.after hbr;by_cases hlt:k<n
    ·have hkl:k<B.length:=by rw [HN.out];exact hlt
     have k0:=gcellOf (a:=⟨a2,k,none⟩) hA.l2 (hA.vs k hkl);have k1:=gcellOf (a:=⟨b2,k,none⟩) hB.l2 (hB.vs k hkl);have h0k:(0:Int)≤(k:Int):=by omega
     have h1k:(k:Int)<(n:Int):=by omega
     clear hkl;have hPg0:=hP.gcell 0;have hPg1:=hP.gcell 1;have hPg2:=hP.gcell 2;have hQg0:=hQ.gcell 0;have hQg1:=hQ.gcell 1;have hQg2:=hQ.gcell 2;obtain ⟨hPc0,hPf0,hPc1,hPf1,hPc2,hPf2⟩:=hP.x3;obtain ⟨hQc0,hQf0,hQc1,hQf1,hQc2,hQf2⟩:=hQ.x3;go_wp2_with fail
     go_wp2_with fail
     refine wp_region_gw (by kernel_rfl) (by kernel_rfl) ?_;repeat (go_big_quiet_step (first | (fail)))
     refine wpQuiet_nil ?_;rintro w2 ⟨xw2,rfl⟩;have hb2:=gw_below xw2;generalize gw xw2=w2 at hb2;go_wp2;go_roundw
     case rel=>exact ⟨k+1,by omega,by go_num,bt hbr hb2⟩
     case measure=>simp [intOf];omega
    ·obtain rfl:k=n:=by omega
     replace hBW:=bt hBW hbr;clear hbr hk hlt;obtain ⟨hPc0,hPf0,hPc1,hPf1,hPc2,hPf2⟩:=hP.x3;obtain ⟨hQc0,hQf0,hQc1,hQf1,hQc2,hQf2⟩:=hQ.x3;go_wp2;clear hPc0 hPf0 hPc1 hPf1 hPc2 hPf2;clear hQc0 hQf0 hQc1 hQf1 hQc2 hQf2;go_loopw [7] (fun i wr=>(i=.int .i64 0∨i=.int .i64 1)∧Below wq.heap.size wq wr) (fun i _=>1-(intOf i).toNat)
     case atStart=>exact ⟨.inl rfl,Below.refl _ _⟩
     case round =>
      obtain ⟨hi,hbr⟩:=hrel;obtain ⟨wu,hwu⟩:∃wu,wu=wr:=⟨_,rfl⟩;subst hwu;replace hA:=hA.after hbr;replace hB:=hB.after hbr;replace hP:=hP.after hbr;replace hQ:=hQ.after hbr;rcases hi with rfl | rfl
      ·have f0:=hA.e0;have f1:=hA.e1;have f2:=hA.e2;have g0:=hB.e0;have g1:=hB.e1;have g2:=hB.e2;rw [HN.out] at f2 g2;have y1:=hA.l3;have y2:=hB.l3;have y3:=hP.lt;have y4:=hQ.lt;obtain ⟨hPc0,hPf0,hPc1,hPf1,hPc2,hPf2⟩:=hP.x3;obtain ⟨hQc0,hQf0,hQc1,hQf1,hQc2,hQf2⟩:=hQ.x3;go_upto_region 16 with fail
       go_cut [8,9] (fun s8 s9 wx=>EqBox wu t k a4 c4 b4 d4 s8 s9 wx)
       case first =>
        go_region_held3 (fun w'=>w'.cell? ⟨w.heap.size,2,none⟩=some (.slice (some ⟨a3,0,none⟩) 1 c3)∧w'.cell? ⟨w.heap.size+1,2,none⟩=some (.slice (some ⟨b3,0,none⟩) 1 d3)∧w'.cell? ⟨a3,0,none⟩=some (.int .i64 0)∧w'.cell? ⟨a3,1,none⟩=some (.string (E t))∧w'.cell? ⟨a3,2,none⟩=some (.slice (some ⟨a4,0,none⟩) k c4)∧w'.cell? ⟨b3,0,none⟩=some (.int .i64 0)∧w'.cell? ⟨b3,1,none⟩=some (.string (E t))∧w'.cell? ⟨b3,2,none⟩=some (.slice (some ⟨b4,0,none⟩) k d4)) (go_keep) (fail)
        all_goals
         go_wp2_with fail
         go_meet
         first
         | exact ⟨_,_,rfl,rfl,(blk2a _ _ _ _ _).drew,(blk2b _ _ _ _ _).drew,(Proofs.YtfgandecbkbleaaGreatDoor.b2 _ _ _).drew⟩
         | exact ⟨_,_,rfl,rfl,(blk2b _ _ _ _ _).drew,(blk2a _ _ _ _ _).drew,(Proofs.YtfgandecbkbleaaGreatDoor.b2 _ _ _).drew⟩
       case rest =>
        obtain ⟨h8,h9,rfl,rfl,h8b,h9b,hbx⟩:=hcut;clear hPc0 hPf0 hPc1 hPf1 hPc2 hPf2;clear hQc0 hQf0 hQc1 hQf1 hQc2 hQf2;clear f0 f1 f2 g0 g1 g2 y1 y2 y3 y4;obtain ⟨wx,hwx⟩:∃wx,wx=wc:=⟨_,rfl⟩;subst hwx;replace hA:=hA.after hbx;replace hB:=hB.after hbx;replace hP:=hP.after hbx;replace hQ:=hQ.after hbx;obtain ⟨h8bc0,h8bf0,h8bc1,h8bf1,h8bc2,h8bf2⟩:=h8b.x3;obtain ⟨h9bc0,h9bf0,h9bc1,h9bf1,h9bc2,h9bf2⟩:=h9b.x3;go_wp2;clear h8bc0 h8bf0 h8bc1 h8bf1 h8bc2 h8bf2;clear h9bc0 h9bf0 h9bc1 h9bf1 h9bc2 h9bf2;go_loopw [10] (fun i wr=>∃k':Nat,k'≤k∧i=.int .i64 k'∧Below wx.heap.size wx wr) (fun i _=>k-(intOf i).toNat)
        case atStart=>exact ⟨0,by omega,rfl,Below.refl _ _⟩
        case round =>
         obtain ⟨k',hk,rfl,hbs⟩:=hrel;obtain ⟨wy,hwy⟩:∃wy,wy=wr:=⟨_,rfl⟩;subst hwy;replace hA:=hA.after hbs;replace hB:=hB.after hbs;replace h8b:=h8b.after hbs;replace h9b:=h9b.after hbs;by_cases hlt:k'<k
         ·have hkl:k'<B.length:=by rw [HN.out];exact hlt
          have k0:=gcellOf (a:=⟨a4,k'*4,none⟩) hA.l4 (hA.t0 k' hkl);have k1:=gcellOf (a:=⟨a4,k'*4+1,none⟩) hA.l4 (hA.t1 k' hkl);have k2:=gcellOf (a:=⟨a4,k'*4+2,none⟩) hA.l4 (hA.t2 k' hkl);have k3:=gcellOf (a:=⟨a4,k'*4+3,none⟩) hA.l4 (hA.t3 k' hkl);have j0:=gcellOf (a:=⟨b4,k'*4,none⟩) hB.l4 (hB.t0 k' hkl);have j1:=gcellOf (a:=⟨b4,k'*4+1,none⟩) hB.l4 (hB.t1 k' hkl);have j2:=gcellOf (a:=⟨b4,k'*4+2,none⟩) hB.l4 (hB.t2 k' hkl);have j3:=gcellOf (a:=⟨b4,k'*4+3,none⟩) hB.l4 (hB.t3 k' hkl);generalize B[k']=bv at k0 j0;have h0k:(0:Int)≤(k':Int):=by omega
          have h1k:(k':Int)<(k:Int):=by omega
          clear hkl;have h8bg0:=h8b.gcell 0;have h8bg1:=h8b.gcell 1;have h8bg2:=h8b.gcell 2;have h9bg0:=h9b.gcell 0;have h9bg1:=h9b.gcell 1;have h9bg2:=h9b.gcell 2;obtain ⟨h8bc0,h8bf0,h8bc1,h8bf1,h8bc2,h8bf2⟩:=h8b.x3;obtain ⟨h9bc0,h9bf0,h9bc1,h9bf1,h9bc2,h9bf2⟩:=h9b.x3;go_wp2_with fail
          go_wp2_with fail
          refine wp_region_gw (by kernel_rfl) (by kernel_rfl) ?_;repeat (go_big_quiet_step (first | (fail)))
          refine wpQuiet_nil ?_;rintro w2 ⟨xw2,rfl⟩;have hb2:=gw_below xw2;generalize gw xw2=w2 at hb2;go_wp2;go_roundw
          case rel=>exact ⟨k'+1,by omega,by go_num,bt hbs hb2⟩
          case measure=>simp [intOf];omega
         ·obtain rfl:k'=k:=by omega
          obtain ⟨h8bc0,h8bf0,h8bc1,h8bf1,h8bc2,h8bf2⟩:=h8b.x3;obtain ⟨h9bc0,h9bf0,h9bc1,h9bf1,h9bc2,h9bf2⟩:=h9b.x3;go_wp2;go_roundw
          case rel=>exact ⟨.inr rfl,bt (bt hbr hbx) hbs⟩
          case measure=>simp [intOf]
      ·replace hBW:=bt hBW hbr;obtain ⟨hPc0,hPf0,hPc1,hPf1,hPc2,hPf2⟩:=hP.x3;obtain ⟨hQc0,hQf0,hQc1,hQf1,hQc2,hQf2⟩:=hQ.x3;go_wp2;go_ret
       exact ⟨rfl,hBW⟩
end
end Go.Proofs.YtfgandecbkbleaaGreatDoor
