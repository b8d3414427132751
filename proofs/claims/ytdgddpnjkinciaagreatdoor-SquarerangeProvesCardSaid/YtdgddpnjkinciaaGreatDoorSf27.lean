/- ref14.element and Shift. -/
import Derived.Deep.RegionHeld3
import Derived.Deep.DrawnRows
import Derived.Test.YtdgddpnjkinciaaGreatDoorImg2
set_option linter.all false
set_option maxRecDepth 100000
set_option maxHeartbeats 16000000
namespace Go.Proofs.YtdgddpnjkinciaaGreatDoor
section
open Go.RowKit
theorem rpform_c (a b c d:ByteArray) (w:World) (ha:a.size≤1000) (hb:b.size≤1000) (hc:c.size≤1000) (hd:d.size≤1000) :
  Calls Tryz.prog 55 #[.agg #[.string a,.string b,.string c,.string d]] w fun e w'=>e=.returned (.bool (vl4 a b c d))∧Bw w w':=by
 have HA:Hid (a.size≤4611686018427387904):=by unfold Hid;omega
 have HB:Hid (b.size≤4611686018427387904):=by unfold Hid;omega
 have HC:Hid (c.size≤4611686018427387904):=by unfold Hid;omega
 have HD:Hid (d.size≤4611686018427387904):=by unfold Hid;omega
 have HV:Hid (vl4 a b c d=(vldB a&&vldB b&&vldB c&&vldB d)):=rfl;clear ha hb hc hd;cases e1:vldB a
 ·have E1:=Kh e1;have HR:Hid (vl4 a b c d=false):=by rw[Hid,HV.out,e1];rfl
  clear e1 HV;go_enter Tryz.func55,Tryz.ntmps55
  go_wp2_with fail
  refine (rvalidV_c a _ _ HA.out E1.out).mono ?_;rintro e w' ⟨rfl,rfl⟩;go_wp2;go_ret
  exact⟨rb HR.out.symm,b1 _ _⟩
 ·have E1:=Kh e1;cases e2:vldB b
  ·have E2:=Kh e2;have HR:Hid (vl4 a b c d=false):=by rw[Hid,HV.out,e1,e2];rfl
   clear e1 e2 HV;go_enter Tryz.func55,Tryz.ntmps55
   go_wp2_with fail
   refine (rvalidV_c a _ _ HA.out E1.out).mono ?_;rintro e w' ⟨rfl,rfl⟩;go_wp2_with fail
   refine (rvalidV_c b _ _ HB.out E2.out).mono ?_;rintro e w' ⟨rfl,rfl⟩;go_wp2;go_ret
   exact⟨rb HR.out.symm,b1 _ _⟩
  ·have E2:=Kh e2;cases e3:vldB c
   ·have E3:=Kh e3;have HR:Hid (vl4 a b c d=false):=by rw[Hid,HV.out,e1,e2,e3];rfl
    clear e1 e2 e3 HV;go_enter Tryz.func55,Tryz.ntmps55
    go_wp2_with fail
    refine (rvalidV_c a _ _ HA.out E1.out).mono ?_;rintro e w' ⟨rfl,rfl⟩;go_wp2_with fail
    refine (rvalidV_c b _ _ HB.out E2.out).mono ?_;rintro e w' ⟨rfl,rfl⟩;go_wp2_with fail
    refine (rvalidV_c c _ _ HC.out E3.out).mono ?_;rintro e w' ⟨rfl,rfl⟩;go_wp2;go_ret
    exact⟨rb HR.out.symm,b1 _ _⟩
   ·have E3:=Kh e3;have HR:Hid (vl4 a b c d=vldB d):=by rw[Hid,HV.out,e1,e2,e3];rfl
    clear e1 e2 e3 HV;go_enter Tryz.func55,Tryz.ntmps55
    go_wp2_with fail
    refine (rvalidV_c a _ _ HA.out E1.out).mono ?_;rintro e w' ⟨rfl,rfl⟩;go_wp2_with fail
    refine (rvalidV_c b _ _ HB.out E2.out).mono ?_;rintro e w' ⟨rfl,rfl⟩;go_wp2_with fail
    refine (rvalidV_c c _ _ HC.out E3.out).mono ?_;rintro e w' ⟨rfl,rfl⟩;go_wp2_with fail
    refine (rvalid_c d _ HD.out).mono ?_;rintro e w' ⟨rfl,rfl⟩;go_wp2;go_ret
    exact⟨rb HR.out.symm,b1 _ _⟩
theorem rpformV_c (a b c d:ByteArray) (r:Bool) (w:World) (ha:a.size≤1000) (hb:b.size≤1000) (hc:c.size≤1000) (hd:d.size≤1000) (hr:vl4 a b c d=r) :
  Calls Tryz.prog 55 #[.agg #[.string a,.string b,.string c,.string d]] w fun e w'=>e=.returned (.bool r)∧Bw w w':=by
 rw[←hr];exact rpform_c a b c d w ha hb hc hd
theorem rpedcheck_grp (p q g h:Nat) (w:World) (hp:p<256^8) (hq:q<256^128) (hb:g<256^128) (hc:h<256^128) (he:grpE p q=13) :
  Calls Tryz.prog 57 #[.agg #[.string (E p),.string (E q),.string (E g),.string (E h)]] w fun e w'=>e=.returned (.int .i64 13)∧Bw w w':=by
 have HF:=Kh (fun w=>rpformV_c (E p) (E q) (E g) (E h) true w (sz1000 (lt128 hp)) (sz1000 hq) (sz1000 hb) (sz1000 hc) (vl4_E (lt128 hp) hq hb hc));have HO:=Kh (fun w=>rofK_c 1 1 w rfl (by decide));have hB:=Blk.new w #[Value.string (E p),Value.string (E q),Value.string (E g),Value.string (E h)] 26;have HC:=Kh (fun w=>rpcheckV_c p q 13 w hp hq he);clear he;clear hp hq hb hc;go_enter Tryz.func57,Tryz.ntmps57
 go_wp2_with fail
 refine (HF.out _).mono ?_;rintro e w1 ⟨rfl,hm⟩;replace hB:=hB.after hm;obtain⟨hd,hf,hg,hh,hi,hj,hk,hl⟩:=hB.x4;go_wp2_with fail
 refine (HC.out _).mono ?_;rintro e w2 ⟨rfl,hn⟩;clear hd hf hg hh hi hj hk hl;replace hB:=hB.after hn;go_wp2;go_ret
 exact⟨rfl,bt (bt (b1 _ _) hm) hn⟩
theorem rpedcheck_g (p q g h:Nat) (w:World) (hp:p<256^8) (hq:q<256^128) (hb:g<256^128) (hc:h<256^128) (he:grpE p q=0) (h1:hasB p q g=false) :
  Calls Tryz.prog 57 #[.agg #[.string (E p),.string (E q),.string (E g),.string (E h)]] w fun e w'=>e=.returned (.int .i64 13)∧Bw w w':=by
 have HF:=Kh (fun w=>rpformV_c (E p) (E q) (E g) (E h) true w (sz1000 (lt128 hp)) (sz1000 hq) (sz1000 hb) (sz1000 hc) (vl4_E (lt128 hp) hq hb hc));have HO:=Kh (fun w=>rofK_c 1 1 w rfl (by decide));have hB:=Blk.new w #[Value.string (E p),Value.string (E q),Value.string (E g),Value.string (E h)] 26;have HC:=Kh (fun w=>rpcheckV_c p q 0 w hp hq he);have HG:=Kh (fun w=>rHasV_c p q g false w hp hq he hb h1);clear he h1;clear hp hq hb hc;go_enter Tryz.func57,Tryz.ntmps57
 go_wp2_with fail
 refine (HF.out _).mono ?_;rintro e w1 ⟨rfl,hm⟩;replace hB:=hB.after hm;obtain⟨hd,hf,hg,hh,hi,hj,hk,hl⟩:=hB.x4;go_wp2_with fail
 refine (HC.out _).mono ?_;rintro e w2 ⟨rfl,hn⟩;clear hd hf hg hh hi hj hk hl;replace hB:=hB.after hn;have hr:=hB.gcell 0;have ht:=hB.gcell 1;have hu:=hB.gcell 2;have hv:=hB.gcell 3;go_wp2_with fail
 refine wp_region_gw (by kernel_rfl) (by kernel_rfl) ?_;repeat (go_big_quiet_step (first | (go_at_call 104;exact gw_of (HG.out _))))
 refine wpQuiet_nil ?_;rintro w3 ⟨xw3,rfl⟩;have ho:=gw_below xw3;generalize gw xw3=w3 at ho;go_wp2;go_ret
 exact⟨rfl,bt (bt (bt (b1 _ _) hm) hn) ho⟩
theorem rpedcheck_h (p q g h:Nat) (w:World) (hp:p<256^8) (hq:q<256^128) (hb:g<256^128) (hc:h<256^128) (he:grpE p q=0) (h1:hasB p q g=true) (h2:hasB p q h=false) :
  Calls Tryz.prog 57 #[.agg #[.string (E p),.string (E q),.string (E g),.string (E h)]] w fun e w'=>e=.returned (.int .i64 13)∧Bw w w':=by
 have HF:=Kh (fun w=>rpformV_c (E p) (E q) (E g) (E h) true w (sz1000 (lt128 hp)) (sz1000 hq) (sz1000 hb) (sz1000 hc) (vl4_E (lt128 hp) hq hb hc));have HO:=Kh (fun w=>rofK_c 1 1 w rfl (by decide));have hB:=Blk.new w #[Value.string (E p),Value.string (E q),Value.string (E g),Value.string (E h)] 26;have HC:=Kh (fun w=>rpcheckV_c p q 0 w hp hq he);have HG:=Kh (fun w=>rHasV_c p q g true w hp hq he hb h1);have HH:=Kh (fun w=>rHasV_c p q h false w hp hq he hc h2);clear he h1 h2;clear hp hq hb hc;go_enter Tryz.func57,Tryz.ntmps57
 go_wp2_with fail
 refine (HF.out _).mono ?_;rintro e w1 ⟨rfl,hm⟩;replace hB:=hB.after hm;obtain⟨hd,hf,hg,hh,hi,hj,hk,hl⟩:=hB.x4;go_wp2_with fail
 refine (HC.out _).mono ?_;rintro e w2 ⟨rfl,hn⟩;clear hd hf hg hh hi hj hk hl;replace hB:=hB.after hn;have hr:=hB.gcell 0;have ht:=hB.gcell 1;have hu:=hB.gcell 2;have hv:=hB.gcell 3;go_wp2_with fail
 refine wp_region_gw (by kernel_rfl) (by kernel_rfl) ?_;repeat (go_big_quiet_step (first | (go_at_call 104;first | (with_reducible exact gw_of (HG.out _)) | (with_reducible exact gw_of (HH.out _)))))
 refine wpQuiet_nil ?_;rintro w3 ⟨xw3,rfl⟩;have ho:=gw_below xw3;generalize gw xw3=w3 at ho;go_wp2;go_ret
 exact⟨rfl,bt (bt (bt (b1 _ _) hm) hn) ho⟩
theorem rpedcheck_g1 (p q g h:Nat) (w:World) (hp:p<256^8) (hq:q<256^128) (hb:g<256^128) (hc:h<256^128) (he:grpE p q=0) (h1:hasB p q g=true) (h2:hasB p q h=true) (h3:g=1) :
  Calls Tryz.prog 57 #[.agg #[.string (E p),.string (E q),.string (E g),.string (E h)]] w fun e w'=>e=.returned (.int .i64 13)∧Bw w w':=by
 have HF:=Kh (fun w=>rpformV_c (E p) (E q) (E g) (E h) true w (sz1000 (lt128 hp)) (sz1000 hq) (sz1000 hb) (sz1000 hc) (vl4_E (lt128 hp) hq hb hc));have HO:=Kh (fun w=>rofK_c 1 1 w rfl (by decide));have hB:=Blk.new w #[Value.string (E p),Value.string (E q),Value.string (E g),Value.string (E h)] 26;have HC:=Kh (fun w=>rpcheckV_c p q 0 w hp hq he);have HG:=Kh (fun w=>rHasV_c p q g true w hp hq he hb h1);have HH:=Kh (fun w=>rHasV_c p q h true w hp hq he hc h2);have e1:=eqE h3;clear he h1 h2 h3;clear hp hq hb hc;go_enter Tryz.func57,Tryz.ntmps57
 go_wp2_with fail
 refine (HF.out _).mono ?_;rintro e w1 ⟨rfl,hm⟩;replace hB:=hB.after hm;obtain⟨hd,hf,hg,hh,hi,hj,hk,hl⟩:=hB.x4;go_wp2_with fail
 refine (HC.out _).mono ?_;rintro e w2 ⟨rfl,hn⟩;clear hd hf hg hh hi hj hk hl;replace hB:=hB.after hn;have hr:=hB.gcell 0;have ht:=hB.gcell 1;have hu:=hB.gcell 2;have hv:=hB.gcell 3;go_wp2_with fail
 refine wp_region_gw (by kernel_rfl) (by kernel_rfl) ?_;repeat (go_big_quiet_step (first | (go_at_call 104;first | (with_reducible exact gw_of (HG.out _)) | (with_reducible exact gw_of (HH.out _))) | (go_at_call 28;exact gw_of (HO.out _))))
 refine wpQuiet_nil ?_;rintro w3 ⟨xw3,rfl⟩;have ho:=gw_below xw3;generalize gw xw3=w3 at ho;go_wp2;go_ret
 exact⟨rfl,bt (bt (bt (b1 _ _) hm) hn) ho⟩
theorem rpedcheck_h1 (p q g h:Nat) (w:World) (hp:p<256^8) (hq:q<256^128) (hb:g<256^128) (hc:h<256^128) (he:grpE p q=0) (h1:hasB p q g=true) (h2:hasB p q h=true) (h3:g≠1) (h4:h=1) :
  Calls Tryz.prog 57 #[.agg #[.string (E p),.string (E q),.string (E g),.string (E h)]] w fun e w'=>e=.returned (.int .i64 13)∧Bw w w':=by
 have HF:=Kh (fun w=>rpformV_c (E p) (E q) (E g) (E h) true w (sz1000 (lt128 hp)) (sz1000 hq) (sz1000 hb) (sz1000 hc) (vl4_E (lt128 hp) hq hb hc));have HO:=Kh (fun w=>rofK_c 1 1 w rfl (by decide));have hB:=Blk.new w #[Value.string (E p),Value.string (E q),Value.string (E g),Value.string (E h)] 26;have HC:=Kh (fun w=>rpcheckV_c p q 0 w hp hq he);have HG:=Kh (fun w=>rHasV_c p q g true w hp hq he hb h1);have HH:=Kh (fun w=>rHasV_c p q h true w hp hq he hc h2);have e1:=neE h3;have e2:=eqE h4;clear he h1 h2 h3 h4;clear hp hq hb hc;go_enter Tryz.func57,Tryz.ntmps57
 go_wp2_with fail
 refine (HF.out _).mono ?_;rintro e w1 ⟨rfl,hm⟩;replace hB:=hB.after hm;obtain⟨hd,hf,hg,hh,hi,hj,hk,hl⟩:=hB.x4;go_wp2_with fail
 refine (HC.out _).mono ?_;rintro e w2 ⟨rfl,hn⟩;clear hd hf hg hh hi hj hk hl;replace hB:=hB.after hn;have hr:=hB.gcell 0;have ht:=hB.gcell 1;have hu:=hB.gcell 2;have hv:=hB.gcell 3;go_wp2_with fail
 refine wp_region_gw (by kernel_rfl) (by kernel_rfl) ?_;repeat (go_big_quiet_step (first | (go_at_call 104;first | (with_reducible exact gw_of (HG.out _)) | (with_reducible exact gw_of (HH.out _))) | (go_at_call 28;exact gw_of (HO.out _))))
 refine wpQuiet_nil ?_;rintro w3 ⟨xw3,rfl⟩;have ho:=gw_below xw3;generalize gw xw3=w3 at ho;go_wp2;go_ret
 exact⟨rfl,bt (bt (bt (b1 _ _) hm) hn) ho⟩
theorem rpedcheck_gh (p q g h:Nat) (w:World) (hp:p<256^8) (hq:q<256^128) (hb:g<256^128) (hc:h<256^128) (he:grpE p q=0) (h1:hasB p q g=true) (h2:hasB p q h=true) (h3:g≠1) (h4:h≠1) (h5:g=h) :
  Calls Tryz.prog 57 #[.agg #[.string (E p),.string (E q),.string (E g),.string (E h)]] w fun e w'=>e=.returned (.int .i64 13)∧Bw w w':=by
 have HF:=Kh (fun w=>rpformV_c (E p) (E q) (E g) (E h) true w (sz1000 (lt128 hp)) (sz1000 hq) (sz1000 hb) (sz1000 hc) (vl4_E (lt128 hp) hq hb hc));have HO:=Kh (fun w=>rofK_c 1 1 w rfl (by decide));have hB:=Blk.new w #[Value.string (E p),Value.string (E q),Value.string (E g),Value.string (E h)] 26;have HC:=Kh (fun w=>rpcheckV_c p q 0 w hp hq he);have HG:=Kh (fun w=>rHasV_c p q g true w hp hq he hb h1);have HH:=Kh (fun w=>rHasV_c p q h true w hp hq he hc h2);have e1:=neE h3;have e2:=neE h4;have e3:=eqE h5;clear he h1 h2 h3 h4 h5;clear hp hq hb hc;go_enter Tryz.func57,Tryz.ntmps57
 go_wp2_with fail
 refine (HF.out _).mono ?_;rintro e w1 ⟨rfl,hm⟩;replace hB:=hB.after hm;obtain⟨hd,hf,hg,hh,hi,hj,hk,hl⟩:=hB.x4;go_wp2_with fail
 refine (HC.out _).mono ?_;rintro e w2 ⟨rfl,hn⟩;clear hd hf hg hh hi hj hk hl;replace hB:=hB.after hn;have hr:=hB.gcell 0;have ht:=hB.gcell 1;have hu:=hB.gcell 2;have hv:=hB.gcell 3;go_wp2_with fail
 refine wp_region_gw (by kernel_rfl) (by kernel_rfl) ?_;repeat (go_big_quiet_step (first | (go_at_call 104;first | (with_reducible exact gw_of (HG.out _)) | (with_reducible exact gw_of (HH.out _))) | (go_at_call 28;exact gw_of (HO.out _))))
 refine wpQuiet_nil ?_;rintro w3 ⟨xw3,rfl⟩;have ho:=gw_below xw3;generalize gw xw3=w3 at ho;go_wp2;go_ret
 exact⟨rfl,bt (bt (bt (b1 _ _) hm) hn) ho⟩
theorem rpedcheck_ok (p q g h:Nat) (w:World) (hp:p<256^8) (hq:q<256^128) (hb:g<256^128) (hc:h<256^128) (he:grpE p q=0) (h1:hasB p q g=true) (h2:hasB p q h=true) (h3:g≠1) (h4:h≠1) (h5:g≠h) :
  Calls Tryz.prog 57 #[.agg #[.string (E p),.string (E q),.string (E g),.string (E h)]] w fun e w'=>e=.returned (.int .i64 0)∧Bw w w':=by
 have HF:=Kh (fun w=>rpformV_c (E p) (E q) (E g) (E h) true w (sz1000 (lt128 hp)) (sz1000 hq) (sz1000 hb) (sz1000 hc) (vl4_E (lt128 hp) hq hb hc));have HO:=Kh (fun w=>rofK_c 1 1 w rfl (by decide));have hB:=Blk.new w #[Value.string (E p),Value.string (E q),Value.string (E g),Value.string (E h)] 26;have HC:=Kh (fun w=>rpcheckV_c p q 0 w hp hq he);have HG:=Kh (fun w=>rHasV_c p q g true w hp hq he hb h1);have HH:=Kh (fun w=>rHasV_c p q h true w hp hq he hc h2);have e1:=neE h3;have e2:=neE h4;have e3:=neE h5;clear he h1 h2 h3 h4 h5;clear hp hq hb hc;go_enter Tryz.func57,Tryz.ntmps57
 go_wp2_with fail
 refine (HF.out _).mono ?_;rintro e w1 ⟨rfl,hm⟩;replace hB:=hB.after hm;obtain⟨hd,hf,hg,hh,hi,hj,hk,hl⟩:=hB.x4;go_wp2_with fail
 refine (HC.out _).mono ?_;rintro e w2 ⟨rfl,hn⟩;clear hd hf hg hh hi hj hk hl;replace hB:=hB.after hn;have hr:=hB.gcell 0;have ht:=hB.gcell 1;have hu:=hB.gcell 2;have hv:=hB.gcell 3;go_wp2_with fail
 refine wp_region_gw (by kernel_rfl) (by kernel_rfl) ?_;repeat (go_big_quiet_step (first | (go_at_call 104;first | (with_reducible exact gw_of (HG.out _)) | (with_reducible exact gw_of (HH.out _))) | (go_at_call 28;exact gw_of (HO.out _))))
 refine wpQuiet_nil ?_;rintro w3 ⟨xw3,rfl⟩;have ho:=gw_below xw3;generalize gw xw3=w3 at ho;go_wp2;go_ret
 exact⟨rfl,bt (bt (bt (b1 _ _) hm) hn) ho⟩
theorem rpedcheck_c (p q g h:Nat) (w:World) (hp:p<256^8) (hq:q<256^128) (hb:g<256^128) (hc:h<256^128) :
  Calls Tryz.prog 57 #[.agg #[.string (E p),.string (E q),.string (E g),.string (E h)]] w fun e w'=>e=.returned (.int .i64 (pedE p q g h))∧Bw w w':=by
 rcases grpE_cases p q with he | he
 ·by_cases h1:hasB p q g=true
  ·by_cases h2:hasB p q h=true
   ·by_cases h3:g=1
    ·rw[show pedE p q g h=13 by rw[pedE,if_pos he,if_neg (fun k=>k.2.2.1 h3)]];exact rpedcheck_g1 p q g h w hp hq hb hc he h1 h2 h3
    ·by_cases h4:h=1
     ·rw[show pedE p q g h=13 by rw[pedE,if_pos he,if_neg (fun k=>k.2.2.2.1 h4)]];exact rpedcheck_h1 p q g h w hp hq hb hc he h1 h2 h3 h4
     ·by_cases h5:g=h
      ·rw[show pedE p q g h=13 by rw[pedE,if_pos he,if_neg (fun k=>k.2.2.2.2 h5)]];exact rpedcheck_gh p q g h w hp hq hb hc he h1 h2 h3 h4 h5
      ·rw[show pedE p q g h=0 by rw[pedE,if_pos he,if_pos ⟨h1,h2,h3,h4,h5⟩]];exact rpedcheck_ok p q g h w hp hq hb hc he h1 h2 h3 h4 h5
   ·rw[show pedE p q g h=13 by rw[pedE,if_pos he,if_neg (fun k=>h2 k.2.1)]];exact rpedcheck_h p q g h w hp hq hb hc he h1 (by simpa using h2)
  ·rw[show pedE p q g h=13 by rw[pedE,if_pos he,if_neg (fun k=>h1 k.1)]];exact rpedcheck_g p q g h w hp hq hb hc he (by simpa using h1)
 ·rw[show pedE p q g h=13 by rw[pedE,if_neg (by omega)]];exact rpedcheck_grp p q g h w hp hq hb hc he
theorem rpedcheckV_c (p q g h k:Nat) (w:World) (hp:p<256^8) (hq:q<256^128) (hb:g<256^128) (hc:h<256^128) (hk:pedE p q g h=k) :
  Calls Tryz.prog 57 #[.agg #[.string (E p),.string (E q),.string (E g),.string (E h)]] w fun e w'=>e=.returned (.int .i64 k)∧Bw w w':=by
 rw[←hk];exact rpedcheck_c p q g h w hp hq hb hc
end
section
open Go.RowKit
def shiftN (p c g:Nat) (z:Int):Nat:=pw (prs p [c,g] [1,z]) 0%p
theorem ints2 {w:World} {b:Nat} {x y:Int} {T:TypeId} (h:Blk w b T [.bool (sg x),.string (E x.natAbs),.bool (sg y),.string (E y.natAbs)]):IntsAt w b [x,y]:=by
 refine⟨h.lt,fun j hj=>?_⟩;match j,hj with
 | 0,_=>exact⟨h.cell 0,h.cell 1⟩
 | 1,_=>exact⟨h.cell 2,h.cell 3⟩
theorem product2_c (p q c g:Nat) (z:Int) (bl bz:Nat) (w:World) (hp:p<256^8) (hq:q<256^128) (he:grpE p q=0) (hc:hasB p q c=true) (hg:hasB p q g=true) (hz:z.natAbs<256^128)
  (hL:Blk w bl 22 [.string (E c),.string (E g)]) (hZ:Blk w bz 28 [.bool (sg 1),.string (E 1),.bool (sg z),.string (E z.natAbs)]) :
  Calls Tryz.prog 85 #[.agg #[.string (E p),.string (E q)],.slice (some ⟨bl,0,none⟩) 2 2,.slice (some ⟨bz,0,none⟩) 2 2] w fun e w'=>e=.returned (.tuple #[.string (E (shiftN p c g z)),.int .i64 0])∧Bw w w':=
 product_c p q bl bz 2 2 2 [c,g] [1,z] w hp hq he rfl rfl (by omega) (by omega) (by omega) (by omega) (by omega)
  (by intro x hx;simp at hx;rcases hx with rfl | rfl <;> assumption) (by intro y hy;simp at hy;rcases hy with rfl | rfl <;> first | decide | assumption) (nats2 hL) (ints2 (x:=1) hZ)
theorem shift_c (p q g h c:Nat) (z:Int) (w:World) (hp:p<256^8) (hq:q<256^128) (hz:g<256^128) (hA:h<256^128) (hH:c<256^128) (hF:z.natAbs<256^128)
  (he:pedE p q g h=0) (hc:hasB p q c=true) (hg:hasB p q g=true) :
  Calls Tryz.prog 62 #[.agg #[.string (E p),.string (E q),.string (E g),.string (E h)],.string (E c),.agg #[.bool (sg (z)),.string (E (z).natAbs)]] w fun e w'=>e=.returned (.tuple #[.string (E (shiftN p c g z)),.int .i64 0])∧Bw w w':=by
 have HF:=Kh (fun w=>pformedV_c (E p) (E q) (E g) (E h) true w (sz1000 (lt128 hp)) (sz1000 hq) (sz1000 hz) (sz1000 hA) (vl4_E (lt128 hp) hq hz hA));have hK:=Kh (fun w=>pedcheckV_c p q g h 0 w hp hq hz hA he);have HO:=Kh (fun w=>iof_c 1 w (by decide) (by decide));have hL:=Kh hH;have hM:=Kh hF;have hN:=Kh (fun bl bz w=>product2_c p q c g z bl bz w hp hq (pedE_grp he) hc hg hF);obtain⟨hB,hI,ht⟩:=blk2 w #[Value.string (E p),Value.string (E q),Value.string (E g),Value.string (E h)] #[.bool (sg z),.string (E z.natAbs)] 26 28;clear hp hq hz hA hH hF he hc hg;obtain⟨hb,hd,hf,hh,hi,hj,hk,hl⟩:=hB.x4;obtain⟨hm,hn,ho,hr⟩:=hI.x2;go_enter Tryz.func62,Tryz.ntmps62
 go_wp2_with fail
 refine (HF.out _).mono ?_;rintro e w1 ⟨rfl,hC⟩;clear hb hd hf hh hi hj hk hl;clear hm hn ho hr;replace hB:=hB.after hC;replace hI:=hI.after hC;replace ht:=bt ht hC;obtain⟨hb,hd,hf,hh,hi,hj,hk,hl⟩:=hB.x4;obtain⟨hm,hn,ho,hr⟩:=hI.x2;go_wp2_with fail
 refine (validE_c c _ hL.out).mono ?_;rintro e w' ⟨rfl,rfl⟩;go_wp2_with fail
 refine (ivalidI_c z _ hM.out).mono ?_;rintro e w2 ⟨rfl,hD⟩;clear hb hd hf hh hi hj hk hl;clear hm hn ho hr;replace hB:=hB.after hD;replace hI:=hI.after hD;replace ht:=bt ht hD;obtain⟨hb,hd,hf,hh,hi,hj,hk,hl⟩:=hB.x4;obtain⟨hm,hn,ho,hr⟩:=hI.x2;go_wp2_with fail
 refine (hK.out _).mono ?_;rintro e w3 ⟨rfl,hE⟩;clear hb hd hf hh hi hj hk hl;clear hm hn ho hr;replace hB:=hB.after hE;replace hI:=hI.after hE;replace ht:=bt ht hE;obtain⟨hb,hd,hf,hh,hi,hj,hk,hl⟩:=hB.x4;obtain⟨hm,hn,ho,hr⟩:=hI.x2;clear hC hD hE;have hQ:w.heap.size<w3.heap.size:=hB.lt;have hO:w.heap.size+1<w3.heap.size:=hI.lt;go_wp2_with fail
 go_region_held3 (fun w'=>w'.cell? ⟨w.heap.size,0,none⟩=some (.string (E p))∧w'.cell? ⟨w.heap.size,1,none⟩=some (.string (E q))∧w'.cell? ⟨w.heap.size,2,none⟩=some (.string (E g))∧w'.cell? ⟨w.heap.size+1,0,none⟩=some (.bool (sg z))∧w'.cell? ⟨w.heap.size+1,1,none⟩=some (.string (E z.natAbs))) (first | exact⟨d0,d1,d2,j0,j1⟩ | exact⟨f0,f1,f2,i0,i1⟩ | go_keep)
  (first | (go_at_call 49;refine (HO.out _).mono ?_;rintro e wf ⟨rfl,hu⟩;have hv:Blk wf w.heap.size 26 [Value.string (E p),Value.string (E q),Value.string (E g),Value.string (E h)]:=(by first | exact hB.drew.after hu | exact (hB.alloc _).drew.after hu);have hw:Blk wf (w.heap.size+1) 28 [.bool (sg z),.string (E z.natAbs)]:=(by first | exact hI.drew.after hu | exact (hI.alloc _).drew.after hu);have hx:Bw w wf:=(by first | exact bt ht.drew hu | exact bt (ba ht _).drew hu);have f0:=hv.cell 0;have f1:=hv.cell 1;have f2:=hv.cell 2;have i0:=hw.cell 0;have i1:=hw.cell 1;have hR:w.heap.size<wf.heap.size:=hv.lt;have hP:w.heap.size+1<wf.heap.size:=hw.lt) | (go_at_call 85;refine (hN.out _ _ _ (by first | exact ((Blk.new w3 _ _).drew.after hu).alloc _ | exact blk2a _ _ _ _ _ | exact blk2b _ _ _ _ _ | exact ((Blk.new w3 _ _).drew.after hu)) (by first | exact Blk.new _ _ _ | exact blk2a _ _ _ _ _ | exact blk2b _ _ _ _ _)).mono ?_;rintro e wd ⟨rfl,hbd⟩;have hG:Blk wd w.heap.size 26 [Value.string (E p),Value.string (E q),Value.string (E g),Value.string (E h)]:=(by first | exact ((hv.alloc _).alloc _).after hbd | exact (hv.alloc _).after hbd);have hJ:Blk wd (w.heap.size+1) 28 [.bool (sg z),.string (E z.natAbs)]:=(by first | exact ((hw.alloc _).alloc _).after hbd | exact (hw.alloc _).after hbd);have hy:Bw w wd:=(by first | exact bt (ba (ba hx _) _) hbd | exact bt (ba hx _) hbd);have d0:=hG.cell 0;have d1:=hG.cell 1;have d2:=hG.cell 2;have j0:=hJ.cell 0;have j1:=hJ.cell 1))
 all_goals go_wp2
 all_goals (go_ret2;exact⟨rfl,by first | exact hy | exact hy.drew⟩)
end
section
/- dominoref14.Commit. -/
open Go.RowKit Go.Shelf
theorem r14validB_c (a b:Bool) (s t:ByteArray) (w:World) (hs:s.size≤1000) (ht:t.size≤1000) :
  Calls Tryz.prog 56 #[.agg #[.bool a,.string s,.bool b,.string t]] w fun e w'=>e=.returned (.bool (ivB a s&&ivB b t))∧Bw w w':=by
 obtain⟨r1,hl⟩:∃r1,ivB a s=r1:=⟨_,rfl⟩;obtain⟨r2,hm⟩:∃r2,ivB b t=r2:=⟨_,rfl⟩;rw[hl,hm];have H1:Hid (∀w,Calls Tryz.prog 44 #[.agg #[.bool a,.string s]] w fun e w'=>e=.returned (.bool r1)∧Bw w w'):=fun w=>rivalB_c a s r1 w hs hl
 have H2:Hid (∀w,Calls Tryz.prog 44 #[.agg #[.bool b,.string t]] w fun e w'=>e=.returned (.bool r2)∧Bw w w'):=fun w=>rivalB_c b t r2 w ht hm
 obtain⟨hB,hj⟩:=blk1 w #[Value.bool a,Value.string s,Value.bool b,Value.string t] 30;clear hs ht hl hm;cases r1
 ·
  obtain⟨hb,hc,hd,he,hf,hg,hh,hi⟩:=hB.x4;go_enter Tryz.func56,Tryz.ntmps56
  go_wp2_with fail
  refine (H1.out _).mono ?_;rintro e w1 ⟨rfl,hk⟩;go_wp2;go_ret
  exact⟨rfl,bt hj hk⟩
 ·
  obtain⟨hb,hc,hd,he,hf,hg,hh,hi⟩:=hB.x4;go_enter Tryz.func56,Tryz.ntmps56
  go_wp2_with fail
  refine (H1.out _).mono ?_;rintro e w1 ⟨rfl,hk⟩;clear hb hc hd he hf hg hh hi;replace hB:=hB.after hk;replace hj:=bt hj hk;obtain⟨hb,hc,hd,he,hf,hg,hh,hi⟩:=hB.x4;go_wp2_with fail
  refine (H2.out _).mono ?_;rintro e w2 ⟨rfl,hn⟩;go_wp2;go_ret
  exact⟨by cases r2 <;> rfl,bt hj hn⟩
theorem r14validI_c (m r:Int) (w:World) (hm:m.natAbs<256^128) (hr:r.natAbs<256^128) :
  Calls Tryz.prog 56 #[opn m r] w fun e w'=>e=.returned (.bool true)∧Bw w w':=by
 have:=r14validB_c (sg m) (sg r) (E m.natAbs) (E r.natAbs) w (sz1000 hm) (sz1000 hr);rw[ivB_I m hm,ivB_I r hr]at this;exact this
theorem rproduct3_c (p q g h:Nat) (m r:Int) (bl bz:Nat) (w:World) (hp:p<256^8) (hq:q<256^128) (he:grpE p q=0) (hg:hasB p q g=true) (hh:hasB p q h=true) (hm:m.natAbs<256^128) (hr:r.natAbs<256^128)
  (hL:Blk w bl 22 [.string (E g),.string (E h)]) (hZ:Blk w bz 28 [.bool (sg m),.string (E m.natAbs),.bool (sg r),.string (E r.natAbs)]) :
  Calls Tryz.prog 58 #[.agg #[.string (E p),.string (E q)],.slice (some ⟨bl,0,none⟩) 2 2,.slice (some ⟨bz,0,none⟩) 2 2] w fun e w'=>e=.returned (.tuple #[.string (E (cmtN p g h m r)),.int .i64 0])∧Bw w w':=
 rproduct_c p q [g,h] [m,r] _ _ w hp hq he rfl (by simp) (by intro x hx;simp at hx;rcases hx with rfl | rfl <;> assumption) (by intro y hy;simp at hy;rcases hy with rfl | rfl <;> assumption)
  (NOwn.ss (own_blk hL rfl (by decide))) (ZOwn.zs (own_blk hZ rfl (by decide)))
theorem r14commit_c (p q g h:Nat) (m r:Int) (w:World) (hp:p<256^8) (hq:q<256^128) (hA:g<256^128) (hC:h<256^128) (hm:m.natAbs<256^128) (hr:r.natAbs<256^128)
  (he:pedE p q g h=0) (hg:hasB p q g=true) (hh:hasB p q h=true) :
  Calls Tryz.prog 22 #[.agg #[.string (E p),.string (E q),.string (E g),.string (E h)],opn m r] w fun e w'=>e=.returned (.tuple #[.string (E (cmtN p g h m r)),.int .i64 0])∧Bw w w':=by
 unfold opn;have HF:=Kh (fun w=>rpformV_c (E p) (E q) (E g) (E h) true w (sz1000 (lt128 hp)) (sz1000 hq) (sz1000 hA) (sz1000 hC) (vl4_E (lt128 hp) hq hA hC));have hG:=Kh (fun w=>rpedcheckV_c p q g h 0 w hp hq hA hC he);have HV:Hid (∀w,Calls Tryz.prog 56 #[.agg #[.bool (sg m),.string (E m.natAbs),.bool (sg r),.string (E r.natAbs)]] w fun e w'=>e=.returned (.bool true)∧Bw w w'):=fun w=>r14validI_c m r w hm hr
 have hH:=Kh (fun bl bz w=>rproduct3_c p q g h m r bl bz w hp hq (pedE_grp he) hg hh hm hr);obtain⟨hB,hI,hz⟩:=blk2 w #[Value.string (E p),Value.string (E q),Value.string (E g),Value.string (E h)] #[.bool (sg m),.string (E m.natAbs),.bool (sg r),.string (E r.natAbs)] 26 30;clear hp hq hA hC hm hr he hg hh;obtain⟨hb,hc,hd,hf,hi,hj,hk,hl⟩:=hB.x4;obtain⟨hn,ho,ht,hu,hv,hw,hx,hy⟩:=hI.x4;go_enter Tryz.func22,Tryz.ntmps22
 go_wp2_with fail
 refine (HF.out _).mono ?_;rintro e w1 ⟨rfl,hD⟩;clear hb hc hd hf hi hj hk hl;clear hn ho ht hu hv hw hx hy;replace hB:=hB.after hD;replace hI:=hI.after hD;replace hz:=bt hz hD;obtain⟨hb,hc,hd,hf,hi,hj,hk,hl⟩:=hB.x4;obtain⟨hn,ho,ht,hu,hv,hw,hx,hy⟩:=hI.x4;go_wp2_with fail
 refine (HV.out _).mono ?_;rintro e w2 ⟨rfl,hE⟩;clear hb hc hd hf hi hj hk hl;clear hn ho ht hu hv hw hx hy;replace hB:=hB.after hE;replace hI:=hI.after hE;replace hz:=bt hz hE;obtain⟨hb,hc,hd,hf,hi,hj,hk,hl⟩:=hB.x4;obtain⟨hn,ho,ht,hu,hv,hw,hx,hy⟩:=hI.x4;go_wp2_with fail
 refine (hG.out _).mono ?_;rintro e w3 ⟨rfl,hF⟩;clear hb hc hd hf hi hj hk hl;clear hn ho ht hu hv hw hx hy;replace hB:=hB.after hF;replace hI:=hI.after hF;replace hz:=bt hz hF;obtain⟨hb,hc,hd,hf,hi,hj,hk,hl⟩:=hB.x4;obtain⟨hn,ho,ht,hu,hv,hw,hx,hy⟩:=hI.x4;clear hD hE hF;have hK:w.heap.size<w3.heap.size:=hB.lt;have hJ:w.heap.size+1<w3.heap.size:=hI.lt;go_wp2_with fail
 refine (hH.out _ _ _ (blk2a _ _ _ _ _) (blk2b _ _ _ _ _)).mono ?_;rintro e wd ⟨rfl,hbd⟩;go_wp2;go_ret2
 exact⟨rfl,bt (ba (ba hz _) _) hbd⟩
theorem r14commit_13 (p q g h:Nat) (m r:Int) (w:World) (hp:p<256^8) (hq:q<256^128) (hy:g<256^128) (hz:h<256^128) (hm:m.natAbs<256^128) (hr:r.natAbs<256^128)
  (he:pedE p q g h=13) :
  Calls Tryz.prog 22 #[.agg #[.string (E p),.string (E q),.string (E g),.string (E h)],opn m r] w fun e w'=>e=.returned (.tuple #[.string (E 0),.int .i64 13])∧Bw w w':=by
 unfold opn;rw[show (E 0)=(⟨#[]⟩:ByteArray) from rfl];have HF:=Kh (fun w=>rpformV_c (E p) (E q) (E g) (E h) true w (sz1000 (lt128 hp)) (sz1000 hq) (sz1000 hy) (sz1000 hz) (vl4_E (lt128 hp) hq hy hz));have hD:=Kh (fun w=>rpedcheckV_c p q g h 13 w hp hq hy hz he);have HV:Hid (∀w,Calls Tryz.prog 56 #[.agg #[.bool (sg m),.string (E m.natAbs),.bool (sg r),.string (E r.natAbs)]] w fun e w'=>e=.returned (.bool true)∧Bw w w'):=fun w=>r14validI_c m r w hm hr
 obtain⟨hB,hI,hx⟩:=blk2 w #[Value.string (E p),Value.string (E q),Value.string (E g),Value.string (E h)] #[.bool (sg m),.string (E m.natAbs),.bool (sg r),.string (E r.natAbs)] 26 30;clear hp hq hy hz hm hr he;obtain⟨hb,hc,hd,hf,hg,hh,hi,hj⟩:=hB.x4;obtain⟨hk,hl,hn,ho,ht,hu,hv,hw⟩:=hI.x4;go_enter Tryz.func22,Tryz.ntmps22
 go_wp2_with fail
 refine (HF.out _).mono ?_;rintro e w1 ⟨rfl,hA⟩;clear hb hc hd hf hg hh hi hj;clear hk hl hn ho ht hu hv hw;replace hB:=hB.after hA;replace hI:=hI.after hA;replace hx:=bt hx hA;obtain⟨hb,hc,hd,hf,hg,hh,hi,hj⟩:=hB.x4;obtain⟨hk,hl,hn,ho,ht,hu,hv,hw⟩:=hI.x4;go_wp2_with fail
 refine (HV.out _).mono ?_;rintro e w2 ⟨rfl,hC⟩;clear hb hc hd hf hg hh hi hj;clear hk hl hn ho ht hu hv hw;replace hB:=hB.after hC;replace hI:=hI.after hC;replace hx:=bt hx hC;obtain⟨hb,hc,hd,hf,hg,hh,hi,hj⟩:=hB.x4;obtain⟨hk,hl,hn,ho,ht,hu,hv,hw⟩:=hI.x4;go_wp2_with fail
 refine (hD.out _).mono ?_;rintro e w3 ⟨rfl,hE⟩;go_wp2;go_ret2
 exact⟨rfl,bt hx hE⟩
theorem r14commit_bad (a b c d:ByteArray) (x y:Bool) (s t:ByteArray) (w:World) (ha:a.size≤1000) (hb:b.size≤1000) (hc:c.size≤1000) (hd:d.size≤1000) (hs:s.size≤1000) (ht:t.size≤1000)
  (he:(vl4 a b c d&&(ivB x s&&ivB y t))=false) :
  Calls Tryz.prog 22 #[.agg #[.string a,.string b,.string c,.string d],.agg #[.bool x,.string s,.bool y,.string t]] w fun e w'=>e=.returned (.tuple #[.string (E 0),.int .i64 3])∧Bw w w':=by
 rw[show (E 0)=(⟨#[]⟩:ByteArray) from rfl];have HV:Hid (∀w,Calls Tryz.prog 56 #[.agg #[.bool x,.string s,.bool y,.string t]] w fun e w'=>e=.returned (.bool (ivB x s&&ivB y t))∧Bw w w'):=fun w=>r14validB_c x y s t w hs ht
 obtain⟨hB,hI,hy⟩:=blk2 w #[Value.string a,Value.string b,Value.string c,Value.string d] #[.bool x,.string s,.bool y,.string t] 26 30;cases h1:vl4 a b c d
 ·have HF:=Kh (fun w=>rpformV_c a b c d false w ha hb hc hd h1);clear ha hb hc hd hs ht he h1;obtain⟨hf,hg,hh,hi,hj,hk,hl,hm⟩:=hB.x4;obtain⟨hn,ho,hp,hq,hr,hu,hv,hw⟩:=hI.x4;go_enter Tryz.func22,Tryz.ntmps22
  go_wp2_with fail
  refine (HF.out _).mono ?_;rintro e w1 ⟨rfl,hx⟩;go_wp2;go_ret2
  exact⟨rfl,bt hy hx⟩
 ·have HF:=Kh (fun w=>rpformV_c a b c d true w ha hb hc hd h1);rw[h1,Bool.true_and]at he;rw[he]at HV;clear ha hb hc hd hs ht he h1;obtain⟨hf,hg,hh,hi,hj,hk,hl,hm⟩:=hB.x4;obtain⟨hn,ho,hp,hq,hr,hu,hv,hw⟩:=hI.x4;go_enter Tryz.func22,Tryz.ntmps22
  go_wp2_with fail
  refine (HF.out _).mono ?_;rintro e w1 ⟨rfl,hx⟩;clear hf hg hh hi hj hk hl hm;clear hn ho hp hq hr hu hv hw;replace hB:=hB.after hx;replace hI:=hI.after hx;replace hy:=bt hy hx;obtain⟨hf,hg,hh,hi,hj,hk,hl,hm⟩:=hB.x4;obtain⟨hn,ho,hp,hq,hr,hu,hv,hw⟩:=hI.x4;go_wp2_with fail
  refine (HV.out _).mono ?_;rintro e w2 ⟨rfl,hz⟩;go_wp2;go_ret2
  exact⟨rfl,bt hy hz⟩
end
section
open Go.RowKit Go.Shelf
end
end Go.Proofs.YtdgddpnjkinciaaGreatDoor
