import Derived.Test.YtdoacbdkbbpamaaGreatDoorExp
set_option linter.unusedVariables false
set_option linter.unusedSimpArgs false
set_option maxRecDepth 100000
set_option maxHeartbeats 16000000
namespace Go.Proofs.YtdoacbdkbbpamaaGreatDoor
section
open Go.RowKit
theorem validV_c (s:ByteArray) (b:Bool) (w:World) (hs:s.size≤4611686018427387904) (h:vldB s=b) :
  Calls Tryz.prog 59 #[.string s] w fun e w'=>e=.returned (.bool b)∧w=w':=by rw [←h];exact valid_c s w hs
theorem bitV_c (n i:Nat) (z:Int) (b:Bool) (w:World) (hz:z=(i:Int)) (hn:n<256^128) (hi:i≤1000000) (h:bitB n i=b) :
  Calls Tryz.prog 112 #[.string (E n),.int .i64 z] w fun e w'=>e=.returned (.bool b)∧w=w':=by rw [←h,hz];exact bit_c n i w hn hi
theorem ofK_c (k:Nat) (z:Int) (w:World) (hz:z=(k:Int)) (h:k<256^8):Calls Tryz.prog 67 #[.int .u64 z] w fun e w'=>e=.returned (.string (E k))∧Below w.heap.size w w':=by rw [hz];exact of_c k w h
theorem cmp_pos (a b:Nat) (h:b<a):¬ cmpN a b≤0:=by unfold cmpN;rw [if_neg (by omega),if_pos h];decide
theorem cmp_npos (a b:Nat) (h:a≤b):cmpN a b≤0:=by
 unfold cmpN;by_cases h1:a<b
 ·rw [if_pos h1];decide
 ·rw [if_neg h1,if_neg (by omega)];decide
theorem odd_bit (p:Nat):bitB p 0=decide (p%2=1):=by
 unfold bitB;rw [Nat.pow_zero,Nat.div_one];by_cases h:p%2=1 <;> simp [h]
abbrev grpV (p q:Nat):Value:=.agg #[.string (E p),.string (E q)]
theorem pcheck_0 (p:Nat) (w:World) (hp:p<256^8) :
  Calls Tryz.prog 94 #[.agg #[.string (E p),.string (E 0)]] w fun e w'=>e=.returned (.int .i64 (grpE p 0))∧Below w.heap.size w w':=by
 have HP:=Lib.hid (lt128 hp);have HP0:Hid ((0:Nat)<256^128):=by unfold Hid;decide
 have hz:=zE (n:=0) rfl;have HO:=Lib.hid (fun w=>ofK_c 8 8 w rfl (by decide));have H8:Hid ((8:Nat)<256^128):=by unfold Hid;decide
 have hB:=Blk.new w #[Value.string (E p),Value.string (E 0)] 33;have HG:Hid (grpE p 0=if p%2=1∧8<p then 0 else 13):=rfl;cases hb:bitB p 0
 ·have HG':Hid (grpE p 0=13):=by
   rw [Hid,HG.out,if_neg];rintro ⟨h,_⟩;rw [odd_bit,decide_eq_false_iff_not] at hb;exact hb h
  have HB:=Lib.hid hb;clear hp hb HG;have hBg0:=hB.gcell 0;have hBg1:=hB.gcell 1;obtain ⟨hBc0,hBf0,hBc1,hBf1⟩:=hB.x2;go_enter Tryz.func94,Tryz.ntmps94
  go_wp2_with fail
  refine (validE_c p _ HP.out).mono ?_;rintro e w' ⟨rfl,rfl⟩;go_wp2_with fail
  refine (validE_c 0 _ HP0.out).mono ?_;rintro e w' ⟨rfl,rfl⟩;clear hBc0 hBf0 hBc1 hBf1;go_wp2_with fail
  refine wp_region_gw (by kernel_rfl) (by kernel_rfl) ?_;repeat (go_big_quiet_step (first | (go_at_call 112;exact gw_same (bitV_c p 0 0 false _ rfl HP.out (by omega) HB.out))))
  refine wpQuiet_nil ?_;rintro w1 ⟨xw1,rfl⟩;have hb1:=gw_below xw1;generalize gw xw1=w1 at hb1;go_wp2;go_ret
  exact ⟨ri (by rw [HG'.out];rfl),bt (b1 _ _) hb1⟩
 ·have HB:=Lib.hid hb;by_cases h8:8<p
  ·have HG':Hid (grpE p 0=0):=by
    rw [Hid,HG.out,if_pos ⟨by rw [odd_bit,decide_eq_true_iff] at hb;exact hb,h8⟩]
   have hc:=cmp_pos p 8 h8;clear hp hb HG h8;have hBg0:=hB.gcell 0;have hBg1:=hB.gcell 1;obtain ⟨hBc0,hBf0,hBc1,hBf1⟩:=hB.x2;go_enter Tryz.func94,Tryz.ntmps94
   go_wp2_with fail
   refine (validE_c p _ HP.out).mono ?_;rintro e w' ⟨rfl,rfl⟩;go_wp2_with fail
   refine (validE_c 0 _ HP0.out).mono ?_;rintro e w' ⟨rfl,rfl⟩;clear hBc0 hBf0 hBc1 hBf1;go_wp2_with fail
   refine wp_region_gw (by kernel_rfl) (by kernel_rfl) ?_;repeat (go_big_quiet_step (first | (go_at_call 112;exact gw_same (bitV_c p 0 0 true _ rfl HP.out (by omega) HB.out)) | (go_at_call 67;exact gw_of (HO.out _)) | (go_at_call 32;exact gw_same (cmp_c p 8 _ HP.out H8.out))))
   refine wpQuiet_nil ?_;rintro w1 ⟨xw1,rfl⟩;have hb1:=gw_below xw1;generalize gw xw1=w1 at hb1;go_wp2;go_ret
   exact ⟨ri (by rw [HG'.out];rfl),bt (b1 _ _) hb1⟩
  ·have HG':Hid (grpE p 0=13):=by rw [Hid,HG.out,if_neg (fun h=>h8 h.2)]
   have hc:=cmp_npos p 8 (by omega);clear hp hb HG h8;have hBg0:=hB.gcell 0;have hBg1:=hB.gcell 1;obtain ⟨hBc0,hBf0,hBc1,hBf1⟩:=hB.x2;go_enter Tryz.func94,Tryz.ntmps94
   go_wp2_with fail
   refine (validE_c p _ HP.out).mono ?_;rintro e w' ⟨rfl,rfl⟩;go_wp2_with fail
   refine (validE_c 0 _ HP0.out).mono ?_;rintro e w' ⟨rfl,rfl⟩;clear hBc0 hBf0 hBc1 hBf1;go_wp2_with fail
   refine wp_region_gw (by kernel_rfl) (by kernel_rfl) ?_;repeat (go_big_quiet_step (first | (go_at_call 112;exact gw_same (bitV_c p 0 0 true _ rfl HP.out (by omega) HB.out)) | (go_at_call 67;exact gw_of (HO.out _)) | (go_at_call 32;exact gw_same (cmp_c p 8 _ HP.out H8.out))))
   refine wpQuiet_nil ?_;rintro w1 ⟨xw1,rfl⟩;have hb1:=gw_below xw1;generalize gw xw1=w1 at hb1;go_wp2;go_ret
   exact ⟨ri (by rw [HG'.out];rfl),bt (b1 _ _) hb1⟩
theorem grpE_q {p q:Nat} (h0:0<q):grpE p q=if 2≤p∧2≤q∧(p-1)%q=0 then 0 else 13:=by
 unfold grpE;rw [if_neg (by omega)]
theorem pcheck_q (p q:Nat) (w:World) (hp:p<256^8) (hq:q<256^128) (h0:0<q) :
  Calls Tryz.prog 94 #[.agg #[.string (E p),.string (E q)]] w fun e w'=>e=.returned (.int .i64 (grpE p q))∧Below w.heap.size w w':=by
 have HP:=Lib.hid (lt128 hp);have HQ:=Lib.hid hq;have H0:=Lib.hid h0;have hz:=nzE h0;have HO1:=Lib.hid (fun w=>ofK_c 1 1 w rfl (by decide));have HO2:=Lib.hid (fun w=>ofK_c 2 2 w rfl (by decide));have H1:Hid ((1:Nat)<256^128):=by unfold Hid;decide
 have H2:Hid ((2:Nat)<256^128):=by unfold Hid;decide
 have hB:=Blk.new w #[Value.string (E p),Value.string (E q)] 33;have HG:=Lib.hid (grpE_q (p:=p) h0);by_cases hp0:p=0
 ·have HG':Hid (grpE p q=13):=by rw [Hid,HG.out,if_neg (by omega)]
  have HLT:Hid (p<1):=by unfold Hid;omega
  clear hp hq h0 HG hp0;have hBg0:=hB.gcell 0;have hBg1:=hB.gcell 1;obtain ⟨hBc0,hBf0,hBc1,hBf1⟩:=hB.x2;go_enter Tryz.func94,Tryz.ntmps94
  go_wp2_with fail
  refine (validE_c p _ HP.out).mono ?_;rintro e w' ⟨rfl,rfl⟩;go_wp2_with fail
  refine (validE_c q _ HQ.out).mono ?_;rintro e w' ⟨rfl,rfl⟩;clear hBc0 hBf0 hBc1 hBf1;go_wp2_with fail
  refine wp_region_gw (by kernel_rfl) (by kernel_rfl) ?_;repeat (go_big_quiet_step (first | (go_at_call 67;exact gw_of (HO1.out _)) | (go_at_call 99;exact gw_same (sub_neg p 1 _ H1.out HLT.out))))
  refine wpQuiet_nil ?_;rintro w1 ⟨xw1,rfl⟩;have hb1:=gw_below xw1;generalize gw xw1=w1 at hb1;go_wp2_with fail
  refine wp_region_gw (by kernel_rfl) (by kernel_rfl) ?_;repeat (go_big_quiet_step (fail))
  refine wpQuiet_nil ?_;rintro w2 ⟨x2,rfl⟩;have hb2:=gw_below x2;generalize gw x2=w2 at hb2;go_wp2;go_ret
  exact ⟨ri (by rw [HG'.out];rfl),bt (bt (b1 _ _) hb1) hb2⟩
 ·have HLE:Hid (1≤p):=by unfold Hid;omega
  by_cases hp1:p=1
  ·have HG':Hid (grpE p q=13):=by rw [Hid,HG.out,if_neg (by omega)]
   have hl:=zE (n:=p-1) (by omega);clear hp hq h0 HG hp0 hp1;have hBg0:=hB.gcell 0;have hBg1:=hB.gcell 1;obtain ⟨hBc0,hBf0,hBc1,hBf1⟩:=hB.x2;go_enter Tryz.func94,Tryz.ntmps94
   go_wp2_with fail
   refine (validE_c p _ HP.out).mono ?_;rintro e w' ⟨rfl,rfl⟩;go_wp2_with fail
   refine (validE_c q _ HQ.out).mono ?_;rintro e w' ⟨rfl,rfl⟩;clear hBc0 hBf0 hBc1 hBf1;go_wp2_with fail
   refine wp_region_gw (by kernel_rfl) (by kernel_rfl) ?_;repeat (go_big_quiet_step (first | (go_at_call 67;exact gw_of (HO1.out _)) | (go_at_call 99;exact gw_of (sub_c p 1 _ HP.out HLE.out))))
   refine wpQuiet_nil ?_;rintro w1 ⟨xw1,rfl⟩;have hb1:=gw_below xw1;generalize gw xw1=w1 at hb1;go_wp2_with fail
   refine wp_region_gw (by kernel_rfl) (by kernel_rfl) ?_;repeat (go_big_quiet_step (first | (fail)))
   refine wpQuiet_nil ?_;rintro w2 ⟨xw2,rfl⟩;have hb2:=gw_below xw2;generalize gw xw2=w2 at hb2;go_wp2;go_ret
   exact ⟨ri (by rw [HG'.out];rfl),bt (bt (b1 _ _) hb1) hb2⟩
  ·have hl:=nzE (n:=p-1) (by omega);by_cases hq1:q=1
   ·have HG':Hid (grpE p q=13):=by rw [Hid,HG.out,if_neg (by omega)]
    have hc:=cmp_neg q 2 (by omega);clear hp hq h0 HG hp0 hp1 hq1;have hBg0:=hB.gcell 0;have hBg1:=hB.gcell 1;obtain ⟨hBc0,hBf0,hBc1,hBf1⟩:=hB.x2;go_enter Tryz.func94,Tryz.ntmps94
    go_wp2_with fail
    refine (validE_c p _ HP.out).mono ?_;rintro e w' ⟨rfl,rfl⟩;go_wp2_with fail
    refine (validE_c q _ HQ.out).mono ?_;rintro e w' ⟨rfl,rfl⟩;clear hBc0 hBf0 hBc1 hBf1;go_wp2_with fail
    refine wp_region_gw (by kernel_rfl) (by kernel_rfl) ?_;repeat (go_big_quiet_step (first | (go_at_call 67;exact gw_of (HO1.out _)) | (go_at_call 99;exact gw_of (sub_c p 1 _ HP.out HLE.out))))
    refine wpQuiet_nil ?_;rintro w1 ⟨xw1,rfl⟩;have hb1:=gw_below xw1;generalize gw xw1=w1 at hb1;clear hBg0 hBg1;replace hB:=hB.after hb1;have hBg0:=hB.gcell 0;have hBg1:=hB.gcell 1;go_wp2_with fail
    refine wp_region_gw (by kernel_rfl) (by kernel_rfl) ?_;repeat (go_big_quiet_step (first | (go_at_call 67;exact gw_of (HO2.out _)) | (go_at_call 32;exact gw_same (cmp_c q 2 _ HQ.out H2.out))))
    refine wpQuiet_nil ?_;rintro w2 ⟨xw2,rfl⟩;have hb2:=gw_below xw2;generalize gw xw2=w2 at hb2;go_wp2;go_ret
    exact ⟨ri (by rw [HG'.out];rfl),bt (bt (b1 _ _) hb1) hb2⟩
   ·have hc:=cmp_nneg q 2 (by omega);have HPB:Hid (p-1<256^8):=by unfold Hid;omega
    by_cases hr:(p-1)%q=0
    ·have HG':Hid (grpE p q=0):=by rw [Hid,HG.out,if_pos (by omega)]
     have hz2:=zE hr;clear hp hq h0 HG hp0 hp1 hq1 hr;have hBg0:=hB.gcell 0;have hBg1:=hB.gcell 1;obtain ⟨hBc0,hBf0,hBc1,hBf1⟩:=hB.x2;go_enter Tryz.func94,Tryz.ntmps94
     go_wp2_with fail
     refine (validE_c p _ HP.out).mono ?_;rintro e w' ⟨rfl,rfl⟩;go_wp2_with fail
     refine (validE_c q _ HQ.out).mono ?_;rintro e w' ⟨rfl,rfl⟩;clear hBc0 hBf0 hBc1 hBf1;go_wp2_with fail
     refine wp_region_gw (by kernel_rfl) (by kernel_rfl) ?_;repeat (go_big_quiet_step (first | (go_at_call 67;exact gw_of (HO1.out _)) | (go_at_call 99;exact gw_of (sub_c p 1 _ HP.out HLE.out))))
     refine wpQuiet_nil ?_;rintro w1 ⟨xw1,rfl⟩;have hb1:=gw_below xw1;generalize gw xw1=w1 at hb1;clear hBg0 hBg1;replace hB:=hB.after hb1;have hBg0:=hB.gcell 0;have hBg1:=hB.gcell 1;go_wp2_with fail
     refine wp_region_gw (by kernel_rfl) (by kernel_rfl) ?_;repeat (go_big_quiet_step (first | (go_at_call 67;exact gw_of (HO2.out _)) | (go_at_call 32;exact gw_same (cmp_c q 2 _ HQ.out H2.out))))
     refine wpQuiet_nil ?_;rintro w2 ⟨xw2,rfl⟩;have hb2:=gw_below xw2;generalize gw xw2=w2 at hb2;clear hBg0 hBg1;replace hB:=hB.after hb2;obtain ⟨hBc0,hBf0,hBc1,hBf1⟩:=hB.x2;go_wp2_with fail
     refine (divmod_c (p-1) q _ HPB.out HQ.out H0.out).mono ?_;rintro e w3 ⟨rfl,hb3⟩;go_wp2;go_ret
     exact ⟨ri (by rw [HG'.out];rfl),bt (bt (bt (b1 _ _) hb1) hb2) hb3⟩
    ·have HG':Hid (grpE p q=13):=by rw [Hid,HG.out,if_neg (by omega)]
     have hz2:=nzE (Nat.pos_of_ne_zero hr);clear hp hq h0 HG hp0 hp1 hq1 hr;have hBg0:=hB.gcell 0;have hBg1:=hB.gcell 1;obtain ⟨hBc0,hBf0,hBc1,hBf1⟩:=hB.x2;go_enter Tryz.func94,Tryz.ntmps94
     go_wp2_with fail
     refine (validE_c p _ HP.out).mono ?_;rintro e w' ⟨rfl,rfl⟩;go_wp2_with fail
     refine (validE_c q _ HQ.out).mono ?_;rintro e w' ⟨rfl,rfl⟩;clear hBc0 hBf0 hBc1 hBf1;go_wp2_with fail
     refine wp_region_gw (by kernel_rfl) (by kernel_rfl) ?_;repeat (go_big_quiet_step (first | (go_at_call 67;exact gw_of (HO1.out _)) | (go_at_call 99;exact gw_of (sub_c p 1 _ HP.out HLE.out))))
     refine wpQuiet_nil ?_;rintro w1 ⟨xw1,rfl⟩;have hb1:=gw_below xw1;generalize gw xw1=w1 at hb1;clear hBg0 hBg1;replace hB:=hB.after hb1;have hBg0:=hB.gcell 0;have hBg1:=hB.gcell 1;go_wp2_with fail
     refine wp_region_gw (by kernel_rfl) (by kernel_rfl) ?_;repeat (go_big_quiet_step (first | (go_at_call 67;exact gw_of (HO2.out _)) | (go_at_call 32;exact gw_same (cmp_c q 2 _ HQ.out H2.out))))
     refine wpQuiet_nil ?_;rintro w2 ⟨xw2,rfl⟩;have hb2:=gw_below xw2;generalize gw xw2=w2 at hb2;clear hBg0 hBg1;replace hB:=hB.after hb2;obtain ⟨hBc0,hBf0,hBc1,hBf1⟩:=hB.x2;go_wp2_with fail
     refine (divmod_c (p-1) q _ HPB.out HQ.out H0.out).mono ?_;rintro e w3 ⟨rfl,hb3⟩;go_wp2;go_ret
     exact ⟨ri (by rw [HG'.out];rfl),bt (bt (bt (b1 _ _) hb1) hb2) hb3⟩
theorem pcheck_c (p q:Nat) (w:World) (hp:p<256^8) (hq:q<256^128) :
  Calls Tryz.prog 94 #[.agg #[.string (E p),.string (E q)]] w fun e w'=>e=.returned (.int .i64 (grpE p q))∧Below w.heap.size w w':=by
 rcases Nat.eq_zero_or_pos q with rfl | h0
 ·exact pcheck_0 p w hp
 ·exact pcheck_q p q w hp hq h0
theorem gformed_c (p q:Nat) (w:World) (hp:p<256^128) (hq:q<256^128) :
  Calls Tryz.prog 173 #[.agg #[.string (E p),.string (E q)]] w fun e w'=>e=.returned (.bool true)∧Below w.heap.size w w':=by
 have HP:=Lib.hid hp;have HQ:=Lib.hid hq;clear hp hq;go_enter Tryz.func173,Tryz.ntmps173
 go_wp2_with fail
 refine (validE_c p _ HP.out).mono ?_;rintro e w' ⟨rfl,rfl⟩;go_wp2_with fail
 refine (validE_c q _ HQ.out).mono ?_;rintro e w' ⟨rfl,rfl⟩;go_wp2;go_ret
 exact ⟨rfl,b1 _ _⟩
theorem hasB_zero (p q:Nat):hasB p q 0=false:=by unfold hasB;split <;> simp
theorem hasB_big {p q x:Nat} (h:p≤x):hasB p q x=false:=by
 unfold hasB;split <;> (rw [decide_eq_false_iff_not];omega)
theorem hasB_q {p q x:Nat} (hq:0<q) (h0:0<x) (h:x<p):hasB p q x=decide (x^q%p=1%p):=by
 unfold hasB;rw [if_neg (by omega)];by_cases h2:x^q%p=1%p
 ·rw [decide_eq_true h2,decide_eq_true ⟨by omega,h,h2⟩]
 ·rw [decide_eq_false h2,decide_eq_false (fun h3=>h2 h3.2.2)]
theorem hasB_0 {p x:Nat} (h0:0<x) (h:x<p):hasB p 0 x=decide (Nat.gcd x p=1):=by
 unfold hasB;rw [if_pos rfl];by_cases h2:Nat.gcd x p=1
 ·rw [decide_eq_true h2,decide_eq_true ⟨by omega,h,h2⟩]
 ·rw [decide_eq_false h2,decide_eq_false (fun h3=>h2 h3.2.2)]
theorem mexp0_c (a m:Nat) (w:World) (ha:a<256^8) (hm:m<256^8) (h0:0<m) :
  Calls Tryz.prog 174 #[.string (E a),.string { data:=#[] },.string (E m)] w fun r w'=>r=.returned (.tuple #[.string (E (1%m)),.int .i64 0])∧Below w.heap.size w w':=by
 have:=mexp_c a 0 m w ha (by decide) hm h0;rw [Nat.pow_zero] at this;exact this
theorem eqE_dec (a b:Nat):((E a).toList==(E b).toList)=decide (a=b):=by
 by_cases h:a=b
 ·rw [eqE h,decide_eq_true h]
 ·rw [neE h,decide_eq_false h]
theorem ghas_c (p q x:Nat) (w:World) (hp:p<256^8) (hq:q<256^128) (h0:0<q) (hx:x<256^128) :
  Calls Tryz.prog 152 #[.agg #[.string (E p),.string (E q)],.string (E x)] w fun e w'=>e=.returned (.bool (hasB p q x))∧Below w.heap.size w w':=by
 have HP:=Lib.hid (lt128 hp);have HP8:=Lib.hid hp;have HQ:=Lib.hid hq;have HX:=Lib.hid hx;have hz:=nzE h0;have hB:=Blk.new w #[Value.string (E p),Value.string (E q)] 33;by_cases hx0:x=0
 ·have HR:Hid (hasB p q x=false):=by rw [hx0];exact hasB_zero p q
  have hzx:=zE hx0;clear hp hq h0 hx hx0;obtain ⟨hBc0,hBf0,hBc1,hBf1⟩:=hB.x2;go_enter Tryz.func152,Tryz.ntmps152
  go_wp2_with fail
  refine (gformed_c p q _ HP.out HQ.out).mono ?_;rintro e w1 ⟨rfl,hb1⟩;clear hBc0 hBf0 hBc1 hBf1;replace hB:=hB.after hb1;obtain ⟨hBc0,hBf0,hBc1,hBf1⟩:=hB.x2;go_wp2_with fail
  refine (validE_c x _ HX.out).mono ?_;rintro e w' ⟨rfl,rfl⟩;go_wp2;go_ret
  exact ⟨rb HR.out.symm,bt (b1 _ _) hb1⟩
 ·have hzx:=nzE (Nat.pos_of_ne_zero hx0);rcases Nat.lt_or_ge x p with hlt | hge
  ·have HR:=Lib.hid (hasB_q h0 (Nat.pos_of_ne_zero hx0) hlt);have HX8:=Lib.hid (Nat.lt_trans hlt hp);have HPP:Hid (0<p):=by unfold Hid;omega
   have hc:=cmp_neg x p hlt;have HD:=Lib.hid (eqE_dec (x^q%p) (1%p));clear hp hq h0 hx hx0 hlt;obtain ⟨hBc0,hBf0,hBc1,hBf1⟩:=hB.x2;go_enter Tryz.func152,Tryz.ntmps152
   go_wp2_with fail
   refine (gformed_c p q _ HP.out HQ.out).mono ?_;rintro e w1 ⟨rfl,hb1⟩;clear hBc0 hBf0 hBc1 hBf1;replace hB:=hB.after hb1;obtain ⟨hBc0,hBf0,hBc1,hBf1⟩:=hB.x2;go_wp2_with fail
   refine (validE_c x _ HX.out).mono ?_;rintro e w' ⟨rfl,rfl⟩;go_wp2_with fail
   refine (cmp_c x p _ HX.out HP.out).mono ?_;rintro e w' ⟨rfl,rfl⟩;go_wp2_with fail
   refine (mexp_c x q p _ HX8.out HQ.out HP8.out HPP.out).mono ?_;rintro e w2 ⟨rfl,hb2⟩;clear hBc0 hBf0 hBc1 hBf1;replace hB:=hB.after hb2;obtain ⟨hBc0,hBf0,hBc1,hBf1⟩:=hB.x2;go_wp2_with fail
   refine (mexp0_c x p _ HX8.out HP8.out HPP.out).mono ?_;rintro e w3 ⟨rfl,hb3⟩;go_wp2;go_ret
   exact ⟨rb (by rw [HR.out];exact HD.out),bt (bt (bt (b1 _ _) hb1) hb2) hb3⟩
  ·have HR:=Lib.hid (hasB_big (q:=q) hge);have hc:=cmp_nneg x p hge;clear hp hq h0 hx hx0 hge;obtain ⟨hBc0,hBf0,hBc1,hBf1⟩:=hB.x2;go_enter Tryz.func152,Tryz.ntmps152
   go_wp2_with fail
   refine (gformed_c p q _ HP.out HQ.out).mono ?_;rintro e w1 ⟨rfl,hb1⟩;clear hBc0 hBf0 hBc1 hBf1;replace hB:=hB.after hb1;obtain ⟨hBc0,hBf0,hBc1,hBf1⟩:=hB.x2;go_wp2_with fail
   refine (validE_c x _ HX.out).mono ?_;rintro e w' ⟨rfl,rfl⟩;go_wp2_with fail
   refine (cmp_c x p _ HX.out HP.out).mono ?_;rintro e w' ⟨rfl,rfl⟩;go_wp2;go_ret
   exact ⟨rb HR.out.symm,bt (b1 _ _) hb1⟩
end
section
open Go.RowKit
theorem grp0 {p:Nat} (h:grpE p 0=0):bitB p 0=true∧8<p:=by
 have h2:grpE p 0=if p%2=1∧8<p then 0 else 13:=rfl
 rw [h2] at h;by_cases h3:p%2=1∧8<p
 ·exact ⟨by rw [odd_bit,decide_eq_true h3.1],h3.2⟩
 ·rw [if_neg h3] at h;omega
theorem good_c (p:Nat) (w:World) (hp:p<256^8) (hg:grpE p 0=0) :
  Calls Tryz.prog 175 #[.agg #[.string (E p),.string (E 0)]] w fun e w'=>e=.returned (.bool true)∧Below w.heap.size w w':=by
 obtain ⟨hb,h8⟩:=grp0 hg;have HP:=Lib.hid (lt128 hp);have HB:=Lib.hid hb;have hz:=zE (n:=0) rfl;have HO:=Lib.hid (fun w=>ofK_c 8 8 w rfl (by decide));have H8:Hid ((8:Nat)<256^128):=by unfold Hid;decide
 have hB:=Blk.new w #[Value.string (E p),Value.string (E 0)] 33;have hc:0<cmpN p 8:=by have:=cmp_pos p 8 h8;omega
 clear hp hg hb h8;have hBg0:=hB.gcell 0;have hBg1:=hB.gcell 1;go_enter Tryz.func175,Tryz.ntmps175
 go_wp2_with fail
 refine wp_region_gw (by kernel_rfl) (by kernel_rfl) ?_;repeat (go_big_quiet_step (first | (go_at_call 59;exact gw_same (validE_c p _ HP.out)) | (go_at_call 112;exact gw_same (bitV_c p 0 0 true _ rfl HP.out (by omega) HB.out)) | (go_at_call 67;exact gw_of (HO.out _)) | (go_at_call 32;exact gw_same (cmp_c p 8 _ HP.out H8.out))))
 refine wpQuiet_nil ?_;rintro w1 ⟨xw1,rfl⟩;have hb1:=gw_below xw1;generalize gw xw1=w1 at hb1;go_wp2;go_ret
 exact ⟨rfl,bt (b1 _ _) hb1⟩
theorem one_c (w:World):Calls Tryz.prog 177 #[] w fun e w'=>e=.returned (.string (E 1))∧Below w.heap.size w w':=by
 have HO:=Lib.hid (fun w=>ofK_c 1 1 w rfl (by decide));go_enter Tryz.func177,Tryz.ntmps177
 go_wp2_with fail
 refine (HO.out _).mono ?_;rintro e w1 ⟨rfl,hb1⟩;go_wp2;go_ret
 exact ⟨rfl,hb1⟩
theorem uhas_c (p x:Nat) (w:World) (hp:p<256^8) (hg:grpE p 0=0) (hx:x<256^128) :
  Calls Tryz.prog 153 #[.agg #[.string (E p),.string (E 0)],.string (E x)] w fun e w'=>e=.returned (.bool (hasB p 0 x))∧Below w.heap.size w w':=by
 have HP:=Lib.hid (lt128 hp);have HP8:=Lib.hid hp;have HX:=Lib.hid hx;have HGG:=Lib.hid hg;have hB:=Blk.new w #[Value.string (E p),Value.string (E 0)] 33;by_cases hx0:x=0
 ·have HR:Hid (hasB p 0 x=false):=by rw [hx0];exact hasB_zero p 0
  have hzx:=zE hx0;clear hp hx hx0 hg;obtain ⟨hBc0,hBf0,hBc1,hBf1⟩:=hB.x2;go_enter Tryz.func153,Tryz.ntmps153
  go_wp2_with fail
  refine (good_c p _ HP8.out HGG.out).mono ?_;rintro e w1 ⟨rfl,hb1⟩;clear hBc0 hBf0 hBc1 hBf1;replace hB:=hB.after hb1;obtain ⟨hBc0,hBf0,hBc1,hBf1⟩:=hB.x2;go_wp2_with fail
  refine (validE_c x _ HX.out).mono ?_;rintro e w' ⟨rfl,rfl⟩;go_wp2;go_ret
  exact ⟨rb HR.out.symm,bt (b1 _ _) hb1⟩
 ·have hzx:=nzE (Nat.pos_of_ne_zero hx0);rcases Nat.lt_or_ge x p with hlt | hge
  ·have HR:=Lib.hid (hasB_0 (Nat.pos_of_ne_zero hx0) hlt);have HX8:=Lib.hid (Nat.lt_trans hlt hp);have hc:=cmp_neg x p hlt;have HD:=Lib.hid (eqE_dec (Nat.gcd x p) 1);clear hp hx hx0 hlt hg;obtain ⟨hBc0,hBf0,hBc1,hBf1⟩:=hB.x2;go_enter Tryz.func153,Tryz.ntmps153
   go_wp2_with fail
   refine (good_c p _ HP8.out HGG.out).mono ?_;rintro e w1 ⟨rfl,hb1⟩;clear hBc0 hBf0 hBc1 hBf1;replace hB:=hB.after hb1;obtain ⟨hBc0,hBf0,hBc1,hBf1⟩:=hB.x2;go_wp2_with fail
   refine (validE_c x _ HX.out).mono ?_;rintro e w' ⟨rfl,rfl⟩;go_wp2_with fail
   refine (cmp_c x p _ HX.out HP.out).mono ?_;rintro e w' ⟨rfl,rfl⟩;go_wp2_with fail
   refine (gcd_c x p _ HX8.out HP8.out).mono ?_;rintro e w2 ⟨rfl,hb2⟩;go_wp2_with fail
   refine (one_c _).mono ?_;rintro e w3 ⟨rfl,hb3⟩;go_wp2;go_ret
   exact ⟨rb (by rw [HR.out];exact HD.out),bt (bt (bt (b1 _ _) hb1) hb2) hb3⟩
  ·have HR:=Lib.hid (hasB_big (q:=0) hge);have hc:=cmp_nneg x p hge;clear hp hx hx0 hge hg;obtain ⟨hBc0,hBf0,hBc1,hBf1⟩:=hB.x2;go_enter Tryz.func153,Tryz.ntmps153
   go_wp2_with fail
   refine (good_c p _ HP8.out HGG.out).mono ?_;rintro e w1 ⟨rfl,hb1⟩;clear hBc0 hBf0 hBc1 hBf1;replace hB:=hB.after hb1;obtain ⟨hBc0,hBf0,hBc1,hBf1⟩:=hB.x2;go_wp2_with fail
   refine (validE_c x _ HX.out).mono ?_;rintro e w' ⟨rfl,rfl⟩;go_wp2_with fail
   refine (cmp_c x p _ HX.out HP.out).mono ?_;rintro e w' ⟨rfl,rfl⟩;go_wp2;go_ret
   exact ⟨rb HR.out.symm,bt (b1 _ _) hb1⟩
theorem phas_c (p q x:Nat) (w:World) (hp:p<256^8) (hq:q<256^128) (hg:grpE p q=0) (hx:x<256^128) :
  Calls Tryz.prog 126 #[.agg #[.string (E p),.string (E q)],.string (E x)] w fun e w'=>e=.returned (.bool (hasB p q x))∧Below w.heap.size w w':=by
 have HP8:=Lib.hid hp;have HX:=Lib.hid hx;have HGG:=Lib.hid hg;rcases Nat.eq_zero_or_pos q with rfl | h0
 ·have hz:=zE (n:=0) rfl;clear hp hx hg hq;go_enter Tryz.func126,Tryz.ntmps126
  go_wp2_with fail
  refine (uhas_c p x _ HP8.out HGG.out HX.out).mono ?_;rintro e w1 ⟨rfl,hb1⟩;go_wp2;go_ret
  exact ⟨rfl,bt (b1 _ _) hb1⟩
 ·have hz:=nzE h0;have HQ:=Lib.hid hq;have H0:=Lib.hid h0;clear hp hx hg hq h0;go_enter Tryz.func126,Tryz.ntmps126
  go_wp2_with fail
  refine (ghas_c p q x _ HP8.out HQ.out H0.out HX.out).mono ?_;rintro e w1 ⟨rfl,hb1⟩;go_wp2;go_ret
  exact ⟨rfl,bt (b1 _ _) hb1⟩
theorem pcheckV_c (p q k:Nat) (w:World) (hp:p<256^8) (hq:q<256^128) (hg:grpE p q=k) :
  Calls Tryz.prog 94 #[.agg #[.string (E p),.string (E q)]] w fun e w'=>e=.returned (.int .i64 k)∧Below w.heap.size w w':=by
 rw [←hg];exact pcheck_c p q w hp hq
theorem phasV_c (p q x:Nat) (b:Bool) (w:World) (hp:p<256^8) (hq:q<256^128) (hg:grpE p q=0) (hx:x<256^128) (h:hasB p q x=b) :
  Calls Tryz.prog 126 #[.agg #[.string (E p),.string (E q)],.string (E x)] w fun e w'=>e=.returned (.bool b)∧Below w.heap.size w w':=by
 rw [←h];exact phas_c p q x w hp hq hg hx
theorem pHas_c (p q x:Nat) (w:World) (hp:p<256^8) (hq:q<256^128) (hg:grpE p q=0) (hx:x<256^128) :
  Calls Tryz.prog 95 #[.agg #[.string (E p),.string (E q)],.string (E x)] w fun e w'=>e=.returned (.bool (hasB p q x))∧Below w.heap.size w w':=by
 have HP8:=Lib.hid hp;have HX:=Lib.hid hx;have HGG:=Lib.hid hg;have HQ:=Lib.hid hq;have HC:=Lib.hid (fun w=>pcheckV_c p q 0 w hp hq hg);have hB:=Blk.new w #[Value.string (E p),Value.string (E q)] 33;clear hp hx hg hq;obtain ⟨hBc0,hBf0,hBc1,hBf1⟩:=hB.x2;go_enter Tryz.func95,Tryz.ntmps95
 go_wp2_with fail
 refine (HC.out _).mono ?_;rintro e w1 ⟨rfl,hb1⟩;clear hBc0 hBf0 hBc1 hBf1;replace hB:=hB.after hb1;obtain ⟨hBc0,hBf0,hBc1,hBf1⟩:=hB.x2;go_wp2_with fail
 refine (phas_c p q x _ HP8.out HQ.out HGG.out HX.out).mono ?_;rintro e w2 ⟨rfl,hb2⟩;go_wp2;go_ret
 exact ⟨rfl,bt (bt (b1 _ _) hb1) hb2⟩
theorem pHasV_c (p q x:Nat) (b:Bool) (w:World) (hp:p<256^8) (hq:q<256^128) (hg:grpE p q=0) (hx:x<256^128) (h:hasB p q x=b) :
  Calls Tryz.prog 95 #[.agg #[.string (E p),.string (E q)],.string (E x)] w fun e w'=>e=.returned (.bool b)∧Below w.heap.size w w':=by
 rw [←h];exact pHas_c p q x w hp hq hg hx
def vl4 (a b c d:ByteArray):Bool:=vldB a&&vldB b&&vldB c&&vldB d
theorem pformed_c (a b c d:ByteArray) (w:World) (ha:a.size≤1000) (hb:b.size≤1000) (hc:c.size≤1000) (hd:d.size≤1000) :
  Calls Tryz.prog 70 #[.agg #[.string a,.string b,.string c,.string d]] w fun e w'=>e=.returned (.bool (vl4 a b c d))∧Below w.heap.size w w':=by
 have HA:Hid (a.size≤4611686018427387904):=by unfold Hid;omega
 have HB:Hid (b.size≤4611686018427387904):=by unfold Hid;omega
 have HC:Hid (c.size≤4611686018427387904):=by unfold Hid;omega
 have HD:Hid (d.size≤4611686018427387904):=by unfold Hid;omega
 have HV:Hid (vl4 a b c d=(vldB a&&vldB b&&vldB c&&vldB d)):=rfl;clear ha hb hc hd;cases e1:vldB a
 ·have E1:=Lib.hid e1;have HR:Hid (vl4 a b c d=false):=by rw [Hid,HV.out,e1];rfl
  clear e1 HV;go_enter Tryz.func70,Tryz.ntmps70
  go_wp2_with fail
  refine (validV_c a _ _ HA.out E1.out).mono ?_;rintro e w' ⟨rfl,rfl⟩;go_wp2;go_ret
  exact ⟨rb HR.out.symm,b1 _ _⟩
 ·have E1:=Lib.hid e1;cases e2:vldB b
  ·have E2:=Lib.hid e2;have HR:Hid (vl4 a b c d=false):=by rw [Hid,HV.out,e1,e2];rfl
   clear e1 e2 HV;go_enter Tryz.func70,Tryz.ntmps70
   go_wp2_with fail
   refine (validV_c a _ _ HA.out E1.out).mono ?_;rintro e w' ⟨rfl,rfl⟩;go_wp2_with fail
   refine (validV_c b _ _ HB.out E2.out).mono ?_;rintro e w' ⟨rfl,rfl⟩;go_wp2;go_ret
   exact ⟨rb HR.out.symm,b1 _ _⟩
  ·have E2:=Lib.hid e2;cases e3:vldB c
   ·have E3:=Lib.hid e3;have HR:Hid (vl4 a b c d=false):=by rw [Hid,HV.out,e1,e2,e3];rfl
    clear e1 e2 e3 HV;go_enter Tryz.func70,Tryz.ntmps70
    go_wp2_with fail
    refine (validV_c a _ _ HA.out E1.out).mono ?_;rintro e w' ⟨rfl,rfl⟩;go_wp2_with fail
    refine (validV_c b _ _ HB.out E2.out).mono ?_;rintro e w' ⟨rfl,rfl⟩;go_wp2_with fail
    refine (validV_c c _ _ HC.out E3.out).mono ?_;rintro e w' ⟨rfl,rfl⟩;go_wp2;go_ret
    exact ⟨rb HR.out.symm,b1 _ _⟩
   ·have E3:=Lib.hid e3;have HR:Hid (vl4 a b c d=vldB d):=by rw [Hid,HV.out,e1,e2,e3];rfl
    clear e1 e2 e3 HV;go_enter Tryz.func70,Tryz.ntmps70
    go_wp2_with fail
    refine (validV_c a _ _ HA.out E1.out).mono ?_;rintro e w' ⟨rfl,rfl⟩;go_wp2_with fail
    refine (validV_c b _ _ HB.out E2.out).mono ?_;rintro e w' ⟨rfl,rfl⟩;go_wp2_with fail
    refine (validV_c c _ _ HC.out E3.out).mono ?_;rintro e w' ⟨rfl,rfl⟩;go_wp2_with fail
    refine (valid_c d _ HD.out).mono ?_;rintro e w' ⟨rfl,rfl⟩;go_wp2;go_ret
    exact ⟨rb HR.out.symm,b1 _ _⟩
end
end Go.Proofs.YtdoacbdkbbpamaaGreatDoor
