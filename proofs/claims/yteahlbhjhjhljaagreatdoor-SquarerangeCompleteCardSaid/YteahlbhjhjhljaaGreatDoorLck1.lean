import Derived.Test.YteahlbhjhjhljaaGreatDoorSet1
import Derived.Test.YteahlbhjhjhljaaGreatDoorIdx
import Derived.Test.YteahlbhjhjhljaaGreatDoorPow2
set_option linter.unusedVariables false
set_option linter.unusedSimpArgs false
set_option maxRecDepth 100000
set_option maxHeartbeats 16000000
namespace Go.Proofs.YteahlbhjhjhljaaGreatDoor
section
open Go.RowKit
theorem rvalidV_c (s:ByteArray) (b:Bool) (w:World) (hs:s.size≤4611686018427387904) (h:vldB s=b) :
  Calls Tryz.prog 58 #[.string s] w fun e w'=>e=.returned (.bool b)∧w=w':=by rw [←h];exact rvalid_c s w hs
theorem rofK_c (k:Nat) (z:Int) (w:World) (hz:z=(k:Int)) (h:k<256^8):Calls Tryz.prog 62 #[.int .u64 z] w fun e w'=>e=.returned (.string (E k))∧Below w.heap.size w w':=by rw [hz];exact rof_c k w h
theorem szM {n:Nat} (h:n<256^128):(E n).size≤1000000:=by have:=sz n h;omega
theorem rform_c (p q:Nat) (w:World) (hp:p<256^128) (hq:q<256^128) :
  Calls Tryz.prog 189 #[.agg #[.string (E p),.string (E q)]] w fun e w'=>e=.returned (.bool true)∧Below w.heap.size w w':=by
 have HP:=Lib.hid hp;have HQ:=Lib.hid hq;clear hp hq;go_enter Tryz.func189,Tryz.ntmps189
 go_wp2_with fail
 refine (rvalidE_c p _ HP.out).mono ?_;rintro e w' ⟨rfl,rfl⟩;go_wp2_with fail
 refine (rvalidE_c q _ HQ.out).mono ?_;rintro e w' ⟨rfl,rfl⟩;go_wp2;go_ret
 exact ⟨rfl,b1 _ _⟩
theorem mod1 {p:Nat} (h:2≤p):1%p=1:=Nat.mod_eq_of_lt h
theorem rghas_c (p q x:Nat) (w:World) (hp:p<256^8) (hp2:2≤p) (hq:q<256^128) (h0:0<q) (hx:x<256^128) :
  Calls Tryz.prog 126 #[.agg #[.string (E p),.string (E q)],.string (E x)] w fun e w'=>e=.returned (.bool (hasB p q x))∧Below w.heap.size w w':=by
 have HP:=Lib.hid (lt128 hp);have HP64:=Lib.hid (Nat.lt_of_lt_of_le hp (Nat.pow_le_pow_right (show 0<256 by decide) (show 8≤64 by decide)));have HQ:=Lib.hid hq;have HX:=Lib.hid hx;have hz:=nzE h0;have hB:=Blk.new w #[Value.string (E p),Value.string (E q)] 24;have HSX:=Lib.hid (szM hx);have HSP:=Lib.hid (szM (lt128 hp));by_cases hx0:x=0
 ·have HR:Hid (hasB p q x=false):=by rw [hx0];exact hasB_zero p q
  have hzx:=zE hx0;clear hp hq h0 hx hx0 hp2;obtain ⟨hBc0,hBf0,hBc1,hBf1⟩:=hB.x2;go_enter Tryz.func126,Tryz.ntmps126
  go_wp2_with fail
  refine (rform_c p q _ HP.out HQ.out).mono ?_;rintro e w1 ⟨rfl,hb1⟩;clear hBc0 hBf0 hBc1 hBf1;replace hB:=hB.after hb1;obtain ⟨hBc0,hBf0,hBc1,hBf1⟩:=hB.x2;go_wp2_with fail
  refine (rvalidE_c x _ HX.out).mono ?_;rintro e w' ⟨rfl,rfl⟩;go_wp2;go_ret
  exact ⟨rb HR.out.symm,bt (b1 _ _) hb1⟩
 ·have hzx:=nzE (Nat.pos_of_ne_zero hx0);rcases Nat.lt_or_ge x p with hlt | hge
  ·have HR:=Lib.hid (hasB_q h0 (Nat.pos_of_ne_zero hx0) hlt);have HPP:Hid (0<p):=by unfold Hid;omega
   have hc:=cmp_neg x p hlt;have HD:Hid (((E (x^q%p)).toList==[1])=decide (x^q%p=1%p)):=by rw [Hid,mod1 hp2];exact E1L _
   clear hp hq h0 hx hx0 hlt hp2;obtain ⟨hBc0,hBf0,hBc1,hBf1⟩:=hB.x2;go_enter Tryz.func126,Tryz.ntmps126
   go_wp2_with fail
   refine (rform_c p q _ HP.out HQ.out).mono ?_;rintro e w1 ⟨rfl,hb1⟩;clear hBc0 hBf0 hBc1 hBf1;replace hB:=hB.after hb1;obtain ⟨hBc0,hBf0,hBc1,hBf1⟩:=hB.x2;go_wp2_with fail
   refine (rvalidE_c x _ HX.out).mono ?_;rintro e w' ⟨rfl,rfl⟩;go_wp2_with fail
   refine (rorder_c x p _ HSX.out HSP.out).mono ?_;rintro e w2 ⟨rfl,hb2⟩;clear hBc0 hBf0 hBc1 hBf1;replace hB:=hB.after hb2;obtain ⟨hBc0,hBf0,hBc1,hBf1⟩:=hB.x2;go_wp2_with fail
   refine (rexp3_c x q p _ HX.out HQ.out HP64.out HPP.out).mono ?_;rintro e w3 ⟨rfl,hb3⟩;go_wp2;go_ret
   exact ⟨rb (by rw [HR.out];exact HD.out),bt (bt (bt (b1 _ _) hb1) hb2) hb3⟩
  ·have HR:=Lib.hid (hasB_big (q:=q) hge);have hc:=cmp_nneg x p hge;clear hp hq h0 hx hx0 hge hp2;obtain ⟨hBc0,hBf0,hBc1,hBf1⟩:=hB.x2;go_enter Tryz.func126,Tryz.ntmps126
   go_wp2_with fail
   refine (rform_c p q _ HP.out HQ.out).mono ?_;rintro e w1 ⟨rfl,hb1⟩;clear hBc0 hBf0 hBc1 hBf1;replace hB:=hB.after hb1;obtain ⟨hBc0,hBf0,hBc1,hBf1⟩:=hB.x2;go_wp2_with fail
   refine (rvalidE_c x _ HX.out).mono ?_;rintro e w' ⟨rfl,rfl⟩;go_wp2_with fail
   refine (rorder_c x p _ HSX.out HSP.out).mono ?_;rintro e w2 ⟨rfl,hb2⟩;go_wp2;go_ret
   exact ⟨rb HR.out.symm,bt (bt (b1 _ _) hb1) hb2⟩
theorem rhas_c (p q x:Nat) (w:World) (hp:p<256^8) (hq:q<256^128) (hg:grpE p q=0) (hx:x<256^128) :
  Calls Tryz.prog 60 #[.agg #[.string (E p),.string (E q)],.string (E x)] w fun e w'=>e=.returned (.bool (hasB p q x))∧Below w.heap.size w w':=by
 have HP8:=Lib.hid hp;have HP:=Lib.hid (lt128 hp);have HX:=Lib.hid hx;have HP2:=Lib.hid (grp_gt hg);have HSX:=Lib.hid (szM hx);have HSP:=Lib.hid (szM (lt128 hp));rcases Nat.eq_zero_or_pos q with rfl | h0
 ·have hz:=zE (n:=0) rfl;have hB:=Blk.new w #[Value.string (E p),Value.string (E 0)] 24;by_cases hx0:x=0
  ·have HR:Hid (hasB p 0 x=false):=by rw [hx0];exact hasB_zero p 0
   have hzx:=zE hx0;clear hp hx hg hq hx0;go_enter Tryz.func60,Tryz.ntmps60
   go_wp2;go_ret
   exact ⟨rb HR.out.symm,b1 _ _⟩
  ·have hzx:=nzE (Nat.pos_of_ne_zero hx0);rcases Nat.lt_or_ge x p with hlt | hge
   ·have HR:=Lib.hid (hasB_0 (Nat.pos_of_ne_zero hx0) hlt);have hc:=cmp_neg x p hlt;have HD:=Lib.hid (E1L (Nat.gcd x p));clear hp hx hg hq hx0 hlt;obtain ⟨hBc0,hBf0,hBc1,hBf1⟩:=hB.x2;go_enter Tryz.func60,Tryz.ntmps60
    go_wp2_with fail
    refine (rorder_c x p _ HSX.out HSP.out).mono ?_;rintro e w1 ⟨rfl,hb1⟩;clear hBc0 hBf0 hBc1 hBf1;replace hB:=hB.after hb1;obtain ⟨hBc0,hBf0,hBc1,hBf1⟩:=hB.x2;go_wp2_with fail
    refine (rcommon_c x p _ HX.out HP.out).mono ?_;rintro e w2 ⟨rfl,hb2⟩;go_wp2;go_ret
    exact ⟨rb (by rw [HR.out];exact HD.out),bt (bt (b1 _ _) hb1) hb2⟩
   ·have HR:=Lib.hid (hasB_big (q:=0) hge);have hc:=cmp_nneg x p hge;clear hp hx hg hq hx0 hge;obtain ⟨hBc0,hBf0,hBc1,hBf1⟩:=hB.x2;go_enter Tryz.func60,Tryz.ntmps60
    go_wp2_with fail
    refine (rorder_c x p _ HSX.out HSP.out).mono ?_;rintro e w1 ⟨rfl,hb1⟩;go_wp2;go_ret
    exact ⟨rb HR.out.symm,bt (b1 _ _) hb1⟩
 ·have hz:=nzE h0;have HQ:=Lib.hid hq;have H0:=Lib.hid h0;clear hp hx hg hq h0;go_enter Tryz.func60,Tryz.ntmps60
  go_wp2_with fail
  refine (rghas_c p q x _ HP8.out HP2.out HQ.out H0.out HX.out).mono ?_;rintro e w1 ⟨rfl,hb1⟩;go_wp2;go_ret
  exact ⟨rfl,bt (b1 _ _) hb1⟩
theorem lastb (p:Nat) (h:0<p):((E p)[(E p).size-1]'(by have:=(E_size_pos p).2 h;omega)).toNat=p%256:=by
 have hs:=(E_size_pos p).2 h;rw [dgt_at (E p) 0 ((E p).size-1) hs (by omega),dgt_E,Nat.pow_zero,Nat.div_one]
theorem rorder8_c (p:Nat) (w:World) (h1:(E p).size≤1000000) :
  Calls Tryz.prog 63 #[.string (E p),.string { data:=#[8] }] w fun e w'=>e=.returned (.int .i64 (cmpN p 8))∧Below w.heap.size w w':=
 rorder_c p 8 w h1 (by decide)
theorem rminus1_c (p:Nat) (w:World) (h1:(E p).size≤1000000) (h:1≤p) :
  Calls Tryz.prog 125 #[.string (E p),.string { data:=#[1] }] w fun e w'=>e=.returned (.string (E (p-1)))∧Below w.heap.size w w':=
 rminus_c p 1 w h1 h
theorem rpcheck_0 (p:Nat) (w:World) (hp:p<256^8) :
  Calls Tryz.prog 59 #[.agg #[.string (E p),.string (E 0)]] w fun e w'=>e=.returned (.int .i64 (grpE p 0))∧Below w.heap.size w w':=by
 have HP:=Lib.hid (lt128 hp);have HP0:Hid ((0:Nat)<256^128):=by unfold Hid;decide
 have HSP:=Lib.hid (szM (lt128 hp));have hz:=zE (n:=0) rfl;have hB:=Blk.new w #[Value.string (E p),Value.string (E 0)] 24;have HG:Hid (grpE p 0=if p%2=1∧8<p then 0 else 13):=rfl;by_cases hp0:p=0
 ·have HG':Hid (grpE p 0=13):=by rw [Hid,HG.out,if_neg (by omega)]
  have hzp:=zE hp0;clear hp hp0 HG;go_enter Tryz.func59,Tryz.ntmps59
  go_wp2_with fail
  refine (rvalidE_c p _ HP.out).mono ?_;rintro e w' ⟨rfl,rfl⟩;go_wp2_with fail
  refine (rvalidE_c 0 _ HP0.out).mono ?_;rintro e w' ⟨rfl,rfl⟩;go_wp2;go_ret
  exact ⟨ri (by rw [HG'.out];rfl),b1 _ _⟩
 ·have hzp:=nzE (Nat.pos_of_ne_zero hp0);have hsz:=(E_size_pos p).2 (Nat.pos_of_ne_zero hp0);have hsz2:=sz p HP.out;have hlb:=lastb p (Nat.pos_of_ne_zero hp0);have hi1:(1:Int)≤((E p).size:Int):=by omega
  have hpar:(((E p)[(E p).size-1]'(by omega)).toNat:Int)%2=((p%2:Nat):Int):=by rw [hlb];omega
  by_cases hodd:p%2=1
  ·have ht:((((E p)[(E p).size-1]'(by omega)).toNat:Int)%2==0)=false:=by rw [hpar,hodd];rfl
   by_cases h8:8<p
   ·have HG':Hid (grpE p 0=0):=by rw [Hid,HG.out,if_pos ⟨hodd,h8⟩]
    have hc:=cmp_pos p 8 h8;clear hp hpar hlb h8 HG hodd;obtain ⟨hBc0,hBf0,hBc1,hBf1⟩:=hB.x2;go_enter Tryz.func59,Tryz.ntmps59
    go_wp2_with fail
    refine (rvalidE_c p _ HP.out).mono ?_;rintro e w' ⟨rfl,rfl⟩;go_wp2_with fail
    refine (rvalidE_c 0 _ HP0.out).mono ?_;rintro e w' ⟨rfl,rfl⟩;go_wp2_with fail
    refine (rorder8_c p _ HSP.out).mono ?_;rintro e w1 ⟨rfl,hb1⟩;go_wp2;go_ret
    exact ⟨ri (by rw [HG'.out];rfl),bt (b1 _ _) hb1⟩
   ·have HG':Hid (grpE p 0=13):=by rw [Hid,HG.out,if_neg (by omega)]
    have hc:=cmp_npos p 8 (by omega);clear hp hpar hlb h8 HG hodd;obtain ⟨hBc0,hBf0,hBc1,hBf1⟩:=hB.x2;go_enter Tryz.func59,Tryz.ntmps59
    go_wp2_with fail
    refine (rvalidE_c p _ HP.out).mono ?_;rintro e w' ⟨rfl,rfl⟩;go_wp2_with fail
    refine (rvalidE_c 0 _ HP0.out).mono ?_;rintro e w' ⟨rfl,rfl⟩;go_wp2_with fail
    refine (rorder8_c p _ HSP.out).mono ?_;rintro e w1 ⟨rfl,hb1⟩;go_wp2;go_ret
    exact ⟨ri (by rw [HG'.out];rfl),bt (b1 _ _) hb1⟩
  ·have ht:((((E p)[(E p).size-1]'(by omega)).toNat:Int)%2==0)=true:=by rw [hpar,show p%2=0 by omega];rfl
   have HG':Hid (grpE p 0=13):=by rw [Hid,HG.out,if_neg (by omega)]
   clear hp hpar hlb HG hodd;obtain ⟨hBc0,hBf0,hBc1,hBf1⟩:=hB.x2;go_enter Tryz.func59,Tryz.ntmps59
   go_wp2_with fail
   refine (rvalidE_c p _ HP.out).mono ?_;rintro e w' ⟨rfl,rfl⟩;go_wp2_with fail
   refine (rvalidE_c 0 _ HP0.out).mono ?_;rintro e w' ⟨rfl,rfl⟩;go_wp2;go_ret
   exact ⟨ri (by rw [HG'.out];rfl),b1 _ _⟩
theorem E1n {n:Nat} (h:n≠1):((E n).toList==[1])=false:=by rw [E1L];exact decide_eq_false h
theorem E1y {n:Nat} (h:n=1):((E n).toList==[1])=true:=by rw [E1L];exact decide_eq_true h
theorem rpcheck_q (p q:Nat) (w:World) (hp:p<256^8) (hq:q<256^128) (h0:0<q) :
  Calls Tryz.prog 59 #[.agg #[.string (E p),.string (E q)]] w fun e w'=>e=.returned (.int .i64 (grpE p q))∧Below w.heap.size w w':=by
 have HP:=Lib.hid (lt128 hp);have HQ:=Lib.hid hq;have H0:=Lib.hid h0;have hz:=nzE h0;have HSP:=Lib.hid (szM (lt128 hp));have hB:=Blk.new w #[Value.string (E p),Value.string (E q)] 24;have HG:=Lib.hid (grpE_q (p:=p) h0);by_cases hp0:p=0
 ·have HG':Hid (grpE p q=13):=by rw [Hid,HG.out,if_neg (by omega)]
  have e1:=zE hp0;clear hp hq h0 HG hp0;obtain ⟨hBc0,hBf0,hBc1,hBf1⟩:=hB.x2;go_enter Tryz.func59,Tryz.ntmps59
  go_wp2_with fail
  refine (rvalidE_c p _ HP.out).mono ?_;rintro e w' ⟨rfl,rfl⟩;go_wp2_with fail
  refine (rvalidE_c q _ HQ.out).mono ?_;rintro e w' ⟨rfl,rfl⟩;go_wp2;go_ret
  exact ⟨ri (by rw [HG'.out];rfl),b1 _ _⟩
 ·have e1:=nzE (Nat.pos_of_ne_zero hp0);by_cases hp1:p=1
  ·have HG':Hid (grpE p q=13):=by rw [Hid,HG.out,if_neg (by omega)]
   have e2:=E1y hp1;clear hp hq h0 HG hp0 hp1;obtain ⟨hBc0,hBf0,hBc1,hBf1⟩:=hB.x2;go_enter Tryz.func59,Tryz.ntmps59
   go_wp2_with fail
   refine (rvalidE_c p _ HP.out).mono ?_;rintro e w' ⟨rfl,rfl⟩;go_wp2_with fail
   refine (rvalidE_c q _ HQ.out).mono ?_;rintro e w' ⟨rfl,rfl⟩;go_wp2;go_ret
   exact ⟨ri (by rw [HG'.out];rfl),b1 _ _⟩
  ·have e2:=E1n hp1;by_cases hq1:q=1
   ·have HG':Hid (grpE p q=13):=by rw [Hid,HG.out,if_neg (by omega)]
    have e3:=E1y hq1;clear hp hq h0 HG hp0 hp1 hq1;obtain ⟨hBc0,hBf0,hBc1,hBf1⟩:=hB.x2;go_enter Tryz.func59,Tryz.ntmps59
    go_wp2_with fail
    refine (rvalidE_c p _ HP.out).mono ?_;rintro e w' ⟨rfl,rfl⟩;go_wp2_with fail
    refine (rvalidE_c q _ HQ.out).mono ?_;rintro e w' ⟨rfl,rfl⟩;go_wp2;go_ret
    exact ⟨ri (by rw [HG'.out];rfl),b1 _ _⟩
   ·have e3:=E1n hq1;have HLE:Hid (1≤p):=by unfold Hid;omega
    have HPB:Hid ((E (p-1)).size≤1000):=sz1000 (by have:=HP.out;omega);have HQB:Hid ((E q).size≤1000):=sz1000 hq;by_cases hr:(p-1)%q=0
    ·have HG':Hid (grpE p q=0):=by rw [Hid,HG.out,if_pos (by omega)]
     have hz2:=zE hr;clear hp hq h0 HG hp0 hp1 hq1 hr;have hBg0:=hB.gcell 0;have hBg1:=hB.gcell 1;obtain ⟨hBc0,hBf0,hBc1,hBf1⟩:=hB.x2;go_enter Tryz.func59,Tryz.ntmps59
     go_wp2_with fail
     refine (rvalidE_c p _ HP.out).mono ?_;rintro e w' ⟨rfl,rfl⟩;go_wp2_with fail
     refine (rvalidE_c q _ HQ.out).mono ?_;rintro e w' ⟨rfl,rfl⟩;go_wp2_with fail
     clear hBc0 hBf0 hBc1 hBf1;go_wp2_with fail
     refine wp_region_gw (by kernel_rfl) (by kernel_rfl) ?_;repeat (go_big_quiet_step (first | (go_at_call 125;exact gw_of (rminus1_c p _ HSP.out HLE.out)) | (go_at_call 124;exact gw_of (rover_c (p-1) q _ H0.out HPB.out HQB.out))))
     refine wpQuiet_nil ?_;rintro w1 ⟨xw1,rfl⟩;have hb1:=gw_below xw1;generalize gw xw1=w1 at hb1;go_wp2;go_ret
     exact ⟨ri (by rw [HG'.out];rfl),bt (b1 _ _) hb1⟩
    ·have HG':Hid (grpE p q=13):=by rw [Hid,HG.out,if_neg (by omega)]
     have hz2:=nzE (Nat.pos_of_ne_zero hr);clear hp hq h0 HG hp0 hp1 hq1 hr;have hBg0:=hB.gcell 0;have hBg1:=hB.gcell 1;obtain ⟨hBc0,hBf0,hBc1,hBf1⟩:=hB.x2;go_enter Tryz.func59,Tryz.ntmps59
     go_wp2_with fail
     refine (rvalidE_c p _ HP.out).mono ?_;rintro e w' ⟨rfl,rfl⟩;go_wp2_with fail
     refine (rvalidE_c q _ HQ.out).mono ?_;rintro e w' ⟨rfl,rfl⟩;go_wp2_with fail
     clear hBc0 hBf0 hBc1 hBf1;go_wp2_with fail
     refine wp_region_gw (by kernel_rfl) (by kernel_rfl) ?_;repeat (go_big_quiet_step (first | (go_at_call 125;exact gw_of (rminus1_c p _ HSP.out HLE.out)) | (go_at_call 124;exact gw_of (rover_c (p-1) q _ H0.out HPB.out HQB.out))))
     refine wpQuiet_nil ?_;rintro w1 ⟨xw1,rfl⟩;have hb1:=gw_below xw1;generalize gw xw1=w1 at hb1;go_wp2;go_ret
     exact ⟨ri (by rw [HG'.out];rfl),bt (b1 _ _) hb1⟩
theorem rpcheckV_c (p q k:Nat) (w:World) (hp:p<256^8) (hq:q<256^128) (hg:grpE p q=k) :
  Calls Tryz.prog 59 #[.agg #[.string (E p),.string (E q)]] w fun e w'=>e=.returned (.int .i64 k)∧Below w.heap.size w w':=by
 rw [←hg];rcases Nat.eq_zero_or_pos q with rfl | h0
 ·exact rpcheck_0 p w hp
 ·exact rpcheck_q p q w hp hq h0
theorem rhasV_c (p q x:Nat) (b:Bool) (w:World) (hp:p<256^8) (hq:q<256^128) (hg:grpE p q=0) (hx:x<256^128) (h:hasB p q x=b) :
  Calls Tryz.prog 60 #[.agg #[.string (E p),.string (E q)],.string (E x)] w fun e w'=>e=.returned (.bool b)∧Below w.heap.size w w':=by
 rw [←h];exact rhas_c p q x w hp hq hg hx
theorem rHasV_c (p q x:Nat) (b:Bool) (w:World) (hp:p<256^8) (hq:q<256^128) (hg:grpE p q=0) (hx:x<256^128) (hb:hasB p q x=b) :
  Calls Tryz.prog 177 #[.agg #[.string (E p),.string (E q)],.string (E x)] w fun e w'=>e=.returned (.bool b)∧Below w.heap.size w w':=by
 have HX:=Lib.hid hx;have HC:=Lib.hid (fun w=>rpcheckV_c p q 0 w hp hq hg);have HH:=Lib.hid (fun w=>rhasV_c p q x b w hp hq hg hx hb);have hB:=Blk.new w #[Value.string (E p),Value.string (E q)] 24;clear hp hx hg hq hb;obtain ⟨hBc0,hBf0,hBc1,hBf1⟩:=hB.x2;go_enter Tryz.func177,Tryz.ntmps177
 go_wp2_with fail
 refine (HC.out _).mono ?_;rintro e w1 ⟨rfl,hb1⟩;clear hBc0 hBf0 hBc1 hBf1;replace hB:=hB.after hb1;obtain ⟨hBc0,hBf0,hBc1,hBf1⟩:=hB.x2;go_wp2_with fail
 refine (rvalidE_c x _ HX.out).mono ?_;rintro e w' ⟨rfl,rfl⟩;go_wp2_with fail
 refine (HH.out _).mono ?_;rintro e w2 ⟨rfl,hb2⟩;go_wp2;go_ret
 exact ⟨rfl,bt (bt (b1 _ _) hb1) hb2⟩
theorem rraw_c (p q x:Nat) (z:Int) (w:World) (hp:p<256^8) (hg:grpE p q=0) (hx:hasB p q x=true) (hz:z.natAbs<256^128) :
  Calls Tryz.prog 61 #[.agg #[.string (E p),.string (E q)],.string (E x),.agg #[.bool (sg (z)),.string (E (z).natAbs)]] w fun e w'=>e=.returned (.string (E (powI x z p)))∧Below w.heap.size w w':=by
 have hp2:=grp_gt hg;have HPW:=Lib.hid (fun w=>rpow3_c x z p w (lt128 (Nat.lt_trans (has_lt hx) hp)) hz (Nat.lt_of_lt_of_le hp (Nat.pow_le_pow_right (show 0<256 by decide) (show 8≤32 by decide))) (by omega) (fun _=>has_coprime hp2 hx));clear hp hg hx hz hp2;go_enter Tryz.func61,Tryz.ntmps61
 go_wp2_with fail
 refine (HPW.out _).mono ?_;rintro e w1 ⟨rfl,hb1⟩;go_wp2;go_ret
 exact ⟨rfl,bt (b2 _ _ _) hb1⟩
theorem rexp13_c (p q x:Nat) (z:Int) (w:World) (hp:p<256^8) (hq:q<256^128) (hg:grpE p q=0) (hx:hasB p q x=true) (hz:z.natAbs<256^128) :
  Calls Tryz.prog 16 #[.agg #[.string (E p),.string (E q)],.string (E x),.agg #[.bool (sg (z)),.string (E (z).natAbs)]] w fun e w'=>e=.returned (.tuple #[.string (E (powI x z p)),.int .i64 0])∧Below w.heap.size w w':=by
 have hx1:=lt128 (Nat.lt_trans (has_lt hx) hp);have HX:=Lib.hid hx1;have HZ:=Lib.hid hz;have HC:=Lib.hid (fun w=>rpcheckV_c p q 0 w hp hq hg);have HH:=Lib.hid (fun w=>rhasV_c p q x true w hp hq hg hx1 hx);have HR:=Lib.hid (fun w=>rraw_c p q x z w hp hg hx hz);have hB:=blk2a w #[Value.string (E p),Value.string (E q)] #[.bool (sg z),.string (E z.natAbs)] 24 28;have hI:=blk2b w #[Value.string (E p),Value.string (E q)] #[.bool (sg z),.string (E z.natAbs)] 24 28;clear hp hg hq hx hx1 hz;obtain ⟨hBc0,hBf0,hBc1,hBf1⟩:=hB.x2;obtain ⟨hIc0,hIf0,hIc1,hIf1⟩:=hI.x2;go_enter Tryz.func16,Tryz.ntmps16
 go_wp2_with fail
 refine (rvalidE_c x _ HX.out).mono ?_;rintro e w' ⟨rfl,rfl⟩;go_wp2_with fail
 refine (rivalidI_c z _ HZ.out).mono ?_;rintro e w0 ⟨rfl,hb0⟩;clear hBc0 hBf0 hBc1 hBf1;clear hIc0 hIf0 hIc1 hIf1;replace hB:=hB.after hb0;replace hI:=hI.after hb0;obtain ⟨hBc0,hBf0,hBc1,hBf1⟩:=hB.x2;obtain ⟨hIc0,hIf0,hIc1,hIf1⟩:=hI.x2;go_wp2_with fail
 refine (HC.out _).mono ?_;rintro e w1 ⟨rfl,hb1⟩;clear hBc0 hBf0 hBc1 hBf1;clear hIc0 hIf0 hIc1 hIf1;replace hB:=hB.after hb1;replace hI:=hI.after hb1;obtain ⟨hBc0,hBf0,hBc1,hBf1⟩:=hB.x2;obtain ⟨hIc0,hIf0,hIc1,hIf1⟩:=hI.x2;go_wp2_with fail
 refine (HH.out _).mono ?_;rintro e w2 ⟨rfl,hb2⟩;clear hBc0 hBf0 hBc1 hBf1;clear hIc0 hIf0 hIc1 hIf1;replace hB:=hB.after hb2;replace hI:=hI.after hb2;obtain ⟨hBc0,hBf0,hBc1,hBf1⟩:=hB.x2;obtain ⟨hIc0,hIf0,hIc1,hIf1⟩:=hI.x2;go_wp2_with fail
 refine (HR.out _).mono ?_;rintro e w3 ⟨rfl,hb3⟩;go_wp2;go_ret2
 exact ⟨rfl,bt (bt (bt (bt (b2 _ _ _) hb0) hb1) hb2) hb3⟩
end
section
open Go.RowKit
theorem eqF {a b:Nat} (h:a≠b):((E a).toList != (E b).toList)=true:=by rw [bne,neE h];rfl
theorem eqT {a b:Nat} (h:a=b):((E a).toList != (E b).toList)=false:=by rw [bne,eqE h];rfl
theorem vz_pos {n:Nat} (h:0<n):vz n=false:=by simp [vz];omega
theorem grpE_13 {p q:Nat} (h:grpE p q≠0):grpE p q=13:=by
 unfold grpE at *;split
 ·split
  ·rename_i h1 h2;rw [if_pos h1,if_pos h2] at h;exact absurd rfl h
  ·rfl
 ·split
  ·rename_i h1 h2;rw [if_neg h1,if_pos h2] at h;exact absurd rfl h
  ·rfl
def og (g:Nat × Nat):Bool:=vz g.2
theorem ord_hit (N:NSta) (k:Nat) (h:k<N.grps.length) (ha:(N.grps.take k).all og=true) (h0:N.grps[k].2≠0):N.ord=N.grps[k].2:=by
 have e:N.grps=N.grps.take k++N.grps[k] :: N.grps.drop (k+1):=by
  rw [List.getElem_cons_drop,List.take_append_drop]
 have hf:((N.grps.take k).map (·.2)).find? (· != 0)=none:=by
  rw [List.find?_eq_none];intro x hx;obtain ⟨g,hg,rfl⟩:=List.mem_map.1 hx;have:=List.all_eq_true.1 ha g hg;simpa [og,vz] using this
 unfold NSta.ord
 have h1:N.grps.map (·.2)=(N.grps.take k).map (·.2)++N.grps[k].2 :: (N.grps.drop (k+1)).map (·.2):=by
  conv=>lhs;rw [e]
  rw [List.map_append,List.map_cons]
 rw [h1,List.find?_append,hf,List.find?_cons_of_pos (by simpa using h0)];rfl
theorem ord_none (N:NSta) (ha:N.grps.all og=true):N.ord=0:=by
 unfold NSta.ord
 have hf:(N.grps.map (·.2)).find? (· != 0)=none:=by
  rw [List.find?_eq_none];intro x hx;obtain ⟨g,hg,rfl⟩:=List.mem_map.1 hx;have:=List.all_eq_true.1 ha g hg;simpa [og,vz] using this
 rw [hf];rfl
theorem rorder15_c (N:NSta) (v1 v2 v3:Value) (w:World) (hm:NOk N) (hS:NAt w v1 v2 v3 N) :
  Calls Tryz.prog 53 #[.agg #[v1,v2,v3]] w fun e w'=>e=.returned (.string (E N.ord))∧Below w.heap.size w w':=by
 obtain ⟨a1,c1,a2,c2,a3,c3,rfl,rfl,rfl⟩:=hS.forms;obtain ⟨n1,hn1⟩:∃n,n=N.grps.length:=⟨_,rfl⟩;obtain ⟨n2,hn2⟩:∃n,n=N.vars.length:=⟨_,rfl⟩;obtain ⟨n3,hn3⟩:∃n,n=N.eqs.length:=⟨_,rfl⟩;have HN1:=Lib.hid hn1;have HN2:=Lib.hid hn2;have HN3:=Lib.hid hn3;have l1:n1≤10:=by rw [hn1];exact hm.ng
 have l2:n2≤12:=by rw [hn2];exact hm.nv
 have l3:n3≤12:=by rw [hn3];exact hm.ne
 have HM:=Lib.hid hm;rw [←hn1,←hn2,←hn3] at hS ⊢;clear hm hn1 hn2 hn3;have hP:=Blk.new w #[.slice a1 n1 c1,.slice a2 n2 c2,.slice a3 n3 c3] 43;have hBW:=b1 w (.cells #[.slice a1 n1 c1,.slice a2 n2 c2,.slice a3 n3 c3] 43);replace hS:=hS.after hBW;obtain ⟨hPc0,hPf0,hPc1,hPf1,hPc2,hPf2⟩:=hP.x3;go_enter Tryz.func53,Tryz.ntmps53
 go_wp2;clear hPc0 hPf0 hPc1 hPf1 hPc2 hPf2;generalize w.alloc (.cells #[.slice a1 n1 c1,.slice a2 n2 c2,.slice a3 n3 c3] 43)=w1 at hP hBW hS;replace hP:Blk w1 w.heap.size 43 [.slice a1 n1 c1,.slice a2 n2 c2,.slice a3 n3 c3]:=hP;go_loopw [3] (fun i wr=>∃k:Nat,k≤n1∧i=.int .i64 k∧Hid ((N.grps.take k).all og=true)∧Below w1.heap.size w1 wr) (fun i _=>n1-(intOf i).toNat)
 case atStart=>exact ⟨0,by omega,rfl,rfl,Below.refl _ _⟩
 case round =>
  obtain ⟨k,hk,rfl,HA,hbr⟩:=hrel;obtain ⟨wp,hwp⟩:∃wp,wp=wr:=⟨_,rfl⟩;subst hwp;replace hS:=hS.after hbr;replace hP:=hP.after hbr;replace hBW:=bt hBW hbr;by_cases hlt:k<n1
  ·have hkl:k<N.grps.length:=by rw [←HN1.out];exact hlt
   have HT:=Lib.hid (all_take og N.grps k hkl);have HO:=Lib.hid (ord_hit N k hkl HA.out);have HOG:Hid (og (N.grps[k]'hkl)=vz (N.grps[k]'hkl).2):=rfl;obtain ⟨b,o,rfl,hbl,x1,x2⟩:=hS.gat hkl;generalize og (N.grps[k]'hkl)=ok at HT HOG;generalize (N.grps[k]'hkl).1=s1 at x1;generalize (N.grps[k]'hkl).2=s2 at x2 HO HOG;have h0k:(0:Int)≤(k:Int):=by omega
   have h1k:(k:Int)<(n1:Int):=by omega
   have hPl:=hP.lt;have hB:=Blk.new wp #[.string (E s1),.string (E s2)] 24;rcases Nat.eq_zero_or_pos s2 with rfl | h0
   ·have hz:=zE (n:=0) rfl;have HX:Hid ((N.grps.take (k+1)).all og=true):=by rw [Hid,HT.out,HA.out,HOG.out];rfl
    clear HO;obtain ⟨hPc0,hPf0,hPc1,hPf1,hPc2,hPf2⟩:=hP.x3;obtain ⟨hBc0,hBf0,hBc1,hBf1⟩:=hB.x2;go_wp2;go_roundw
    case rel=>exact ⟨k+1,by omega,by go_num,HX,hbr⟩
    case measure=>simp [intOf];omega
   ·have hz:=nzE h0;have HF:=Lib.hid (HO.out (by omega));clear HO h0;obtain ⟨hPc0,hPf0,hPc1,hPf1,hPc2,hPf2⟩:=hP.x3;obtain ⟨hBc0,hBf0,hBc1,hBf1⟩:=hB.x2;go_wp2;go_ret
    exact ⟨by rw [HF.out];rfl,hBW⟩
  ·have HF:=Lib.hid (ord_none N (all_end og N.grps k (by rw [←HN1.out];omega) HA.out));obtain ⟨hPc0,hPf0,hPc1,hPf1,hPc2,hPf2⟩:=hP.x3;go_wp2;go_ret
   exact ⟨by rw [HF.out];rfl,hBW⟩
end
end Go.Proofs.YteahlbhjhjhljaaGreatDoor
